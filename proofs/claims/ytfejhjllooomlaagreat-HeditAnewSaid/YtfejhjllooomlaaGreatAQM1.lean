/- Plain laws (1). -/
import Derived.Test.YtfejhjllooomlaaGreatAVm3
import Derived.Test.YtfejhjllooomlaaGreatAVm1
import Derived.Test.YtfejhjllooomlaaGreatAQS2
open List renaming length_set->lw,replicate->ut,length_replicate->IR,set_set->M2,mem_map->PP,mem_of_mem_take->UV,length_take->aa4,nodup_cons->abL,length_map->abM,mem_singleton->abU,getElem?_eq_getElem->ac9,mem_append->acl,set_comm->acH,length_cons->acQ,take_length->acV,mem_filter->ado,mem_cons->ai1,length->aiD
open Classical renaming not_not->rc,not_forall->AC,byContradiction->EQ,not_imp->abI
open Option.some renaming injEq->v4
open Nat renaming gcd->v6,gcd_comm->abH,le_refl->abX,gcd_dvd_right->ac5,gcd_pos_of_pos_right->acg,mul_div_cancel'->acD,gcd_zero_right->acK,gcd_dvd_left->acP,strongRecOn->acX,div_le_self->adc,le_trans->aiA
open Bool renaming not_false->ww,not_true->Do,not_eq_true->ack,or_eq_false_iff->acB,false_or->acJ,false_eq_true->acO,true->aiL,false->aiN
open Int renaming mul_le_mul_of_nonneg_right->If,mul_neg_of_neg_of_pos->ab0,eq_ofNat_of_zero_le->ab1,ofNat->abJ,neg_mul->abK,mul_comm->abP,mul_lt_mul_of_pos_right->abQ,fdiv_eq_ediv_of_nonneg->abR,mul_le_mul->abS,tdiv_eq_ediv_of_nonneg->abT,lt_of_mul_lt_mul_right->abV,lt_trichotomy->abZ,mul_nonneg->acx,tdiv->acy,natCast_mul->adk,ofNat_tmod->adp,ofNat_tdiv->adF,mul_assoc->agd,toNat->aig
open Prod.mk renaming injEq->NE
open List.Perm renaming refl->acr
open Option renaming some->aiH
open Decidable renaming decide->aiP
namespace Go.Vm
instance lpN:LP:=⟨none⟩
section
variable {σ ρ : Type}
theorem qS {body:σ->Option (Step σ ρ)} {x:σ} {r:ρ}:aB body x=aiH r↔ ∃n,ou body n x=aiH r:=Df
theorem aM {body:σ->Option (Step σ ρ)} {x y:σ} (h:body x=aiH (.next y)):aB body x=aB body y:=by
 apply Option.ext;intro r;rw [qS,qS];constructor
 · rintro ⟨n,hn⟩
   cases n with
   |zero=>cases hn
   |succ n=>simp only [ou,h] at hn;exact ⟨n,hn⟩
 rintro ⟨n,hn⟩
 exact ⟨n+1,by simp only [ou,h];exact hn⟩
theorem aA {body:σ->Option (Step σ ρ)} {x:σ} {r:ρ} (h:body x=aiH (.done r)):aB body x=aiH r:=
 qS.2 ⟨1,by simp only [ou,h]⟩
end
end Go.Vm
namespace Go.Proofs.YtfejhjllooomlaaGreat
open Go.Vm
noncomputable def iO (s:(Int×Int×(List (Int×Int×Int))×(List (Int×Int×Int)))):Option (Step (Int×Int×(List (Int×Int×Int))×(List (Int×Int×Int))) Field):=
 bif aiP (s.2.1<(abJ (aiD s.2.2.1))) then
  (aE s.2.2.1 s.2.1).bind fun a0=>
  bif a0.1 !=s.1 then
   (aE s.2.2.1 s.2.1).bind fun a1=>
   (bI s.2.2.2 [a1]).bind fun l2=>
   aiH (.next (s.1,ae .i64 (s.2.1+1),s.2.2.1,l2))
  else
   aiH (.next (s.1,ae .i64 (s.2.1+1),s.2.2))
 else
  aiH (.done (Field.mk s.2.2.2))
noncomputable def zX (p0:Field) (p1:Int):Option Field:=
 aB iO (p1,0,p0.am,[])
noncomputable def w5 (p0:Field) (p1:Int):Option (Field×Int):=
 (gQ p0).bind fun n0=>
 bif n0 !=0 then
  aiH (Field.mk [],n0)
 else
  (fJ p0 p1).bind fun n1=>
  bif aiP (n1<0) then
   aiH (Field.mk [],6)
  else
   (zX p0 p1).bind fun r2=>
   aiH (r2,0)
noncomputable def fA (s:(Bool×Int×(List (Int×Int×Int))×Int×Int×Int×(List (Int×Int×Int)))):Option (Step (Bool×Int×(List (Int×Int×Int))×Int×Int×Int×(List (Int×Int×Int))) (Field×Int)):=
 match s with
 |(a,b,d,e,f,g,h)=>
  bif aiP (b<(abJ (aiD d))) then
   bif !a then
    (aE d b).bind fun a0=>
    bif aiP (e<a0.1) then
     (bI h [(e,f,g)]).bind fun l1=>
     (aE d b).bind fun a2=>
     (bI l1 [a2]).bind fun l3=>
     aiH (.next (aiL,ae .i64 (b+1),d,e,f,g,l3))
    else
     (aE d b).bind fun a4=>
     (bI h [a4]).bind fun l5=>
     aiH (.next (a,ae .i64 (b+1),d,e,f,g,l5))
   else
    (aE d b).bind fun a6=>
    (bI h [a6]).bind fun l7=>
    aiH (.next (a,ae .i64 (b+1),d,e,f,g,l7))
  else
   bif !a then
    (bI h [(e,f,g)]).bind fun l8=>
    aiH (.done (Field.mk l8,0))
   else
    aiH (.done (Field.mk h,0))
noncomputable def sN (p0:Field) (p1:Int×Int×Int):Option (Field×Int):=
 (gQ p0).bind fun n0=>
 bif n0 !=0 then
  aiH (Field.mk [],n0)
 else
  (nW p1).bind fun n1=>
  bif n1 !=0 then
   aiH (Field.mk [],8)
  else
   (fJ p0 p1.1).bind fun n2=>
   bif aiP (0<=n2) then
    aiH (Field.mk [],14)
   else
    bif (abJ (aiD p0.am))==64 then
     aiH (Field.mk [],18)
    else
     aB fA (aiN,0,p0.am,p1.1,p1.2.1,p1.2.2,[])
noncomputable def oR (p0:Field) (p1:Int×Int×Int):Option (Field×Int):=
 (gQ p0).bind fun n0=>
 bif n0 !=0 then
  aiH (Field.mk [],n0)
 else
  (nW p1).bind fun n1=>
  bif n1 !=0 then
   aiH (Field.mk [],8)
  else
   (fJ p0 p1.1).bind fun n2=>
   bif aiP (n2<0) then
    aiH (Field.mk [],6)
   else
    (kW p0).bind fun r3=>
    (aE r3.am n2).bind fun a4=>
    aiH (Field.mk (bz r3.am n2 p1),0)
abbrev w9 (n:Int):Prop:= -9223372036854775808<=n/\n<9223372036854775808
abbrev TG (n:Int):Prop:=0<=n/\n<18446744073709551616
theorem wi (n:Int):ae .i64 n=(n+9223372036854775808)%18446744073709551616-9223372036854775808:=by
 rw [sS];simp only [IntKind.wrap,IntKind.bits,IntKind.signed,Bool.true_and];have e1:(2:Int)^64=18446744073709551616:=by decide
 have e2:(2:Int)^(64-1)=9223372036854775808:=by decide
 simp only [e1,e2,decide_eq_true_eq];split<;>omega
theorem wu (n:Int):ae .u64 n=n%18446744073709551616:=by
 rw [sS];simp only [IntKind.wrap,IntKind.bits,IntKind.signed,Bool.false_and];have e1:(2:Int)^64=18446744073709551616:=by decide
 simp only [e1];simp
theorem fC {n:Int} (h:w9 n):ae .i64 n=n:=by rw [wi];omega
theorem dL {a b:Int} (h:a≠b):(a !=b)=aiL:=by simpa using h
theorem bo {a b:Int} (h:a=b):(a !=b)=aiN:=by simpa using h
theorem cV {a b:Int} (h:a=b):(a==b)=aiL:=by simpa using h
theorem dM {a b:Int} (h:a≠b):(a==b)=aiN:=by simpa using h
theorem O6 (a b:Int):(a==b)=aiP (a=b):=by
 by_cases h:a=b
 · rw [cV h,decide_eq_true h]
 rw [dM h,decide_eq_false h]
theorem lt_or_ge (a b:Int):a<b\/b<=a:=by omega
theorem aiG (a:Int):iy .u64 a 32=a / 4294967296:=by unfold iy;rw [show (min (32:Int).toNat (IntKind.bits .u64))=32 from by decide,show (2:Int)^32=4294967296 from by decide];exact abR _ (by decide)
theorem Nk {a:Int} (h:TG a):DO .u64 a 4294967295=a%4294967296:=by
 obtain ⟨n,rfl⟩:=ab1 h.1;unfold DO;have e:(BitVec.ofInt (IntKind.bits .u64) (n:Int)&&&BitVec.ofInt (IntKind.bits .u64) 4294967295).toNat=n%4294967296:=by
  rw [BitVec.toNat_and];have e1:(BitVec.ofInt (IntKind.bits .u64) (n:Int)).toNat=n:=by
   rw [BitVec.toNat_ofInt];have:((2^(IntKind.bits .u64):Nat):Int)=18446744073709551616:=by decide
   rw [this];omega
  have e2:(BitVec.ofInt (IntKind.bits .u64) (4294967295:Int)).toNat=2^32-1:=by decide
  rw [e1,e2,Nat.and_two_pow_sub_one_eq_mod]
 rw [e];have:=wu ((n%4294967296:Nat):Int);rw [sS] at this;rw [this];omega
theorem aa8 {a b:Nat} (ha:a<1000000000) (hb:b<1000000000):ae .i64 (iy .u64 (ae .u64 (ae .i64 ((a:Int)+(b:Int)))) 1)=(((a+b) / 2:Nat):Int):=by unfold iy;rw [show (min (1:Int).toNat (IntKind.bits .u64))=1 from by decide,show (2:Int)^1=2 from by decide,abR _ (by decide),wi (_+_),wu,wi];omega
section
variable {σ ρ : Type} {body : σ -> Option (Step σ ρ)}
theorem dN (st:Nat->σ) (n:Nat) (h: ∀i,i<n->body (st i)=aiH (.next (st (i+1)))):aB body (st 0)=aB body (st n):=by
 induction n with
 |zero=>rfl
 |succ n ih=>rw [ih fun i hi=>h i (by omega)];exact aM (h n (by omega))
theorem db (st:Nat->σ) (n:Nat) (c:Nat->Prop) {r e:ρ} (h: ∀i,i<n->(c i->body (st i)=aiH (.done r))/\(¬c i->body (st i)=aiH (.next (st (i+1)))))
 (TH:body (st n)=aiH (.done e)):((∃i,i<n/\c i)->aB body (st 0)=aiH r)/\((∀i,i<n-> ¬c i)->aB body (st 0)=aiH e):=by
 constructor
 · rintro ⟨i,hi,hc⟩
   have key: ∀k,k<=n->(∃i,i<n/\n-k<=i/\c i)->aB body (st (n-k))=aiH r:=by
    intro k
    induction k with
    |zero=>rintro _ ⟨i,h1,h2,_⟩;omega
    |succ k ih=>
     rintro hk ⟨i,h1,h2,h3⟩
     by_cases hc:c (n- (k+1))
     · exact aA ((h _ (by omega)).1 hc)
     rw [aM ((h _ (by omega)).2 hc),show n- (k+1)+1=n-k by omega]
     refine ih (by omega) ⟨i,h1,?_,h3⟩
     by_cases he:i=n- (k+1)
     · subst he;exact absurd h3 hc
     omega
   have:=key n (abX n) ⟨i,hi,by omega,hc⟩
   rwa [Nat.sub_self] at this
 intro hn
 rw [dN st n fun i hi=>(h i hi).2 (hn i hi)];exact aA TH
theorem least {c:Nat->Prop}: ∀{n:Nat},(∃i,i<n/\c i)-> ∃k,k<n/\c k/\ ∀j,j<k-> ¬c j
 |0,h=>by obtain ⟨i,hi,_⟩:=h;omega
 |n+1,h=>by
  by_cases hx: ∃i,i<n/\c i
  · obtain ⟨k,h1,h2,h3⟩:=least hx
    exact ⟨k,by omega,h2,h3⟩
  obtain ⟨i,hi,hc⟩:=h
  refine ⟨i,hi,hc,fun j hj hcj=>hx ⟨j,by omega,hcj⟩⟩
theorem jE (st:Nat->σ) (n:Nat) (c:Nat->Prop) (r:Nat->ρ) {e:ρ} (h: ∀i,i<n->(c i->body (st i)=aiH (.done (r i)))/\(¬c i->body (st i)=aiH (.next (st (i+1)))))
 (TH:body (st n)=aiH (.done e)):(∀k,k<n->c k->(∀j,j<k-> ¬c j)->aB body (st 0)=aiH (r k))/\((∀i,i<n-> ¬c i)->aB body (st 0)=aiH e):=by
 constructor
 · intro k hk hc hj
   rw [dN st k fun i hi=>(h i (by omega)).2 (hj i hi)];exact aA ((h k hk).1 hc)
 intro hn
 rw [dN st n fun i hi=>(h i hi).2 (hn i hi)];exact aA TH
theorem CP (st:Nat->Nat->σ) (n m:Nat) (c:Nat->Prop)
 (h: ∀lo hi,lo<hi->hi<=n->(c ((lo+hi) / 2)->body (st lo hi)=aiH (.next (st ((lo+hi) / 2+1) hi)))/\(¬c ((lo+hi) / 2)->body (st lo hi)=aiH (.next (st lo ((lo+hi) / 2)))))
 (h1: ∀i,i<m->c i) (h2: ∀i,m<=i->i<n-> ¬c i): ∀d lo hi,hi-lo<=d->lo<=m->m<=hi->hi<=n->aB body (st lo hi)=aB body (st m m)
 |0,lo,hi,hd,a,b,_=>by
  have e1:lo=m:=by omega
  have e2:hi=m:=by omega
  rw [e1,e2]
 |d+1,lo,hi,hd,a,b,e=>by
  by_cases hl:lo<hi
  · by_cases hc:c ((lo+hi) / 2)
    · rw [aM ((h lo hi hl e).1 hc)]
      refine CP st n m c h h1 h2 d _ _ (by omega) ?_ b e;refine EQ fun hx=>?_
      exact h2 ((lo+hi) / 2) (by omega) (by omega) hc
    rw [aM ((h lo hi hl e).2 hc)]
    refine CP st n m c h h1 h2 d _ _ (by omega) a ?_ (by omega);refine EQ fun hx=>?_
    exact hc (h1 ((lo+hi) / 2) (by omega))
  have e1:lo=m:=by omega
  have e2:hi=m:=by omega
  rw [e1,e2]
end
section
variable {α : Type} [Inhabited α]
theorem ar (l:List α) (n:Nat) (h:n<aiD l):aE l (n:Int)=aiH l[n]!:=by show l[n]? =aiH l[n]!;rw [ac9 h,getElem!_pos l n h]
theorem dO {l:List α} {i:Int} (h0:0<=i) (h:i<aiD l):aE l i=aiH l[i.toNat]!:=by obtain ⟨n,rfl⟩:=ab1 h0;exact ar l n (by omega)
theorem de {β:Type} (l:List β) (n:Nat) (a:β):bz l (n:Int) a=l.set n a:=rfl
theorem bn (l:List α) (n m:Nat) (a:α):(l.set n a)[m]! =if m=n/\n<(aiD l) then a else l[m]!:=by
 by_cases hm:m<aiD l
 · rw [getElem!_pos (l.set n a) m (by simpa using hm),getElem!_pos l m hm,List.getElem_set]
   split
   · rw [lm (by omega)]
   rw [ls (by omega)]
 rw [getElem!_neg (l.set n a) m (by simpa using hm),getElem!_neg l m hm]
 split
 · omega
 rfl
theorem aO {l:List α} {x:α}:x∈l↔ ∃i,i<aiD l/\l[i]! =x:=by
 rw [List.mem_iff_getElem];constructor
 · rintro ⟨i,h,rfl⟩;exact ⟨i,h,getElem!_pos l i h⟩
 rintro ⟨i,h,rfl⟩;exact ⟨i,h,(getElem!_pos l i h).symm⟩
theorem aL {l:List α} {i:Nat} (h:i<aiD l):l[i]!∈l:=aO.2 ⟨i,h,rfl⟩
theorem gL {l m:List α} {i:Nat} (h:i<aiD l):(l++m)[i]! =l[i]!:=by rw [getElem!_pos (l++m) i (by simp;omega),getElem!_pos l i h,List.getElem_append_left h]
theorem kG {l m:List α} {i:Nat} (h:(aiD l)<=i):(l++m)[i]! =m[i-(aiD l)]!:=by
 by_cases hi:i<aiD l+aiD m
 · rw [getElem!_pos (l++m) i (by simp;omega),getElem!_pos m (i-(aiD l)) (by omega),List.getElem_append_right h]
 rw [getElem!_neg (l++m) i (by simp;omega),getElem!_neg m (i-(aiD l)) (by omega)]
theorem lG {l:List α} {n i:Nat} (h:i<n):(l.take n)[i]! =l[i]!:=by
 by_cases hi:i<aiD l
 · rw [getElem!_pos (l.take n) i (by simp;omega),getElem!_pos l i hi,List.getElem_take]
 rw [getElem!_neg (l.take n) i (by simp;omega),getElem!_neg l i hi]
theorem pL {l:List α} {n i:Nat}:(l.drop n)[i]! =l[n+i]!:=by
 by_cases hi:n+i<aiD l
 · rw [getElem!_pos (l.drop n) i (by simp;omega),getElem!_pos l (n+i) hi,List.getElem_drop]
 rw [getElem!_neg (l.drop n) i (by simp;omega),getElem!_neg l (n+i) hi]
theorem BF {l m:List α} (hl:(aiD l)=aiD m) (h: ∀i,i<aiD l->l[i]! =m[i]!):l=m:=by
 apply List.ext_getElem hl;intro i h1 h2;have:=h i h1
 rwa [getElem!_pos l i h1,getElem!_pos m i h2] at this
theorem FU {l:List α} {i:Nat} (h:i<aiD l):l=l.take i++l[i]!::l.drop (i+1):=by rw [getElem!_pos l i h,List.getElem_cons_drop,List.take_append_drop]
end
theorem bc {α:Type} {l:List α} (h:(aiD l)<=1048576):bN l=aiH l:=by unfold bN;rw [lm h]
theorem cR {α:Type} {l m:List α} (h:(aiD l)+aiD m<=1048576):bI l m=aiH (l++m):=by unfold bI;rw [lm h]
@[simp] theorem aq {α β:Type} (a:α) (f:α->Option β):(aiH a).bind f=f a:=rfl
end Go.Proofs.YtfejhjllooomlaaGreat
namespace Go.Proofs.YtfejhjllooomlaaGreat
open Go.Vm Classical
structure SOA {α:Type} (P:α->α->Prop) (S:α->Prop):Prop where
 irr: ∀a,S a-> ¬P a a
 tr: ∀a b c,S a->S b->S c->P a b->P b c->P a c
 ntr: ∀a b c,S a->S b->S c-> ¬P a b-> ¬P b c-> ¬P a c
theorem SOA.TI {α:Type} {P:α->α->Prop} {S:α->Prop} (o:SOA P S) {a b:α} (ha:S a) (hb:S b) (h:P a b): ¬P b a:=fun k=>o.irr a ha (o.tr a b a ha hb ha h k)
section
variable {α : Type} [Inhabited α] {P : α -> α -> Prop} {S : α -> Prop}
def BG (l:List α) (i j:Nat):List α:=(l.set i l[j]!).set j l[i]!
theorem CQ (l:List α) (i j:Nat):(BG l i j).length=(aiD l):=by unfold BG;rw [lw,lw]
theorem xa (l:List α) {i j:Nat} (hi:i<aiD l) (hj:j<aiD l) (k:Nat):(BG l i j)[k]! =if k=j then l[i]! else if k=i then l[j]! else l[k]!:=by
 unfold BG;rw [bn,lw,bn]
 by_cases c:k=j
 · rw [lm ⟨c,hj⟩,lm c]
 rw [ls (fun h=>c h.1),ls c]
 by_cases d:k=i
 · rw [lm ⟨d,hi⟩,lm d]
 rw [ls (fun h=>d h.1),ls d]
theorem AJ {l:List α} {i j:Nat} (hi:i<aiD l) (hj:j<aiD l):(BG l i j).Perm l:=by unfold BG;rw [getElem!_pos l j hj,getElem!_pos l i hi];exact List.set_set_perm hi hj
noncomputable def GY (P:α->α->Prop):Nat->List α->List α
 |0,l=>l
 |j+1,l=>if P l[j+1]! l[j]! then GY P j (BG l (j+1) j) else l
theorem HL (P:α->α->Prop): ∀(j:Nat) (l:List α),j<aiD l->(GY P j l).Perm l
 |0,l,_=>acr _
 |j+1,l,h=>by
  unfold GY;split
  · exact (HL P j _ (by rw [CQ];omega)).trans (AJ h (by omega))
  exact acr _
def Nl (P:α->α->Prop) (l:List α) (n:Nat):Prop:= ∀a b,a<b->b<n-> ¬P l[b]! l[a]!
structure aiI (P:α->α->Prop) (l:List α) (i j:Nat):Prop where
 lt:j<=i
 le:i<aiD l
 el: ∀a b,a<b->b<=i->a≠j->b≠j-> ¬P l[b]! l[a]!
 up: ∀b,j<b->b<=i-> ¬P l[b]! l[j]!
theorem TJ (o:SOA P S): ∀(j i:Nat) (l:List α),(∀x∈l,S x)->aiI P l i j->Nl P (GY P j l) (i+1):=by
 intro j
 induction j with
 |zero=>
  intro i l _ v a b h1 h2
  by_cases c:a=0
  · subst c;exact v.up b h1 (by omega)
  exact v.el a b h1 (by omega) c (by omega)
 |succ j ih=>
  intro i l hS v;have hi:=v.le;have hj:=v.lt;have sm: ∀k,k<aiD l->S l[k]!:=fun k hk=>hS _ (aL hk)
  have h1:j+1<(aiD l):=by omega
  have h0:j<(aiD l):=by omega
  unfold GY;split
  · rename_i hc
    refine ih i _ (fun x hx=>hS x ((AJ h1 h0).mem_iff.1 hx)) ⟨by omega,by rw [CQ];exact hi,fun a b a1 a2 a3 a4=>?_,fun b b1 b2=>?_⟩
    · rw [xa l h1 h0,xa l h1 h0,ls a3,ls a4]
      by_cases c:a=j+1
      · subst c
        rw [lm rfl,ls (by omega)];exact v.el j b (by omega) a2 (by omega) (by omega)
      rw [ls c]
      by_cases d:b=j+1
      · subst d
        rw [lm rfl];exact v.el a j (by omega) (by omega) (by omega) (by omega)
      rw [ls d]
      exact v.el a b a1 a2 c d
    rw [xa l h1 h0,xa l h1 h0,lm rfl,ls (by omega)]
    by_cases c:b=j+1
    · subst c
      rw [lm rfl];exact o.TI (sm _ h1) (sm _ h0) hc
    rw [ls c]
    exact v.up b (by omega) b2
  rename_i hc
  intro a b a1 a2
  by_cases c:a=j+1
  · subst c;exact v.up b a1 (by omega)
  by_cases d:b=j+1
  · subst d
    by_cases e:a=j
    · subst e;exact hc
    exact o.ntr _ _ _ (sm _ h1) (sm _ h0) (sm _ (by omega)) hc (v.el a j (by omega) (by omega) c (by omega))
  exact v.el a b a1 (by omega) c d
noncomputable def yF (P:α->α->Prop) (l:List α):Nat->List α
 |0=>l
 |i+1=>GY P i (yF P l i)
theorem tf (P:α->α->Prop) (l:List α): ∀i,i<=aiD l->(yF P l i).Perm l
 |0,_=>acr _
 |i+1,h=>by have p:=tf P l i (by omega);exact (HL P i _ (by rw [p.length_eq];omega)).trans p
theorem FV (o:SOA P S) {l:List α} (hS: ∀x∈l,S x): ∀i,i<=aiD l->Nl P (yF P l i) i
 |0,_=>fun a b _ h=>by omega
 |i+1,h=>by have p:=tf P l i (by omega);have s:=FV o hS i (by omega);refine TJ o i i _ (fun x hx=>hS x (p.mem_iff.1 hx)) ⟨abX _,by rw [p.length_eq];omega,fun a b a1 a2 a3 a4=>s a b a1 (by omega),fun b b1 b2=>by omega⟩
end
theorem jQ {n:Int} (h:w9 n):hY n=aiH (n.natAbs:Int):=by
 unfold hY;simp only [wi,wu]
 by_cases hn:n<0
 · simp only [hn,decide_true,kw,v4];omega
 simp only [hn,decide_false,lc,v4];omega
theorem oS {n:Int} (h:w9 n):lE n=aiH (n.natAbs:Int):=by
 unfold lE;simp only [wu]
 by_cases hn:n<0
 · simp only [hn,decide_true,kw,v4];omega
 simp only [hn,decide_false,lc,v4];omega
theorem pM (m n:Nat):oA m n=aiH (v6 m n:Int):=by
 unfold oA
 induction n using acX generalizing m with
 |ind n ih=>
  by_cases h0:n=0
  · subst h0
    rw [acK];exact aA (by simp [m8])
  have e:m8 ((m:Int),(n:Int))=aiH (.next ((n:Int),((m%n:Nat):Int))):=by
   have h1:((n:Int) !=0)=aiL:=by simp;omega
   have h2:((n:Int)==0)=aiN:=by simp;omega
   simp only [m8,h1,h2,kw,lc,adp]
  rw [aM e,ih (m%n) (Nat.mod_lt _ (by omega)) n,abH m n,Nat.gcd_rec n m,abH]
theorem zY (m n:Nat):vM m n=aiH (v6 m n:Int):=by
 unfold vM
 induction n using acX generalizing m with
 |ind n ih=>
  by_cases h0:n=0
  · subst h0
    rw [acK];exact aA (by simp [sq])
  have e:sq ((m:Int),(n:Int))=aiH (.next ((n:Int),((m%n:Nat):Int))):=by
   have h1:aiP (0<(n:Int))=aiL:=by simp;omega
   have h2:((n:Int)==0)=aiN:=by simp;omega
   simp only [sq,h1,h2,kw,lc,adp]
  rw [aM e,ih (m%n) (Nat.mod_lt _ (by omega)) n,abH m n,Nat.gcd_rec n m,abH]
def bA (r:Int×Int):Prop:=1<=r.2/\r.1≠ -9223372036854775808/\v6 r.2.natAbs r.1.natAbs=1
abbrev jW (r:Int×Int):Prop:=w9 r.1/\w9 r.2
theorem dD {r:Int×Int} (h:jW r):eI r=aiH (if bA r then 0 else 8):=by
 obtain ⟨a,b⟩:=r;obtain ⟨ha,hb⟩:=h;unfold eI bA;dsimp only at ha hb ⊢
 by_cases h1:b<1
 · rw [ls (by omega)];simp [h1]
 by_cases h2:a= -9223372036854775808
 · rw [ls (by omega)];simp [h1,h2]
 have e2:(a== -9223372036854775808)=aiN:=by simpa using h2
 have e3:ae .u64 b=(b.natAbs:Int):=by rw [wu];omega
 simp only [h1,decide_false,lc,e2,oS ha,aq,e3,zY];have hp:0<v6 b.natAbs a.natAbs:=Nat.gcd_pos_of_pos_left _ (by omega)
 by_cases h3:v6 b.natAbs a.natAbs=1
 · rw [lm ⟨by omega,h2,h3⟩,h3];rfl
 rw [ls (fun h=>h3 h.2.2)]
 have:aiP (1<(v6 b.natAbs a.natAbs:Int))=aiL:=by simp;omega
 rw [this];rfl
theorem tg {r:Int×Int} (h:jW r):nV r=aiH (if bA r then 0 else 8):=by
 obtain ⟨a,b⟩:=r;obtain ⟨ha,hb⟩:=h;unfold nV bA;dsimp only at ha hb ⊢
 by_cases h1:b<1
 · rw [ls (by omega)];simp [h1]
 by_cases h2:a= -9223372036854775808
 · rw [ls (by omega)];simp [h1,h2]
 have e2:(a== -9223372036854775808)=aiN:=by simpa using h2
 have e3:ae .u64 b=(b.natAbs:Int):=by rw [wu];omega
 simp only [h1,decide_false,lc,e2,jQ ha,aq,e3,pM];rw [abH]
 by_cases h3:v6 b.natAbs a.natAbs=1
 · rw [lm ⟨by omega,h2,h3⟩,h3];rfl
 rw [ls (fun h=>h3 h.2.2)]
 have:((v6 b.natAbs a.natAbs:Int) !=1)=aiL:=by simp;omega
 rw [this];rfl
theorem TK (x y:Int) (hx:TG x) (hy:TG y): ∃p q r s:Int,0<=p/\p<=18446744065119617025/\0<=q/\q<=18446744065119617025/\0<=r/\r<=18446744065119617025/\0<=s/\s<=18446744065119617025/\
 x / 4294967296*(y / 4294967296)=p/\x / 4294967296*(y%4294967296)=q/\x%4294967296*(y / 4294967296)=r/\x%4294967296*(y%4294967296)=s/\
 x*y=p*18446744073709551616+(q+r)*4294967296+s:=by
 have Kr:0<=x / 4294967296/\x / 4294967296<=4294967295:=by omega
 have Mz:0<=x%4294967296/\x%4294967296<=4294967295:=by omega
 have hy1:0<=y / 4294967296/\y / 4294967296<=4294967295:=by omega
 have Qm:0<=y%4294967296/\y%4294967296<=4294967295:=by omega
 have ex:x=x / 4294967296*4294967296+x%4294967296:=by omega
 have ey:y=y / 4294967296*4294967296+y%4294967296:=by omega
 generalize x / 4294967296=a at*;generalize x%4294967296=b at*;generalize y / 4294967296=c at*;generalize y%4294967296=d at*;have bd: ∀{u v:Int},0<=u/\u<=4294967295->0<=v/\v<=4294967295->0<=u*v/\u*v<=18446744065119617025:=by
  intro u v hu hv;refine ⟨acx hu.1 hv.1,?_⟩
  calc u*v<=4294967295*4294967295:=abS hu.2 hv.2 hv.1 (by decide)
   _=_:=by decide
 refine ⟨a*c,a*d,b*c,b*d,(bd Kr hy1).1,(bd Kr hy1).2,(bd Kr Qm).1,(bd Kr Qm).2,(bd Mz hy1).1,(bd Mz hy1).2,(bd Mz Qm).1,(bd Mz Qm).2,rfl,rfl,rfl,rfl,?_⟩;rw [ex,ey]
 grind
theorem BH {x y:Int} (hx:TG x) (hy:TG y):gj x y=aiH (x*y / 18446744073709551616,x*y%18446744073709551616):=by
 unfold gj;obtain ⟨p,q,r,s,p0,p1,q0,q1,r0,r1,s0,s1,ep,eq,er,es,exy⟩:=TK x y hx hy;have key: ∀z:Int,DO .u64 (z%18446744073709551616) 4294967295=z%18446744073709551616%4294967296:=fun z=>Nk (by constructor<;>omega)
 simp only [aiG,Nk hx,Nk hy,wu,key,ep,eq,er,es,exy,v4,NE,and_true];clear ep eq er es exy key hx hy;have e1:s%18446744073709551616=s:=by omega
 have e2:(q+s / 4294967296)%18446744073709551616=q+s / 4294967296:=by omega
 have ep:p%18446744073709551616=p:=by omega
 have eq:q%18446744073709551616=q:=by omega
 have er:r%18446744073709551616=r:=by omega
 rw [e1,ep,eq,er,e2];have e3:s=s / 4294967296*4294967296+s%4294967296:=by omega
 have e4:q+s / 4294967296=(q+s / 4294967296) / 4294967296*4294967296+(q+s / 4294967296)%4294967296:=by omega
 have b1:0<=s%4294967296/\s%4294967296<4294967296:=by omega
 have b2:0<=(q+s / 4294967296)%4294967296/\(q+s / 4294967296)%4294967296<4294967296:=by omega
 have b3:0<=(q+s / 4294967296) / 4294967296/\(q+s / 4294967296) / 4294967296<=4294967295:=by omega
 have b4:0<=s / 4294967296/\s / 4294967296<=4294967295:=by omega
 generalize (q+s / 4294967296) / 4294967296=t1 at*;generalize (q+s / 4294967296)%4294967296=t0 at*;generalize s / 4294967296=c1 at*;generalize s%4294967296=c0 at*;clear e1 e2;have e5:(t0+r)%18446744073709551616=t0+r:=by omega
 rw [e5];have e6:t0+r=(t0+r) / 4294967296*4294967296+(t0+r)%4294967296:=by omega
 have b5:0<=(t0+r)%4294967296/\(t0+r)%4294967296<4294967296:=by omega
 have b6:0<=(t0+r) / 4294967296/\(t0+r) / 4294967296<=4294967295:=by omega
 generalize (t0+r) / 4294967296=u1 at*;generalize (t0+r)%4294967296=u0 at*;omega
theorem Nm {x y:Int} (hx:TG x) (hy:TG y):p5 x y=aiH (aiN,x*y / 18446744073709551616,x*y%18446744073709551616):=by
 unfold p5;obtain ⟨p,q,r,s,p0,p1,q0,q1,r0,r1,s0,s1,ep,eq,er,es,exy⟩:=TK x y hx hy;have t1: ∀a:Int,0<=a->acy a 4294967296=a / 4294967296:=fun a h=>abT h
 have t2: ∀a:Int,0<=a->Int.tmod a 4294967296=a%4294967296:=fun a h=>Int.tmod_eq_emod_of_nonneg h
 simp only [wu];rw [t1 x hx.1,t1 y hy.1,t2 x hx.1,t2 y hy.1];have f1:x / 4294967296%18446744073709551616=x / 4294967296:=by omega
 have f2:y / 4294967296%18446744073709551616=y / 4294967296:=by omega
 simp only [f1,f2,ep,eq,er,es];have g: ∀a:Int,acy (a%18446744073709551616) 4294967296=a%18446744073709551616 / 4294967296:=fun a=>t1 _ (by omega)
 have g2: ∀a:Int,Int.tmod (a%18446744073709551616) 4294967296=a%18446744073709551616%4294967296:=fun a=>t2 _ (by omega)
 simp only [g,g2,exy,v4,NE,true_and];constructor<;>omega
abbrev B64 (a:Bool×Int×Int):Prop:=TG a.2.1/\TG a.2.2
theorem zt {n:Int} (h:w9 n):TG (n.natAbs:Int):=by constructor<;>omega
theorem zu {n:Int} (h:w9 n):(n.natAbs:Int)<=9223372036854775808:=by omega
theorem BI (a b:Int):((a.natAbs:Int)*(b.natAbs:Int))=((a*b).natAbs:Int):=by rw [Int.natAbs_mul];rfl
theorem ti {a b:Int} (ha:w9 a) (hb:w9 b):((a*b).natAbs:Int)<=85070591730234615865843651857942052864:=by
 rw [<- BI]
 calc (a.natAbs:Int)*(b.natAbs:Int)<=9223372036854775808*9223372036854775808:=abS (zu ha) (zu hb) (by omega) (by decide)
  _=_:=by decide
theorem xb {a b:Int} (ha:w9 a) (hb:w9 b):
 jK a b=aiH (aiP (a*b<0),((a*b).natAbs:Int) / 18446744073709551616,((a*b).natAbs:Int)%18446744073709551616):=by
 unfold jK;simp only [jQ ha,jQ hb,aq,Nm (zt ha) (zt hb),BI];have hs:(a*b<0)↔((a<0/\0<b)\/(0<a/\b<0)):=by
  constructor
  · intro h
    rcases abZ a 0 with h1|h1|h1
    · rcases abZ b 0 with h2|h2|h2
      · have:=Int.mul_pos_of_neg_of_neg h1 h2;omega
      · subst h2;simp at h
      exact .inl ⟨h1,h2⟩
    · subst h1;simp at h
    rcases abZ b 0 with h2|h2|h2
    · exact .inr ⟨h1,h2⟩
    · subst h2;simp at h
    have:=Int.mul_pos h1 h2;omega
  rintro (⟨h1,h2⟩|⟨h1,h2⟩)
  · exact ab0 h1 h2
  exact Int.mul_neg_of_pos_of_neg h1 h2
 have hd:aiP (a*b<0)=aiP ((a<0/\0<b)\/(0<a/\b<0)):=by simp only [hs]
 rw [hd];clear hd hs;generalize ((a*b).natAbs:Int)=z
 by_cases h1:a<0
 · have L2: ¬0<a:=by omega
   have amL:(a !=0)=aiL:=dL (by omega)
   by_cases h2:b<0
   · have Qd: ¬0<b:=by omega
     simp [h1,h2,L2,Qd]
   by_cases h3:b=0
   · simp [h1,h3,amL]
   have h3':0<b:=by omega
   simp [h1,h2,h3',amL,dL h3]
 by_cases h0:a=0
 · subst h0
   by_cases h2:b<0<;>simp [h2]
 have L2:0<a:=by omega
 by_cases h2:b<0
 · have Qd:(b !=0)=aiL:=dL (by omega)
   simp [h1,h2,L2,dL h0,Qd]
 simp [h1,h2,L2]
theorem K8 {a b:Int} (ha:w9 a) (hb:w9 b):
 qI a b=aiH (!(aiP (a<0)==aiP (b<0)),((a*b).natAbs:Int) / 18446744073709551616,((a*b).natAbs:Int)%18446744073709551616):=by
 unfold qI;simp only [oS ha,oS hb,aq,BH (zt ha) (zt hb),BI]
def jX (a b:Int):Int:=if a<b then -1 else if b<a then 1 else 0
theorem zZ (a b:Int):jz a b=aiH (jX a b):=by
 unfold jz m9 jX
 by_cases h1:a<b<;>by_cases h2:b<a<;>simp [h1,h2]
theorem GZ (a b:Int):iU a b=aiH (jX a b):=by
 unfold iU mH jX
 by_cases h1:a<b<;>by_cases h2:b<a<;>simp [h1,h2]
theorem kH (a b:Int):fy a b=aiH (jX a b):=by
 unfold fy qf jX
 by_cases h1:a<b<;>by_cases h2:b<a<;>simp [h1,h2]
theorem dR (a b:Int):(a<b/\jX a b= -1)\/(a=b/\jX a b=0)\/(b<a/\jX a b=1):=by
 unfold jX
 by_cases h1:a<b
 · exact .inl ⟨h1,by rw [lm h1]⟩
 by_cases h2:b<a
 · exact .inr (.inr ⟨h2,by rw [ls h1,lm h2]⟩)
 exact .inr (.inl ⟨by omega,by rw [ls h1,ls h2]⟩)
theorem Jd (a b:Bool×Int×Int) (ha:B64 a) (hb:B64 b):pB a b=aiH (jX (a.2.1*18446744073709551616+a.2.2) (b.2.1*18446744073709551616+b.2.2)):=by
 obtain ⟨s,ah,al⟩:=a;obtain ⟨t,bh,bl⟩:=b;obtain ⟨⟨a1,a2⟩,a3,a4⟩:=ha;obtain ⟨⟨b1,b2⟩,b3,b4⟩:=hb;dsimp only at*;unfold pB jX;dsimp only
 by_cases h1:ah=bh
 · subst h1
   by_cases h2:al=bl
   · subst h2;simp
   by_cases h3:al<bl
   · simp [dL h2,h3]
   rw [ls (by omega),lm (by omega)];simp [dL h2,h3]
 by_cases h3:ah<bh
 · rw [lm (by omega)];simp [dL h1,h3]
 rw [ls (by omega),lm (by omega)];simp [dL h1,h3]
theorem Nn (a b:Bool×Int×Int) (ha:B64 a) (hb:B64 b):qe a b=aiH (jX (a.2.1*18446744073709551616+a.2.2) (b.2.1*18446744073709551616+b.2.2)):=by
 obtain ⟨s,ah,al⟩:=a;obtain ⟨t,bh,bl⟩:=b;obtain ⟨⟨a1,a2⟩,a3,a4⟩:=ha;obtain ⟨⟨b1,b2⟩,b3,b4⟩:=hb;dsimp only at*;unfold qe;simp only [GZ,aq];unfold jX
 by_cases h1:ah=bh
 · subst h1
   by_cases h3:al<bl
   · simp [h3]
   by_cases h2:bl<al
   · rw [ls (show¬(ah*18446744073709551616+al<ah*18446744073709551616+bl) by omega),lm (show ah*18446744073709551616+bl<ah*18446744073709551616+al by omega)];simp [h2,h3]
   have:al=bl:=by omega
   subst this;simp
 by_cases h3:ah<bh
 · rw [lm (show ah*18446744073709551616+al<bh*18446744073709551616+bl by omega)];simp [h3]
 rw [ls (show¬(ah*18446744073709551616+al<bh*18446744073709551616+bl) by omega),lm (show bh*18446744073709551616+bl<ah*18446744073709551616+al by omega)];simp [h3,show bh<ah by omega]
theorem uu (a:Bool) {n:Int} (h0:0<=n) (h:n<=85070591730234615865843651857942052864):B64 (a,n / 18446744073709551616,n%18446744073709551616):=by constructor<;>constructor<;>dsimp only<;>omega
theorem Je {n:Int} (h:(n.natAbs:Int)<=85070591730234615865843651857942052864):kV (aiP (n<0),(n.natAbs:Int) / 18446744073709551616,(n.natAbs:Int)%18446744073709551616)=aiH (jX n 0):=by
 unfold kV jX;dsimp only
 by_cases h0:n=0
 · subst h0;simp
 by_cases h1:n<0
 · rw [lm h1]
   by_cases h2:(n.natAbs:Int) / 18446744073709551616=0
   · have h3: ¬((n.natAbs:Int)%18446744073709551616=0):=by omega
     simp [h1,h2,dM h3]
   simp [h1,dM h2]
 rw [ls h1,lm (by omega)]
 by_cases h2:(n.natAbs:Int) / 18446744073709551616=0
 · have h3: ¬((n.natAbs:Int)%18446744073709551616=0):=by omega
   simp [h1,h2,dM h3]
 simp [h1,dM h2]
def iB (a b:Int×Int):Int:=jX (a.1*b.2) (b.1*a.2)
theorem AL {a b:Int×Int} (ha:jW a) (hb:jW b):lC a b=aiH (iB a b):=by
 unfold lC iB;have n1:=ti ha.1 hb.2;have n2:=ti hb.1 ha.2;simp only [xb ha.1 hb.2,xb hb.1 ha.2,aq,Je n1,Je n2];generalize a.1*b.2=x at*;generalize b.1*a.2=y at*;rw [Jd _ _ (uu _ (by omega) n1) (uu _ (by omega) n2),Jd _ _ (uu _ (by omega) n2) (uu _ (by omega) n1)];have ex:((x.natAbs:Int) / 18446744073709551616)*18446744073709551616+(x.natAbs:Int)%18446744073709551616=(x.natAbs:Int):=by omega
 have ey:((y.natAbs:Int) / 18446744073709551616)*18446744073709551616+(y.natAbs:Int)%18446744073709551616=(y.natAbs:Int):=by omega
 simp only [ex,ey,aq];rcases dR x 0 with ⟨h1,e1⟩|⟨h1,e1⟩|⟨h1,e1⟩<;>rcases dR y 0 with ⟨h2,e2⟩|⟨h2,e2⟩|⟨h2,e2⟩<;>rw [e1,e2]<;>simp<;>
  unfold jX<;>(repeat' split)<;>first|rfl|omega
theorem aa9 {a b:Int×Int} (ha:jW a) (hb:jW b):wS a b=aiH (if bA a/\bA b then 0 else 8):=by
 unfold wS;simp only [dD ha,dD hb,aq]
 by_cases h1:bA a<;>by_cases h2:bA b<;>simp [h1,h2]
theorem CR {a b:Int×Int} (ha:jW a) (hb:jW b):pI a b=aiH (if bA a/\bA b then (iB a b,0) else (0,8)):=by
 unfold pI;rw [aa9 ha hb]
 by_cases h:bA a/\bA b
 · rw [lm h,lm h]
   obtain ⟨⟨a1,a2,a3⟩,b1,b2,b3⟩:=h;have n1:=ti ha.1 hb.2;have n2:=ti hb.1 ha.2;simp only [aq,zZ,K8 ha.1 hb.2,K8 hb.1 ha.2];rw [Nn _ _ (uu _ (by omega) n1) (uu _ (by omega) n2)];have ex:((a.1*b.2).natAbs:Int) / 18446744073709551616*18446744073709551616+((a.1*b.2).natAbs:Int)%18446744073709551616=((a.1*b.2).natAbs:Int):=by omega
   have ey:((b.1*a.2).natAbs:Int) / 18446744073709551616*18446744073709551616+((b.1*a.2).natAbs:Int)%18446744073709551616=((b.1*a.2).natAbs:Int):=by omega
   simp only [ex,ey,aq];unfold iB;have s1:(a.1<0↔a.1*b.2<0):=by
    constructor
    · intro h;exact ab0 h (by omega)
    intro h;rcases lt_or_ge a.1 0 with h1|h1
    · exact h1
    have:=acx h1 (show 0<=b.2 by omega);omega
   have s2:(b.1<0↔b.1*a.2<0):=by
    constructor
    · intro h;exact ab0 h (by omega)
    intro h;rcases lt_or_ge b.1 0 with h1|h1
    · exact h1
    have:=acx h1 (show 0<=a.2 by omega);omega
   generalize a.1*b.2=x at*;generalize b.1*a.2=y at*
   by_cases h1:a.1<0<;>by_cases h2:b.1<0
   · have h3:=s1.1 h1;have h4:=s2.1 h2
     have:ae .i64 (-jX (x.natAbs:Int) (y.natAbs:Int))=jX x y:=by rw [wi];unfold jX;(repeat' split)<;>omega
     simp [h1,h2,this]
   · have h3:=s1.1 h1;have h4: ¬y<0:=fun h=>h2 (s2.2 h)
     have:jX a.1 b.1=jX x y:=by unfold jX;(repeat' split)<;>omega
     simp [h1,h2,this]
   · have h3: ¬x<0:=fun h=>h1 (s1.2 h);have h4:=s2.1 h2
     have:jX a.1 b.1=jX x y:=by unfold jX;(repeat' split)<;>omega
     simp [h1,h2,this]
   have h3: ¬x<0:=fun h=>h1 (s1.2 h);have h4: ¬y<0:=fun h=>h2 (s2.2 h)
   have:jX (x.natAbs:Int) (y.natAbs:Int)=jX x y:=by unfold jX;(repeat' split)<;>omega
   simp [h1,h2,this]
 rw [ls h,ls h];rfl
abbrev Pt:=Int×Int×Int
def ff (p:Pt):Prop:=0<=p.1/\p.1<=65535/\ -1048576<=p.2.1/\p.2.1<=1048576/\ -1048576<=p.2.2/\p.2.2<=1048576
theorem fB (p:Pt):jy p=aiH (if ff p then 0 else 8):=by
 obtain ⟨i,a,b⟩:=p;unfold jy oF ff;dsimp only
 by_cases h1:i<0
 · rw [ls (by omega)];simp [h1]
 by_cases h2:65535<i
 · rw [ls (by omega)];simp [h1,h2]
 by_cases h3:a< -1048576
 · rw [ls (by omega)];simp [h1,h2,h3]
 by_cases h4:1048576<a
 · rw [ls (by omega)];simp [h1,h2,h3,h4]
 by_cases h5:b< -1048576
 · rw [ls (by omega)];simp [h1,h2,h3,h4,h5]
 by_cases h6:1048576<b
 · rw [ls (by omega)];simp [h1,h2,h3,h4,h5,h6]
 rw [lm (by omega)];simp [h1,h2,h3,h4,h5,h6]
theorem gR (p:Pt):nW p=aiH (if ff p then 0 else 8):=by
 obtain ⟨i,a,b⟩:=p;unfold nW ff;dsimp only
 by_cases h1:i<0
 · rw [ls (by omega)];simp [h1]
 by_cases h2:65535<i
 · rw [ls (by omega)];simp [h1,h2]
 by_cases h3:a< -1048576
 · rw [ls (by omega)];simp [h1,h2,h3]
 by_cases h4:1048576<a
 · rw [ls (by omega)];simp [h1,h2,h3,h4]
 by_cases h5:b< -1048576
 · rw [ls (by omega)];simp [h1,h2,h3,h4,h5]
 by_cases h6:1048576<b
 · rw [ls (by omega)];simp [h1,h2,h3,h4,h5,h6]
 rw [lm (by omega)];simp [h1,h2,h3,h4,h5,h6]
theorem vO {x y:Int} (hx:w9 x) (hy:w9 y): -85070591730234615865843651857942052864<=x*y/\x*y<=85070591730234615865843651857942052864:=by have:=ti hx hy;omega
theorem acC {x y:Int} (hx:w9 x) (hy:w9 y):(x%18446744073709551616)*(y%18446744073709551616)=x*y+(if x<0 then y else 0)*18446744073709551616+(if y<0 then x else 0)*18446744073709551616+(if x<0/\y<0 then 340282366920938463463374607431768211456 else 0):=by
 by_cases h1:x<0<;>by_cases h2:y<0
 · have e1:x%18446744073709551616=x+18446744073709551616:=by omega
   have e2:y%18446744073709551616=y+18446744073709551616:=by omega
   rw [e1,e2,lm h1,lm h2,lm ⟨h1,h2⟩];grind
 · have e1:x%18446744073709551616=x+18446744073709551616:=by omega
   have e2:y%18446744073709551616=y:=by omega
   rw [e1,e2,lm h1,ls h2,ls (fun h=>h2 h.2)];grind
 · have e1:x%18446744073709551616=x:=by omega
   have e2:y%18446744073709551616=y+18446744073709551616:=by omega
   rw [e1,e2,ls h1,lm h2,ls (fun h=>h1 h.1)];grind
 have e1:x%18446744073709551616=x:=by omega
 have e2:y%18446744073709551616=y:=by omega
 rw [e1,e2,ls h1,ls h2,ls (fun h=>h1 h.1)];grind
theorem K9 {a b:Int} (ha:0<=a) (hb:0<=b):pz a b 0=aiH ((a+b)%18446744073709551616,(a+b) / 18446744073709551616):=by unfold pz;simp [ha,hb]
theorem TL {a b c d u v:Int} (ha:w9 a) (hb:w9 b):mV (a,b,c,d,0,u,v,0,0)=aiH (.next (a,b,c,d,1,u,v,a*b / 18446744073709551616,a*b%18446744073709551616)):=by
 unfold mV;have hm:=BH (x:=ae .u64 a) (y:=ae .u64 b) (by rw [wu];constructor<;>omega) (by rw [wu];constructor<;>omega);have RN:=vO ha hb;have hu:=acC ha hb;simp only [hm,aq];simp only [wu,hu];generalize a*b=x at*
 by_cases h1:a<0<;>by_cases h2:b<0
 all_goals
  simp only [h1,h2,decide_true,decide_false,kw,lc,if_true,if_false,and_self,and_false,false_and];rw [K9 (by omega) (by omega)];simp only [wi,aq,show aiP ((0:Int)<2)=aiL from rfl,kw,show ((0:Int)==0)=aiL from rfl,v4,Step.next.injEq,NE,true_and];refine ⟨by omega,?_,?_⟩<;>omega
theorem TM {a b c d u v h l:Int} (hc:w9 c) (hd:w9 d) (hl:TG l)
 (_hh: -9223372036854775808<=h/\h<9223372036854775808) (hs: -170141183460469231731687303715884105728<=h*18446744073709551616+l+c*d/\h*18446744073709551616+l+c*d<170141183460469231731687303715884105728):
 mV (a,b,c,d,1,u,v,h,l)=aiH (.next (a,b,c,d,2,u,v,(h*18446744073709551616+l+c*d) / 18446744073709551616,(h*18446744073709551616+l+c*d)%18446744073709551616)):=by
 unfold mV;have hm:=BH (x:=ae .u64 c) (y:=ae .u64 d) (by rw [wu];constructor<;>omega) (by rw [wu];constructor<;>omega);have RN:=vO hc hd;have hu:=acC hc hd;simp only [hm,aq];simp only [wu,hu];generalize c*d=x at*
 by_cases h1:c<0<;>by_cases h2:d<0
 all_goals
  simp only [h1,h2,decide_true,decide_false,kw,lc,if_true,if_false,and_self,and_false,false_and];rw [K9 (by omega) (by omega)];simp only [wi,aq,show aiP ((1:Int)<2)=aiL from rfl,kw,lc,show ((1:Int)==0)=aiN from rfl,show ((1:Int)==1)=aiL from rfl,v4,Step.next.injEq,NE,true_and];refine ⟨by omega,?_,?_⟩<;>omega
theorem G0 {a b c d:Int} (ha:w9 a) (hb:w9 b) (hc:w9 c) (hd:w9 d) (hs: -170141183460469231731687303715884105728<=a*b+c*d/\a*b+c*d<170141183460469231731687303715884105728):
 wT (a,b,c,d)=aiH ((a*b+c*d) / 18446744073709551616,(a*b+c*d)%18446744073709551616):=by
 unfold wT;dsimp only;have RN:=vO ha hb;have e:a*b / 18446744073709551616*18446744073709551616+a*b%18446744073709551616+c*d=a*b+c*d:=by omega
 rw [aM (TL ha hb),aM (TM hc hd (by constructor<;>omega) (by constructor<;>omega) (by rw [e];exact hs)),e];exact aA rfl
def FW (p q:Pt) (t:Int×Int):Int:=(p.2.1-q.2.1)*t.2+(p.2.2-q.2.2)*t.1
def leads (p q:Pt) (t:Int×Int):Prop:=0<FW p q t\/(FW p q t=0/\(q.2.2<p.2.2\/(p.2.2=q.2.2/\p.1<q.1)))
def No (p q:Pt) (t:Int×Int):Int:=if FW p q t<0 then -1 else if 0<FW p q t then 1 else if p.2.2<q.2.2 then -1 else if q.2.2<p.2.2 then 1 else jX q.1 p.1
theorem FX (p q:Pt) (t:Int×Int):0<No p q t↔leads p q t:=by
 unfold No leads
 by_cases h1:FW p q t<0
 · rw [lm h1];omega
 by_cases h2:0<FW p q t
 · rw [ls h1,lm h2];simp [h2]
 rw [ls h1,ls h2]
 by_cases h3:p.2.2<q.2.2
 · rw [lm h3];omega
 by_cases h4:q.2.2<p.2.2
 · rw [ls h3,lm h4];omega
 rw [ls h3,ls h4]
 rcases dR q.1 p.1 with ⟨h,e⟩|⟨h,e⟩|⟨h,e⟩<;>rw [e]<;>omega
theorem zw (a b:Int):s7 [a,b]=aiH (if a≠0 then a else b):=by
 unfold s7
 by_cases h1:a=0
 · subst h1
   rw [aM (y:=(0,[0,b],2,1)) (by rfl)]
   by_cases h2:b=0
   · subst h2
     rw [aM (y:=(0,[0,0],2,2)) (by rfl)];exact aA rfl
   refine (aA (r:=b) ?_).trans (by simp)
   have e:uR (0,[0,b],2,1)=(bif b !=0 then aiH (.done b) else aiH (.next (0,[0,b],2,ae .i64 (1+1)))):=rfl;rw [e,dL h2];rfl
 refine (aA (r:=a) ?_).trans (by simp [h1])
 have e:uR (0,[a,b],abJ [a,b].length,0)=(bif a !=0 then aiH (.done a) else aiH (.next (0,[a,b],abJ [a,b].length,ae .i64 (0+1)))):=rfl;rw [e,dL h1];rfl
theorem TN {p q:Pt} {t:Int×Int} (hp:ff p) (hq:ff q) (ht:jW t):w9 (p.2.1-q.2.1)/\w9 (p.2.2-q.2.2)/\ -170141183460469231731687303715884105728<=FW p q t/\FW p q t<170141183460469231731687303715884105728:=by
 obtain ⟨a1,a2,a3,a4,a5,a6⟩:=hp;obtain ⟨b1,b2,b3,b4,b5,b6⟩:=hq;have h1:w9 (p.2.1-q.2.1):=by constructor<;>omega
 have h2:w9 (p.2.2-q.2.2):=by constructor<;>omega
 refine ⟨h1,h2,?_⟩;have k: ∀{x y:Int},-2097152<=x/\x<=2097152->w9 y-> -19342813113834066795298816<=x*y/\x*y<=19342813113834066795298816:=by
  intro x y hx hy;have:((x*y).natAbs:Int)<=2097152*9223372036854775808:=by rw [<- BI];exact abS (by omega) (zu hy) (by omega) (by decide)
  omega
 have k1:=k (x:=p.2.1-q.2.1) (by omega) ht.2;have k2:=k (x:=p.2.2-q.2.2) (by omega) ht.1;unfold FW;omega
theorem uv {p q:Pt} {t:Int×Int} (hp:ff p) (hq:ff q) (ht:jW t):mg p q t=aiH (No p q t):=by
 obtain ⟨g1,g2,g3⟩:=TN hp hq ht;unfold mg;rw [fC g1,fC g2,G0 g1 ht.2 g2 ht.1 g3];simp only [aq,zZ,kH,zw];rw [show (p.2.1-q.2.1)*t.2+(p.2.2-q.2.2)*t.1=FW p q t from rfl];unfold No;generalize FW p q t=n at*
 by_cases h1:n<0
 · have e1:(n / 18446744073709551616==0)=aiN:=by simp;omega
   have e2:aiP (n / 18446744073709551616<0)=aiL:=by simp;omega
   rw [lm h1];simp [e1,e2]
 by_cases h2:0<n
 · have e1:((n / 18446744073709551616==0)&&(n%18446744073709551616==0))=aiN:=by simp;omega
   have e2:aiP (n / 18446744073709551616<0)=aiN:=by simp;omega
   rw [ls h1,lm h2];simp only [e1,e2,ww,kw,lc]
 have:n=0:=by omega
 subst this;rw [ls h1,ls h2];unfold jX
 by_cases h3:p.2.2<q.2.2
 · simp [h3]
 by_cases h4:q.2.2<p.2.2
 · simp [h3,h4]
 simp [h3,h4]
theorem aa' {x y:Int} (hx: -85070591730234615865843651857942052864<=x/\x<=85070591730234615865843651857942052864) (hy: -85070591730234615865843651857942052864<=y/\y<=85070591730234615865843651857942052864):
 wR (aiP (x<0),(x.natAbs:Int) / 18446744073709551616,(x.natAbs:Int)%18446744073709551616) (aiP (y<0),(y.natAbs:Int) / 18446744073709551616,(y.natAbs:Int)%18446744073709551616)=
  aiH (aiP (x+y<0),((x+y).natAbs:Int) / 18446744073709551616,((x+y).natAbs:Int)%18446744073709551616):=by
 have n1:(x.natAbs:Int)<=85070591730234615865843651857942052864:=by omega
 have n2:(y.natAbs:Int)<=85070591730234615865843651857942052864:=by omega
 unfold wR;rw [Jd _ _ (uu _ (by omega) n1) (uu _ (by omega) n2)];have ex:((x.natAbs:Int) / 18446744073709551616)*18446744073709551616+(x.natAbs:Int)%18446744073709551616=(x.natAbs:Int):=by omega
 have ey:((y.natAbs:Int) / 18446744073709551616)*18446744073709551616+(y.natAbs:Int)%18446744073709551616=(y.natAbs:Int):=by omega
 simp only [ex,ey,aq];have same: ∀{X Y Z:Int},0<=X->0<=Y->X<=85070591730234615865843651857942052864->Y<=85070591730234615865843651857942052864->Z=X+Y-> ∀b:Bool,
  (bif aiP (ae .u64 (X%18446744073709551616+Y%18446744073709551616)<X%18446744073709551616) then aiH (b,ae .u64 (ae .u64 (X / 18446744073709551616+Y / 18446744073709551616)+1),ae .u64 (X%18446744073709551616+Y%18446744073709551616))
   else aiH (b,ae .u64 (X / 18446744073709551616+Y / 18446744073709551616),ae .u64 (X%18446744073709551616+Y%18446744073709551616)))=aiH (b,Z / 18446744073709551616,Z%18446744073709551616):=by
  intro X Y Z h1 h2 h3 h4 h5 b;subst h5;simp only [wu]
  by_cases h:(X%18446744073709551616+Y%18446744073709551616)%18446744073709551616<X%18446744073709551616
  · simp only [h,decide_true,kw,v4,NE,true_and];constructor<;>omega
  simp only [h,decide_false,lc,v4,NE,true_and];constructor<;>omega
 have minus: ∀{X Y Z:Int} (b c:Bool),0<=X->0<=Y->X<=85070591730234615865843651857942052864->Y<=X->Z=X-Y->qG (b,X / 18446744073709551616,X%18446744073709551616) (c,Y / 18446744073709551616,Y%18446744073709551616)=aiH (aiN,Z / 18446744073709551616,Z%18446744073709551616):=by
  intro X Y Z b c h1 h2 h3 h4 h5;subst h5;unfold qG;simp only [wu]
  by_cases h:X%18446744073709551616<Y%18446744073709551616
  · simp only [h,decide_true,kw,v4,NE,true_and];constructor<;>omega
  simp only [h,decide_false,lc,v4,NE,true_and];constructor<;>omega
 by_cases h1:x<0<;>by_cases h2:y<0
 · have h3:x+y<0:=by omega
   simp only [h1,h2,h3,decide_true,beq_self_eq_true,kw];exact same (by omega) (by omega) n1 n2 (by omega) aiL
 · simp only [h1,h2,decide_true,decide_false,show (aiL==aiN)=aiN from rfl,lc,kw]
   by_cases h3:(y.natAbs:Int)<=(x.natAbs:Int)
   · have e:aiP (0<=jX (x.natAbs:Int) (y.natAbs:Int))=aiL:=by
      rcases dR (x.natAbs:Int) (y.natAbs:Int) with ⟨h,e⟩|⟨h,e⟩|⟨h,e⟩<;>rw [e]<;>first|rfl|omega
     rw [e,minus (Z:=((x+y).natAbs:Int)) _ _ (by omega) (by omega) n1 h3 (by omega)];simp only [kw,aq]
     by_cases h4:x+y=0
     · rw [h4];rfl
     have h5:x+y<0:=by omega
     by_cases h6:0<((x+y).natAbs:Int) / 18446744073709551616
     · simp [h5,h6]
     have h7:0<((x+y).natAbs:Int)%18446744073709551616:=by omega
     simp only [h5,h6,h7,decide_true,decide_false,lc]
   have e:aiP (0<=jX (x.natAbs:Int) (y.natAbs:Int))=aiN:=by
    rcases dR (x.natAbs:Int) (y.natAbs:Int) with ⟨h,e⟩|⟨h,e⟩|⟨h,e⟩<;>rw [e]<;>first|rfl|omega
   rw [e,minus (Z:=((x+y).natAbs:Int)) _ _ (by omega) (by omega) n2 (by omega) (by omega)];have h5: ¬(x+y<0):=by omega
   simp [h5]
 · simp only [h1,h2,decide_true,decide_false,show (aiN==aiL)=aiN from rfl,lc]
   by_cases h3:(y.natAbs:Int)<=(x.natAbs:Int)
   · have e:aiP (0<=jX (x.natAbs:Int) (y.natAbs:Int))=aiL:=by
      rcases dR (x.natAbs:Int) (y.natAbs:Int) with ⟨h,e⟩|⟨h,e⟩|⟨h,e⟩<;>rw [e]<;>first|rfl|omega
     rw [e,minus (Z:=((x+y).natAbs:Int)) _ _ (by omega) (by omega) n1 h3 (by omega)];have h5: ¬(x+y<0):=by omega
     simp [h5]
   have e:aiP (0<=jX (x.natAbs:Int) (y.natAbs:Int))=aiN:=by
    rcases dR (x.natAbs:Int) (y.natAbs:Int) with ⟨h,e⟩|⟨h,e⟩|⟨h,e⟩<;>rw [e]<;>first|rfl|omega
   rw [e,minus (Z:=((x+y).natAbs:Int)) _ _ (by omega) (by omega) n2 (by omega) (by omega)];have h5:x+y<0:=by omega
   simp [h5]
 have h3: ¬(x+y<0):=by omega
 simp only [h1,h2,h3,decide_false,beq_self_eq_true,kw];exact same (by omega) (by omega) n1 n2 (by omega) aiN
theorem aiJ {p q:Pt} {t:Int×Int} (hp:ff p) (hq:ff q) (ht:jW t):zl p q t=aiH (jX (FW p q t) 0):=by
 obtain ⟨g1,g2,g3⟩:=TN hp hq ht;unfold zl;rw [fC g1,fC g2,xb g1 ht.2,xb g2 ht.1];simp only [aq];rw [aa' (vO g1 ht.2) (vO g2 ht.1)];simp only [aq];rw [show (p.2.1-q.2.1)*t.2+(p.2.2-q.2.2)*t.1=FW p q t from rfl];obtain ⟨a1,a2,a3,a4,a5,a6⟩:=hp;obtain ⟨b1,b2,b3,b4,b5,b6⟩:=hq;have k: ∀{x y:Int},-2097152<=x/\x<=2097152->w9 y-> -19342813113834066795298816<=x*y/\x*y<=19342813113834066795298816:=by
  intro x y hx hy;have:((x*y).natAbs:Int)<=2097152*9223372036854775808:=by rw [<- BI];exact abS (by omega) (zu hy) (by omega) (by decide)
  omega
 have k1:=k (x:=p.2.1-q.2.1) (by omega) ht.2;have k2:=k (x:=p.2.2-q.2.2) (by omega) ht.1;have:((FW p q t).natAbs:Int)<=85070591730234615865843651857942052864:=by unfold FW;omega
 rw [Je this];rfl
theorem La {p q:Pt} {t:Int×Int} (hp:ff p) (hq:ff q) (ht:jW t):nP p q t=aiH (aiP (leads p q t)):=by
 unfold nP leads;rw [aiJ hp hq ht];simp only [aq];rcases dR (FW p q t) 0 with ⟨h,e⟩|⟨h,e⟩|⟨h,e⟩<;>rw [e]
 · have h1: ¬(0<FW p q t):=by omega
   have h2: ¬(FW p q t=0):=by omega
   simp [h1,h2]
 · rw [h]
   by_cases h3:p.2.2=q.2.2
   · simp [h3]
   simp [h3,dL h3]
 simp [h]
theorem uY {p q:Pt} {t:Int×Int} (ht:jW t):pJ p q t=aiH (if ff p/\ff q/\bA t then (if p.1=q.1 then 2 else 0) else 8):=by
 unfold pJ;simp only [fB,dD ht,aq]
 by_cases h4:p.1=q.1
 · by_cases h1:ff p<;>by_cases h2:ff q<;>by_cases h3:bA t<;>simp [h1,h2,h3,h4]
 have h5:=dM h4
 by_cases h1:ff p<;>by_cases h2:ff q<;>by_cases h3:bA t<;>simp [h1,h2,h3,h4,h5]
theorem aba {n d:Int} (hn:w9 n) (hd:w9 d):wU n d=me n d:=by
 unfold wU me
 by_cases h0:d=0
 · subst h0;rfl
 have e0:(d==0)=aiN:=by simpa using h0
 simp only [e0,lc,oS hn,oS hd,jQ hn,jQ hd,aq,zY,pM];have hp:0<v6 n.natAbs d.natAbs:=acg _ (by omega);have e1:((v6 n.natAbs d.natAbs:Int)==0)=aiN:=by simp;omega
 simp only [e1,lc];unfold yA pE;simp only [show aiP ((0:Int)<0)=aiN from rfl,lc]
 by_cases h3:n=0
 · subst h3
   have z: ∀k:Int,ae .u64 (acy (((0:Int).natAbs:Nat):Int) k)=0:=fun k=>by rw [show (((0:Int).natAbs:Nat):Int)=0 from rfl,Int.zero_tdiv];rfl
   have z2:ae .i64 0=0:=rfl;have z3:ae .i64 (0-0)=0:=rfl;simp only [z,z2,z3,show ((0:Int) !=0)=aiN from rfl,lc,show aiP ((0:Int)<0)=aiN from rfl];cases (!(aiN==aiP (d<0)))<;>simp
 simp only [dL h3]
 cases (!(aiP (n<0)==aiP (d<0)))<;>rfl
noncomputable def met (p q:Pt):Int×Int:=((me (p.2.1-q.2.1) (q.2.2-p.2.2)).getD ((0,0),0)).1
theorem Np {n d:Int} (hn: -2097152<=n/\n<=2097152) (hd: -2097152<=d/\d<=2097152) (h0:d≠0): ∃r,me n d=aiH (r,0)/\bA r/\jW r/\r.1*d=n*r.2:=by
 have hn':w9 n:=by constructor<;>omega
 have hd':w9 d:=by constructor<;>omega
 unfold me;have e0:(d==0)=aiN:=by simpa using h0
 have hp:0<v6 n.natAbs d.natAbs:=acg _ (by omega);have e1:((v6 n.natAbs d.natAbs:Int)==0)=aiN:=by simp;omega
 simp only [e0,lc,jQ hn',jQ hd',aq,pM,e1];have q1:acy (n.natAbs:Int) (v6 n.natAbs d.natAbs:Int)=((n.natAbs / v6 n.natAbs d.natAbs:Nat):Int):=by rw [adF]
 have q2:acy (d.natAbs:Int) (v6 n.natAbs d.natAbs:Int)=((d.natAbs / v6 n.natAbs d.natAbs:Nat):Int):=by rw [adF]
 rw [q1,q2];have l1:n.natAbs / v6 n.natAbs d.natAbs<=2097152:=aiA (adc _ _) (by omega);have l2:d.natAbs / v6 n.natAbs d.natAbs<=2097152:=aiA (adc _ _) (by omega);have l3:1<=d.natAbs / v6 n.natAbs d.natAbs:=Nat.div_pos (Nat.le_of_dvd (by omega) (ac5 _ _)) hp;have co:v6 (d.natAbs / v6 n.natAbs d.natAbs) (n.natAbs / v6 n.natAbs d.natAbs)=1:=by rw [abH,Nat.gcd_div (acP _ _) (ac5 _ _)];exact Nat.div_self hp
 have v1:n.natAbs=v6 n.natAbs d.natAbs*(n.natAbs / v6 n.natAbs d.natAbs):=(acD (acP _ _)).symm;have v2:d.natAbs=v6 n.natAbs d.natAbs*(d.natAbs / v6 n.natAbs d.natAbs):=(acD (ac5 _ _)).symm;have val:(n.natAbs:Int)*((d.natAbs / v6 n.natAbs d.natAbs:Nat):Int)=(d.natAbs:Int)*((n.natAbs / v6 n.natAbs d.natAbs:Nat):Int):=by
  generalize n.natAbs / v6 n.natAbs d.natAbs=a at*;generalize d.natAbs / v6 n.natAbs d.natAbs=b at*;generalize v6 n.natAbs d.natAbs=g at*;rw [v1,v2,adk,adk,agd,agd,abP (a:Int) (b:Int)]
 clear v1 v2;generalize n.natAbs / v6 n.natAbs d.natAbs=a at*;generalize d.natAbs / v6 n.natAbs d.natAbs=b at*;have w1:ae .u64 (a:Int)=a:=by rw [wu];omega
 have w2:ae .u64 (b:Int)=b:=by rw [wu];omega
 have made: ∀s:Bool,pE s (aiN,0,(a:Int)) (aiN,0,(b:Int))=aiH ((if s=aiL then -(a:Int) else a,(b:Int)),0):=by
  intro s;unfold pE;have d1:aiP (9223372036854775807<(a:Int))=aiN:=by simp;omega
  have d2:aiP (9223372036854775807<(b:Int))=aiN:=by simp;omega
  have v1:ae .i64 (a:Int)=a:=by rw [wi];omega
  have v2:ae .i64 (b:Int)=b:=by rw [wi];omega
  have v3:ae .i64 (0- (a:Int))= -(a:Int):=by rw [wi];omega
  simp only [show aiP ((0:Int)<0)=aiN from rfl,lc,d1,d2,v1,v2,v3];cases s<;>simp
 have fin: ∀s:Bool,(if s=aiL then -(a:Int) else a)*d=n*b-> ∃r,(aiH ((if s=aiL then -(a:Int) else a,(b:Int)),(0:Int)):Option ((Int×Int)×Int))=aiH (r,0)/\bA r/\jW r/\r.1*d=n*r.2:=by
  intro s hv;refine ⟨_,rfl,?_,?_,hv⟩
  · unfold bA
    dsimp only;refine ⟨by omega,?_,?_⟩
    · cases s
      · simp only [acO,if_false];omega
      simp only [if_true];omega
    rw [show (if s=aiL then -(a:Int) else (a:Int)).natAbs=a by cases s<;>simp,show ((b:Int)).natAbs=b by omega];exact co
  constructor
  · dsimp only;cases s
    · simp only [acO,if_false];constructor<;>omega
    simp only [if_true];constructor<;>omega
  dsimp only;constructor<;>omega
 simp only [w1,w2,made,aq]
 by_cases h1:(!(aiP (n<0)==aiP (d<0)))=aiL
 · rw [h1]
   refine fin (n !=0) ?_
   by_cases hn0:n=0
   · subst hn0
     have a0:(a:Int)=0:=by
      have:((d.natAbs:Nat):Int)*(a:Int)=0:=by rw [<- val];simp
      rcases Int.mul_eq_zero.1 this with h|h
      · omega
      exact h
     simp [a0]
   have e:(n !=0)=aiL:=by simpa using hn0
   rw [e,lm rfl]
   by_cases TO:n<0
   · have hd0: ¬d<0:=fun k=>by simp [TO,k] at h1
     have x1:(n.natAbs:Int)= -n:=by omega
     have x2:(d.natAbs:Int)=d:=by omega
     rw [x1,x2,abK] at val;rw [abK,abP];omega
   have hd0:d<0:=by
    by_cases k:d<0
    · exact k
    simp [TO,k] at h1
   have x1:(n.natAbs:Int)=n:=by omega
   have x2:(d.natAbs:Int)= -d:=by omega
   rw [x1,x2,abK] at val;rw [abK,abP];omega
 rw [ack] at h1;rw [h1]
 refine fin aiN ?_;rw [ls (by simp)]
 by_cases TO:n<0
 · have hd0:d<0:=by
    by_cases k:d<0
    · exact k
    simp [TO,k] at h1
   have x1:(n.natAbs:Int)= -n:=by omega
   have x2:(d.natAbs:Int)= -d:=by omega
   rw [x1,x2,abK,abK] at val;rw [abP];omega
 have hd0: ¬d<0:=fun k=>by simp [TO,k] at h1
 have x1:(n.natAbs:Int)=n:=by omega
 have x2:(d.natAbs:Int)=d:=by omega
 rw [x1,x2] at val;rw [abP];omega
theorem CS {p q:Pt} (hp:ff p) (hq:ff q) (h:p.2.2≠q.2.2):me (p.2.1-q.2.1) (q.2.2-p.2.2)=aiH (met p q,0)/\bA (met p q)/\jW (met p q)/\(met p q).1*(q.2.2-p.2.2)=(p.2.1-q.2.1)*(met p q).2:=by
 obtain ⟨a1,a2,a3,a4,a5,a6⟩:=hp;obtain ⟨b1,b2,b3,b4,b5,b6⟩:=hq;obtain ⟨r,h1,h2,h3⟩:=Np (n:=p.2.1-q.2.1) (d:=q.2.2-p.2.2) (by omega) (by omega) (by omega);have:met p q=r:=by unfold met;rw [h1];rfl
 rw [this];exact ⟨h1,h2,h3⟩
theorem HM {p q:Pt} (hp:ff p) (hq:ff q):ae .i64 (p.2.1-q.2.1)=p.2.1-q.2.1/\ae .i64 (q.2.2-p.2.2)=q.2.2-p.2.2/\w9 (p.2.1-q.2.1)/\w9 (q.2.2-p.2.2):=by
 obtain ⟨a1,a2,a3,a4,a5,a6⟩:=hp;obtain ⟨b1,b2,b3,b4,b5,b6⟩:=hq;have h1:w9 (p.2.1-q.2.1):=by constructor<;>omega
 have h2:w9 (q.2.2-p.2.2):=by constructor<;>omega
 exact ⟨fC h1,fC h2,h1,h2⟩
noncomputable def jU (h l:Pt) (t:Int×Int):(Int×Int)×Bool:=if leads l h t then (t,aiL) else if h.2.2<l.2.2 then (met h l,aiL) else ((0,0),aiN)
theorem aiK {p q:Pt} (hp:ff p) (hq:ff q) (h:p.2.2≠q.2.2):zm p q=aiH (met p q):=by obtain ⟨w1,w2,_,_⟩:=HM hp hq;unfold zm;rw [w1,w2,(CS hp hq h).1];rfl
theorem Nq {h l:Pt} {t:Int×Int} (hh:ff h) (hl:ff l) (ht:jW t):p8 h l t=aiH (jU h l t):=by
 unfold p8 jU;rw [La hl hh ht];simp only [aq]
 by_cases h1:leads l h t
 · simp [h1]
 simp only [h1,decide_false,lc,if_false]
 by_cases h2:h.2.2<l.2.2
 · simp [h2,aiK hh hl (by omega)]
 simp [h2]
theorem TP:bA (0,1):=by unfold bA;decide
theorem DV {h l:Pt} {t:Int×Int} (ht:jW t):
 ss h l t=aiH (if ff h/\ff l/\bA t/\h.1≠l.1 then ((jU h l t).1,(jU h l t).2,0) else ((0,0),aiN,if ff h/\ff l/\bA t then 2 else 8)):=by
 unfold ss;rw [uY ht]
 by_cases h1:ff h/\ff l/\bA t
 · rw [lm h1]
   by_cases h2:h.1=l.1
   · simp [h1,h2]
   obtain ⟨hh,hl,hr⟩:=h1
   rw [ls h2,lm ⟨hh,hl,hr,h2⟩];simp only [aq,show ((0:Int) !=0)=aiN from rfl,lc,uv hl hh ht];unfold jU
   by_cases h3:leads l h t
   · have:aiP (0<No l h t)=aiL:=by simpa using (FX l h t).2 h3
     rw [this];simp [h3]
   have:aiP (0<No l h t)=aiN:=decide_eq_false fun k=>h3 ((FX l h t).1 k)
   rw [this,ls h3];simp only [lc]
   by_cases h4:h.2.2<l.2.2
   · have e:aiP (l.2.2<=h.2.2)=aiN:=by simp;omega
     rw [e,lm h4];unfold yB;obtain ⟨w1,w2,i1,i2⟩:=HM hh hl;have e2:(h.2.2==l.2.2)=aiN:=by simp;omega
     rw [uY (by constructor<;>constructor<;>decide),lm ⟨hh,hl,TP⟩,ls h2];simp only [aq,show ((0:Int) !=0)=aiN from rfl,lc,e2,w1,w2,aba i1 i2,(CS hh hl (by omega)).1];rfl
   have e:aiP (l.2.2<=h.2.2)=aiL:=by simp;omega
   rw [e,ls h4];rfl
 rw [ls h1,ls (fun h=>h1 ⟨h.1,h.2.1,h.2.2.1⟩),ls h1];rfl
theorem BJ {h l:Pt} {t:Int×Int} (hh:ff h) (hl:ff l) (ht:jW t) (hr:bA t) (h2:(jU h l t).2=aiL):bA (jU h l t).1/\jW (jU h l t).1:=by
 unfold jU at*
 by_cases h3:leads l h t
 · rw [lm h3];exact ⟨hr,ht⟩
 rw [ls h3] at h2 ⊢
 by_cases h4:h.2.2<l.2.2
 · rw [lm h4];have:=(CS hh hl (by omega)).2;exact ⟨this.1,this.2.1⟩
 rw [ls h4] at h2;cases h2
theorem Nr: ∀(n:Nat) (l:List Nat),l.Nodup->(∀x∈l,x<n)->aiD l<=n
 |0,l,_,h=>by
  cases l with
  |nil=>simp
  |cons a l=>exact absurd (h a (by simp)) (by omega)
 |n+1,l,hd,h=>by
  have h1:=Nr n (l.filter (fun x=>x≠n)) (hd.filter _) (by
   intro x hx;rw [ado] at hx;have:=h x hx.1;have h2:x≠n:=by simpa using hx.2
   omega)
  have h2:(aiD l)<=(l.filter (fun x=>x≠n)).length+1:=by
   clear h1 h
   induction l with
   |nil=>simp
   |cons a l ih=>
    rw [abL] at hd;have:=ih hd.2
    by_cases ha:a=n
    · subst ha
      have e:l.filter (fun x=>decide (x≠a))=l:=by rw [List.filter_eq_self];intro x hx;simp only [ne_eq,decide_eq_true_eq];rintro rfl;exact hd.1 hx
      rw [List.filter_cons_of_neg (by simp),e];simp
    rw [List.filter_cons_of_pos (by simpa using ha)]
    simp only [acQ];omega
  omega
theorem Dz {n:Nat} {l:List Nat} (hd:l.Nodup) (h: ∀x∈l,x<n) (hn:n<=aiD l): ∀x,x<n->x∈l:=by
 intro x hx;refine EQ fun hc=>?_
 have:=Nr n (x::l) (by rw [abL];exact ⟨hc,hd⟩) (by
  intro y hy;rcases ai1.1 hy with rfl|hy
  · exact hx
  exact h y hy)
 simp only [acQ] at this;omega
def fu (l:List Pt):Prop:= ∀i,i+1<aiD l->(l[i]!).1<(l[i+1]!).1
def bG (l:List Pt):Prop:=aiD l<=64/\(∀p∈l,ff p)/\fu l
noncomputable def ly (l:List Pt):Int:=if 64<(aiD l) then 4 else if¬(∀p∈l,ff p) then 8 else if¬fu l then 32 else 0
theorem dj {l:List Pt}:ly l=0↔bG l:=by
 unfold ly bG
 by_cases h1:64<aiD l
 · rw [lm h1];simp;omega
 rw [ls h1]
 by_cases h2: ∀p∈l,ff p
 · rw [ls (rc.2 h2)]
   by_cases h3:fu l
   · rw [ls (rc.2 h3)]
     exact ⟨fun _=>⟨by omega,h2,h3⟩,fun _=>rfl⟩
   rw [lm h3]
   exact ⟨fun h=>(by cases h),fun h=>absurd h.2.2 h3⟩
 rw [lm h2]
 constructor
 · intro h;cases h
 intro h;exact absurd h.2.1 h2
theorem aY {n:Nat} (h:n<1000000000):ae .i64 ((n:Int)+1)=((n+1:Nat):Int):=by rw [wi];omega
theorem sC {n:Nat} (h:n<1000000000) (h1:1<=n):ae .i64 ((n:Int) -1)=((n-1:Nat):Int):=by rw [wi];omega
theorem az (n:Nat):abJ n=(n:Int):=rfl
theorem Lb (l:List Pt) (h:(aiD l)<=64):aB iY (1,l)=aiH (.done (if fu l then 0 else 32)):=by
 by_cases hl:(aiD l)<=1
 · have:fu l:=fun i hi=>by omega
   rw [lm this];refine aA ?_;unfold iY;rw [az];have:aiP ((1:Int)<((aiD l):Int))=aiN:=by simp;omega
   simp [this]
 have key:=db (body:=iY) (fun i=>(((i+1:Nat):Int),l)) (aiD l-1) (fun i=>(l[i+1]!).1<=(l[i]!).1) (r:= .done 32) (e:= .done 0) (by
  intro i hi;have e1:aiP (((i+1:Nat):Int)<((aiD l):Int))=aiL:=by simp;omega
  have e2:ae .i64 (((i+1:Nat):Int) -1)=(i:Int):=by rw [wi];omega
  have hb:iY (((i+1:Nat):Int),l)=bif aiP ((l[i+1]!).1<=(l[i]!).1) then aiH (.done (.done 32)) else aiH (.next (((i+1+1:Nat):Int),l)):=by unfold iY;simp only [az,e1,kw,e2,ar l i (by omega),ar l (i+1) (by omega),aq,aY (show i+1<1000000000 by omega)]
  constructor
  · intro hc;rw [hb,decide_eq_true hc];rfl
  · intro hc;rw [hb,decide_eq_false hc];rfl) (by
  unfold iY;have:aiP (((aiD l-1+1:Nat):Int)<abJ (aiD l))=aiN:=by rw [az];simp;omega
  simp only [this,lc])
 by_cases hs:fu l
 · rw [lm hs]
   refine key.2 fun i hi=>?_
   have:=hs i (by omega);omega
 rw [ls hs]
 refine key.1 ?_;unfold fu at hs;simp only [AC] at hs;obtain ⟨i,hi,h2⟩:=hs;exact ⟨i,by omega,by omega⟩
theorem mq (f:Field):gQ f=aiH (ly f.am):=by
 unfold gQ ly;rw [az]
 by_cases h:64<aiD f.am
 · have:aiP ((64:Int)<((aiD f.am):Int))=aiL:=by simp;omega
   rw [this,lm h];rfl
 have:aiP ((64:Int)<((aiD f.am):Int))=aiN:=by simp;omega
 rw [this,ls h];simp only [lc];generalize f.am=l at*;have key:=db (body:=mi) (fun i=>((i:Int),l)) (aiD l) (fun i=> ¬ff l[i]!) (r:=8) (e:=if fu l then 0 else 32) (by
  intro i hi;have e1:aiP ((i:Int)<((aiD l):Int))=aiL:=by simp;omega
  have hb:mi ((i:Int),l)=bif (if ff l[i]! then (0:Int) else 8) !=0 then aiH (.done 8) else aiH (.next (((i+1:Nat):Int),l)):=by unfold mi;simp only [az,e1,kw,ar l i (by omega),aq,gR,aY (show i<1000000000 by omega)]
  constructor
  · intro hc;rw [hb,ls hc];rfl
  · intro hc;rw [hb,lm (rc.1 hc)];rfl) (by
  unfold mi;have:aiP (((aiD l):Int)<abJ (aiD l))=aiN:=by rw [az];simp
  simp only [this,lc];exact Lb l (by omega))
 by_cases hp: ∀p∈l,ff p
 · rw [ls (rc.2 hp)]
   refine (key.2 fun i hi=>?_).trans ?_
   · exact rc.2 (hp _ (aL hi))
   by_cases hs:fu l
   · simp [hs]
   simp [hs]
 rw [lm hp]
 refine key.1 ?_;obtain ⟨p,hp⟩:=AC.1 hp;obtain ⟨hm,h2⟩:=abI.1 hp;obtain ⟨i,hi,rfl⟩:=aO.1 hm;exact ⟨i,hi,h2⟩
theorem Lc (l:List Pt) (h:(aiD l)<=64):aB iT (l,((aiD l):Int),0,l)=aiH (.done (if fu l then 0 else 32)):=by
 have key:=db (body:=iT) (fun i=>(l,((aiD l):Int),(i:Int),l)) (aiD l) (fun i=>0<i/\(l[i]!).1<=(l[i-1]!).1) (r:= .done 32) (e:= .done 0) (by
  intro i hi;have e1:aiP ((i:Int)<((aiD l):Int))=aiL:=by simp;omega
  by_cases h0:0<i
  · have e3:aiP ((0:Int)<(i:Int))=aiL:=by simp;omega
    have hb:iT (l,((aiD l):Int),(i:Int),l)=bif aiP ((l[i]!).1<=(l[i-1]!).1) then aiH (.done (.done 32)) else aiH (.next (l,((aiD l):Int),((i+1:Nat):Int),l)):=by unfold iT;simp only [e1,e3,kw,ar l i (by omega),sC (show i<1000000000 by omega) h0,ar l (i-1) (by omega),aq,aY (show i<1000000000 by omega)]
    constructor
    · intro hc;rw [hb,decide_eq_true hc.2];rfl
    intro hc
    have: ¬(l[i]!).1<=(l[i-1]!).1:=fun h=>hc ⟨h0,h⟩
    rw [hb,decide_eq_false this];rfl
  · have e3:aiP ((0:Int)<(i:Int))=aiN:=by simp;omega
    constructor
    · intro hc;exact absurd hc.1 h0
    intro _
    unfold iT;simp only [e1,e3,kw,lc,ar l i (by omega),aq,aY (show i<1000000000 by omega)]) (by
  unfold iT;have:aiP (((aiD l):Int)<((aiD l):Int))=aiN:=by simp
  simp only [this,lc])
 by_cases hs:fu l
 · rw [lm hs]
   refine key.2 fun i hi=>?_
   rintro ⟨h0,h1⟩;have:=hs (i-1) (by omega);rw [show i-1+1=i by omega] at this;omega
 rw [ls hs]
 refine key.1 ?_;unfold fu at hs;simp only [AC] at hs;obtain ⟨i,hi,h2⟩:=hs;exact ⟨i+1,by omega,by omega,by rw [show i+1-1=i by omega];omega⟩
theorem eN (f:Field):cU f=aiH (ly f.am):=by
 unfold cU ly;rw [az]
 by_cases h:64<aiD f.am
 · have:aiP ((64:Int)<((aiD f.am):Int))=aiL:=by simp;omega
   rw [this,lm h];rfl
 have:aiP ((64:Int)<((aiD f.am):Int))=aiN:=by simp;omega
 rw [this,ls h];simp only [lc];generalize f.am=l at*;have key:=db (body:=mf) (fun i=>(l,((aiD l):Int),(i:Int),l)) (aiD l) (fun i=> ¬ff l[i]!) (r:=8) (e:=if fu l then 0 else 32) (by
  intro i hi;have e1:aiP ((i:Int)<((aiD l):Int))=aiL:=by simp;omega
  have hb:mf (l,((aiD l):Int),(i:Int),l)=bif (if ff l[i]! then (0:Int) else 8) !=0 then aiH (.done (if ff l[i]! then (0:Int) else 8)) else aiH (.next (l,((aiD l):Int),((i+1:Nat):Int),l)):=by unfold mf;simp only [e1,kw,ar l i (by omega),aq,fB,aY (show i<1000000000 by omega)]
  constructor
  · intro hc;rw [hb,ls hc];rfl
  · intro hc;rw [hb,lm (rc.1 hc)];rfl) (by
  unfold mf;have:aiP (((aiD l):Int)<((aiD l):Int))=aiN:=by simp
  simp only [this,lc];exact Lc l (by omega))
 by_cases hp: ∀p∈l,ff p
 · rw [ls (rc.2 hp)]
   refine (key.2 fun i hi=>?_).trans ?_
   · exact rc.2 (hp _ (aL hi))
   by_cases hs:fu l
   · simp [hs]
   simp [hs]
 rw [lm hp]
 refine key.1 ?_;obtain ⟨p,hp⟩:=AC.1 hp;obtain ⟨hm,h2⟩:=abI.1 hp;obtain ⟨i,hi,rfl⟩:=aO.1 hm;exact ⟨i,hi,h2⟩
theorem fk {l:List Pt} (h:fu l) {i j:Nat} (nJ:i<j) (hj:j<aiD l):(l[i]!).1<(l[j]!).1:=by
 induction j with
 |zero=>omega
 |succ j ih=>
  have h1:=h j hj
  by_cases he:i=j
  · subst he;exact h1
  have:=ih (by omega) (by omega);omega
theorem pN {l:List Pt} (h:fu l) {i j:Nat} (hi:i<aiD l) (hj:j<aiD l) (he:(l[i]!).1=(l[j]!).1):i=j:=by
 rcases Nat.lt_trichotomy i j with h1|h1|h1
 · have:=fk h h1 hj;omega
 · exact h1
 have:=fk h h1 hi;omega
theorem DA (l:List Pt) (id:Int) (hl:(aiD l)<=1000000):(∀k,k<aiD l->(l[k]!).1=id->(∀j,j<k->(l[j]!).1≠id)->fJ ⟨l⟩ id=aiH (k:Int))/\((∀k,k<aiD l->(l[k]!).1≠id)->fJ ⟨l⟩ id=aiH (-1)):=by
 unfold fJ;refine jE (body:=qF) (fun i=>(id,(i:Int),l)) (aiD l) (fun i=>(l[i]!).1=id) (fun i=>(i:Int)) (fun i hi=>?_) ?_
 · have e1:aiP ((i:Int)<((aiD l):Int))=aiL:=by simp;omega
   have hb:qF (id,(i:Int),l)=bif (l[i]!).1==id then aiH (.done (i:Int)) else aiH (.next (id,((i+1:Nat):Int),l)):=by unfold qF;simp only [az,e1,kw,ar l i hi,aq,aY (show i<1000000000 by omega)]
   constructor
   · intro hc;rw [hb,cV hc];rfl
   intro hc;rw [hb,dM hc];rfl
 unfold qF
 have:aiP (((aiD l):Int)<((aiD l):Int))=aiN:=by simp
 simp only [az,this,lc]
theorem zx {l:List Pt} (hs:fu l) (hl:(aiD l)<=1000000) {k:Nat} (hk:k<aiD l) {id:Int} (he:(l[k]!).1=id):fJ ⟨l⟩ id=aiH (k:Int):=by
 refine (DA l id hl).1 k hk he fun j hj hc=>?_
 have:=fk hs hj hk;omega
theorem abb {l:List Pt} (hl:(aiD l)<=1000000) {id:Int} (h: ∀k,k<aiD l->(l[k]!).1≠id):fJ ⟨l⟩ id=aiH (-1):=(DA l id hl).2 h
theorem Ld (f:Nat->Int) (id:Int): ∀(n:Nat),(∀i j,i<j->j<n->f i<f j)-> ∃m,m<=n/\(∀i,i<m->f i<id)/\(∀i,m<=i->i<n->id<=f i)
 |0,_=>⟨0,abX _,fun i h=>by omega,fun i _ h=>by omega⟩
 |n+1,h=>by
  obtain ⟨m,h1,h2,h3⟩:=Ld f id n fun i j a b=>h i j a (by omega)
  by_cases hm:m=n
  · by_cases hf:f n<id
    · refine ⟨n+1,abX _,fun i hi=>?_,fun i a b=>by omega⟩
      by_cases he:i=n
      · subst he;exact hf
      exact h2 i (by omega)
    refine ⟨n,by omega,fun i hi=>h2 i (by omega),fun i a b=>?_⟩
    have:i=n:=by omega
    subst this;omega
  refine ⟨m,by omega,h2,fun i a b=>?_⟩
  by_cases he:i=n
  · subst he
    have:=h m i (by omega) (by omega);have:=h3 m (abX _) (by omega);omega
  exact h3 i a (by omega)
theorem bq {α:Type} [Inhabited α] {l:List α}:l.Nodup↔ ∀i j,i<j->j<aiD l->l[i]!≠l[j]!:=by
 unfold List.Nodup;rw [List.pairwise_iff_getElem];constructor
 · intro h i j nJ hj
   rw [getElem!_pos l i (by omega),getElem!_pos l j hj];exact h i j (by omega) hj nJ
 intro h i j hi hj nJ
 have:=h i j nJ hj
 rwa [getElem!_pos l i hi,getElem!_pos l j hj] at this
theorem cH {α:Type} [Inhabited α] {l:List α} {k:Nat} {x:α}:x∈l.take k↔ ∃i,i<k/\i<aiD l/\l[i]! =x:=by
 rw [aO];constructor
 · rintro ⟨i,hi,rfl⟩
   rw [aa4] at hi;exact ⟨i,by omega,by omega,(lG (by omega)).symm⟩
 rintro ⟨i,h1,h2,rfl⟩
 exact ⟨i,by rw [aa4];omega,lG h1⟩
theorem fv {α:Type} [Inhabited α] {l:List α} {k:Nat} (h:k<aiD l):l.take (k+1)=l.take k++[l[k]!]:=by rw [List.take_add_one,ac9 h,getElem!_pos l k h];rfl
def marks (l:List Bool):List Int->List Bool
 | []=>l
 |x::r=>marks (bz l x aiL) r
theorem mK: ∀(r:List Int) (l:List Bool),(marks l r).length=aiD l
 | [],_=>rfl
 |x::r,l=>by rw [marks,mK r,vF]
theorem AM: ∀(r:List Int) (l:List Bool) (x:Int),marks l (r++[x])=bz (marks l r) x aiL
 | [],_,_=>rfl
 |y::r,l,x=>by show marks (bz l y aiL) (r++[x])=_;rw [AM r];rfl
theorem nY : ∀ (r : List Int) (l : List Bool) (i : Nat), (∀ x ∈ r, 0 <= x) -> i < (aiD l) -> (marks l r)[i]! = (l[i]! || aiP ((i : Int) ∈ r))
  | [], l, i, _, _ => by simp [marks]
  | x :: r, l, i, h, hi => by
    rw [marks, nY r _ i (fun y hy => h y (by simp [hy])) (by rw [vF]; exact hi)]
    obtain ⟨k, rfl⟩ := ab1 (h x (by simp))
    rw [de, bn]
    by_cases e : i = k
    · subst e; rw [lm ⟨rfl, hi⟩]; simp
    rw [ls (fun h => e h.1)]
    have : ((i : Int) ∈ (k : Int) :: r) ↔ (i : Int) ∈ r := by
      rw [ai1]
      constructor
      · rintro (h | h)
        · omega
        exact h
      exact .inr
    simp only [this]
theorem FY (l:List Bool) (h:(aiD l)<=1000000):eJ l aiN=aiH (aiP (aiN∈l)):=by
 unfold eJ oG;have key:=jE (body:=gP) (fun i=>(l,aiN,((aiD l):Int),(i:Int))) (aiD l) (fun i=>l[i]! =aiN) (fun i=>(i:Int)) (e:= -1) (fun i hi=>by
  have e1:aiP ((i:Int)<((aiD l):Int))=aiL:=by simp;omega
  have hb:gP (l,aiN,((aiD l):Int),(i:Int))=bif aiN==l[i]! then aiH (.done (i:Int)) else aiH (.next (l,aiN,((aiD l):Int),((i+1:Nat):Int))):=by unfold gP;simp only [e1,kw,ar l i hi,aq,aY (show i<1000000000 by omega)]
  constructor
  · intro hc;rw [hb,hc];rfl
  · intro hc
    have:l[i]! =aiL:=by simpa using hc
    rw [hb,this];rfl) (by
  unfold gP;have:aiP (((aiD l):Int)<((aiD l):Int))=aiN:=by simp
  simp only [this,lc])
 rw [az]
 by_cases hx:aiN∈l
 · obtain ⟨i,hi,he⟩:=aO.1 hx
   obtain ⟨k,h1,h2,h3⟩:=least (c:=fun i=>l[i]! =aiN) ⟨i,hi,he⟩;have:=key.1 k h1 h2 h3;rw [show ((0:Nat):Int)=0 from rfl] at this;rw [this];have e:aiP ((0:Int)<=(k:Int))=aiL:=by simp
   simp [hx]
 have:=key.2 fun i hi he=>hx (aO.2 ⟨i,hi,he⟩)
 rw [show ((0:Nat):Int)=0 from rfl] at this;rw [this];simp [hx]
structure eX (s:aQ):Prop where
 n1:1<=aiD s.ay
 n2:(aiD s.ay)<=200
 ul:(aiD s.be)=aiD s.ay
 fr: ∀x∈s.bi,0<=x/\x<aiD s.ay
 fd:s.bi.Nodup
 uf: ∀i,i<aiD s.ay->(s.be[i]! =aiL↔(i:Int)∉s.bi)
 us: ∀i,i<aiD s.ay->0<=s.ay[i]!/\s.ay[i]!<=1000000/\(s.be[i]! =aiL->1<=s.ay[i]!)
theorem Ns (ay:List Int) (be:List Bool) (fr:List Int) (h1:(aiD ay)<=200) (h2:(aiD be)=aiD ay):
 aB gJ (ay,((aiD ay):Int),0,ay,be,fr)=aiH (.done (if∀i,i<aiD ay->0<=ay[i]!/\ay[i]!<=1000000/\(be[i]! =aiL->1<=ay[i]!) then 0 else 8)):=by
 have key:=db (body:=gJ) (fun i=>(ay,((aiD ay):Int),(i:Int),ay,be,fr)) (aiD ay) (fun i=> ¬(0<=ay[i]!/\ay[i]!<=1000000/\(be[i]! =aiL->1<=ay[i]!))) (r:= .done 8) (e:= .done 0) (fun i hi=>by
  have e1:aiP ((i:Int)<((aiD ay):Int))=aiL:=by simp;omega
  have hb:gJ (ay,((aiD ay):Int),(i:Int),ay,be,fr)=bif aiP (ay[i]!<0) then aiH (.done (.done 8)) else bif aiP (1000000<ay[i]!) then aiH (.done (.done 8)) else bif ay[i]! ==0 then (bif be[i]! then aiH (.done (.done 8)) else aiH (.next (ay,((aiD ay):Int),((i+1:Nat):Int),ay,be,fr))) else aiH (.next (ay,((aiD ay):Int),((i+1:Nat):Int),ay,be,fr)):=by unfold gJ;simp only [e1,kw,ar ay i hi,ar be i (by omega),aq,aY (show i<1000000000 by omega)]
  rw [hb];generalize ay[i]! =u at*
  by_cases a1:u<0
  · simp [a1];omega
  · by_cases a2:1000000<u
    · simp [a1,a2];omega
    by_cases a3:u=0
    · subst a3
      cases be[i]!<;>simp
    have a4:1<=u:=by omega
    have a5:0<=u:=by omega
    have a6:u<=1000000:=by omega
    simp [a1,a2,dM a3,a4,a5,a6]) (by
  unfold gJ;have:aiP (((aiD ay):Int)<((aiD ay):Int))=aiN:=by simp
  simp only [this,lc])
 by_cases hc: ∀i,i<aiD ay->0<=ay[i]!/\ay[i]!<=1000000/\(be[i]! =aiL->1<=ay[i]!)
 · rw [lm hc]
   exact key.2 fun i hi=>rc.2 (hc i hi)
 rw [ls hc]
 simp only [AC] at hc;obtain ⟨i,hi,hx⟩:=hc;exact key.1 ⟨i,hi,by simpa only [AC] using hx⟩
theorem uZ (s:aQ) (hf:(aiD s.bi)<=1000000):pH s=aiH (if eX s then 0 else 8):=by
 obtain ⟨ay,be,fr⟩:=s;dsimp only at hf;unfold pH;simp only [az]
 by_cases a1:(aiD ay)<1
 · have e:aiP (((aiD ay):Int)<1)=aiL:=by simp;omega
   rw [e,ls (fun h=>by have:=h.n1;dsimp only at this;omega)];rfl
 have e1:aiP (((aiD ay):Int)<1)=aiN:=by simp;omega
 by_cases a2:200<aiD ay
 · have e:aiP (200<((aiD ay):Int))=aiL:=by simp;omega
   rw [e1,e,ls (fun h=>by have:=h.n2;dsimp only at this;omega)];rfl
 have e2:aiP (200<((aiD ay):Int))=aiN:=by simp;omega
 by_cases a3:(aiD be)=aiD ay
 case neg=>
  have e:(((aiD be):Int) !=((aiD ay):Int))=aiL:=by simp;omega
  rw [e1,e2,e,ls (fun h=>a3 h.ul)];rfl
 have e3:(((aiD be):Int) !=((aiD ay):Int))=aiN:=by simp;omega
 simp only [e1,e2,e3,lc,bc (show (aiD be)<=1048576 by omega),aq];have yG:=Ns ay be fr (by omega) a3;have key:=db (body:=qd be) (fun k=>(fr,((aiD fr):Int),(k:Int),ay,be,fr,((aiD ay):Int),marks be (fr.take k))) (aiD fr)
  (fun k=>fr[k]!<0\/((aiD ay):Int)<=fr[k]!\/(marks be (fr.take k))[(fr[k]!).toNat]! =aiL) (r:=8)
  (e:=if aiN∈marks be fr then 8 else if∀i,i<aiD ay->0<=ay[i]!/\ay[i]!<=1000000/\(be[i]! =aiL->1<=ay[i]!) then 0 else 8) (fun k hk=>by
   have f1:aiP ((k:Int)<((aiD fr):Int))=aiL:=by simp;omega
   have f2:((marks be (fr.take k)).length==aiD be)=aiL:=by rw [mK];simp
   have f3:aiP ((0:Int)<=(k:Int))=aiL:=by simp
   have f4: ∀x:Int,((bz (marks be (fr.take k)) x aiL).length==(marks be (fr.take k)).length)=aiL:=by intro x;rw [vF];simp
   have f5:marks be (fr.take (k+1))=bz (marks be (fr.take k)) fr[k]! aiL:=by rw [fv hk,AM]
   unfold qd;simp only [f1,f2,f3,f4,kw,beq_self_eq_true,ar fr k hk,aq,aY (show k<1000000000 by omega),f5];clear f5;generalize fr[k]! =x
   by_cases b1:x<0
   · simp [b1]
   · by_cases b2:((aiD ay):Int)<=x
     · simp [b1,b2]
     simp only [b1,b2,decide_false,lc,false_or]
     rw [dO (l:=marks be (fr.take k)) (i:=x) (by omega) (by rw [mK];omega)];simp only [aq];cases (marks be (fr.take k))[x.toNat]!<;>simp) (by
   have f1:aiP (((aiD fr):Int)<((aiD fr):Int))=aiN:=by simp
   unfold qd;simp only [f1,lc,acV];rw [FY _ (by rw [mK];omega)];have f2:((marks be fr).length==aiD be)=aiL:=by rw [mK];simp
   simp only [f2,kw,aq,az,yG]
   by_cases hx:aiN∈marks be fr
   · simp [hx]
   simp [hx])
 have h0:marks be (fr.take 0)=be:=rfl;rw [show ((0:Nat):Int)=0 from rfl,h0] at key
 by_cases bad: ∃k,k<aiD fr/\(fr[k]!<0\/((aiD ay):Int)<=fr[k]!\/(marks be (fr.take k))[(fr[k]!).toNat]! =aiL)
 · rw [key.1 bad,ls]
   intro ok;obtain ⟨k,hk,hb⟩:=bad;have hr:=ok.fr fr[k]! (aL hk);dsimp only at hr;rcases hb with hb|hb|hb
   · omega
   · omega
   rw [nY _ _ _ (fun x hx=>(ok.fr x (UV hx)).1) (by omega)] at hb
   have hi:((fr[k]!).toNat:Int)=fr[k]!:=by omega
   rw [hi,Bool.or_eq_true] at hb;rcases hb with hb|hb
   · have:=(ok.uf (fr[k]!).toNat (by show _<aiD ay;omega)).1 hb
     rw [hi] at this;exact this (aL hk)
   have hm:fr[k]!∈fr.take k:=by simpa using hb
   obtain ⟨j,h1,h2,h3⟩:=cH.1 hm;exact bq.1 ok.fd j k h1 hk h3
 have Nt: ∀k,k<aiD fr->0<=fr[k]!/\fr[k]!<aiD ay/\(marks be (fr.take k))[(fr[k]!).toNat]! =aiN:=by
  intro k hk;refine ⟨?_,?_,?_⟩
  · exact Int.not_lt.1 fun h=>bad ⟨k,hk,.inl h⟩
  · exact Int.not_le.1 fun h=>bad ⟨k,hk,.inr (.inl h)⟩
  exact ack _▸fun h=>bad ⟨k,hk,.inr (.inr h)⟩
 rw [key.2 fun k hk hb=>bad ⟨k,hk,hb⟩];have rng: ∀x∈fr,0<=x/\x<((aiD ay):Int):=by intro x hx;obtain ⟨k,hk,rfl⟩:=aO.1 hx;exact ⟨(Nt k hk).1,(Nt k hk).2.1⟩
 have g2: ∀k,k<aiD fr->be[(fr[k]!).toNat]! =aiN/\fr[k]!∉fr.take k:=by intro k hk;obtain ⟨c1,c2,c3⟩:=Nt k hk;rw [nY _ _ _ (fun x hx=>(rng x (UV hx)).1) (by omega),show ((fr[k]!).toNat:Int)=fr[k]! by omega,acB] at c3;exact ⟨c3.1,by simpa using c3.2⟩
 have nd:fr.Nodup:=bq.2 fun i j nJ hj he=>(g2 j hj).2 (cH.2 ⟨i,nJ,by omega,he⟩)
 by_cases hx:aiN∈marks be fr
 · rw [lm hx,ls]
   intro ok;obtain ⟨i,hi,he⟩:=aO.1 hx;rw [mK] at hi;rw [nY _ _ _ (fun x hx=>(rng x hx).1) hi,acB] at he;have h3:(i:Int)∉fr:=by simpa using he.2
   have:=(ok.uf i (by show _<aiD ay;omega)).2 h3;rw [show be[i]! =aiN from he.1] at this;cases this
 rw [ls hx]
 by_cases hu: ∀i,i<aiD ay->0<=ay[i]!/\ay[i]!<=1000000/\(be[i]! =aiL->1<=ay[i]!)
 · rw [lm hu,lm]
   refine ⟨by show 1<=aiD ay;omega,by show (aiD ay)<=200;omega,a3,rng,nd,fun i hi=>?_,hu⟩;dsimp only at hi ⊢;constructor
   · intro h1 h2
     obtain ⟨k,hk,he⟩:=aO.1 h2;have:=(g2 k hk).1;rw [he,show ((i:Int)).toNat=i by omega,h1] at this;cases this
   intro h1
   refine EQ fun h2=>hx ?_
   refine aO.2 ⟨i,by rw [mK];omega,?_⟩;rw [nY _ _ _ (fun x hx=>(rng x hx).1) (by omega)];have:be[i]! =aiN:=by simpa using h2
   rw [this];simpa using h1
 rw [ls hu,ls]
 intro ok;exact hu ok.us
theorem eX.fl {s:aQ} (ok:eX s):(aiD s.bi)<=(aiD s.ay):=by
 have h:=Nr (aiD s.ay) (s.bi.map aig) (by
  rw [bq];intro i j nJ hj he;rw [abM] at hj;have e: ∀k,k<aiD s.bi->(s.bi.map aig)[k]! =(s.bi[k]!).toNat:=by intro k hk;rw [getElem!_pos _ k (by simpa using hk),List.getElem_map,getElem!_pos s.bi k hk]
  rw [e i (by omega),e j hj] at he;have h1:=(ok.fr _ (aL (show i<(aiD s.bi) by omega))).1;have h2:=(ok.fr _ (aL hj)).1;exact bq.1 ok.fd i j nJ hj (by omega)) (by
  intro x hx;obtain ⟨y,hy,rfl⟩:=PP.1 hx;have:=ok.fr y hy;omega)
 rwa [abM] at h
def uw (s:aQ) (h:Int×Int):Prop:=0<=h.1/\h.1<aiD s.ay/\s.be[h.1.toNat]! =aiL/\s.ay[h.1.toNat]! =h.2
def fE (s:aQ) (h:Int×Int):aQ:=⟨s.ay,s.be.set h.1.toNat aiN,s.bi++[h.1]⟩
def cW (s:aQ):Nat:=(s.bi[aiD s.bi-1]!).toNat
def vP (s:aQ):Prop:=0<aiD s.bi/\s.ay[cW s]!<1000000
def gD (s:aQ):aQ:=⟨s.ay.set (cW s) (s.ay[cW s]!+1),s.be.set (cW s) aiL,s.bi.take (aiD s.bi-1)⟩
def k8 (s:aQ):Int×Int:=((cW s:Int),s.ay[cW s]!+1)
theorem DB {s:aQ} (ok:eX s) (h:Int×Int):yC s h=aiH (aiP (uw s h),0):=by
 have hl:=ok.fl;have hn:=ok.n2;have hu:=ok.ul;unfold yC uw;rw [uZ s (by omega),lm ok];simp only [aq,show ((0:Int) !=0)=aiN from rfl,lc,az]
 by_cases a1:0<=h.1
 · by_cases a2:h.1<aiD s.ay
   · have e2:aiP (h.1<((aiD s.be):Int))=aiL:=by simp;omega
     simp only [a1,a2,e2,decide_true,kw,dO (l:=s.be) a1 (by omega),dO (l:=s.ay) a1 a2,aq,true_and];generalize s.ay[h.1.toNat]! =u;cases s.be[h.1.toNat]!<;>simp [O6]
   have e2:aiP (h.1<((aiD s.be):Int))=aiN:=by simp;omega
   simp [a1,a2,e2]
 simp [a1]
theorem Jf {s:aQ} (ok:eX s) {h:Int×Int} (lv:uw s h):zo s h=aiH (fE s h,0):=by
 have hl:=ok.fl;have hn:=ok.n2;have hu:=ok.ul;unfold zo;rw [DB ok,decide_eq_true lv];unfold rA;obtain ⟨l1,l2,l3,l4⟩:=lv;have e1:bz s.be h.1 aiN=s.be.set h.1.toNat aiN:=rfl;simp only [aq,show ((0:Int) !=0)=aiN from rfl,lc,Do,bc (show (aiD s.ay)<=1048576 by omega),bc (show (aiD s.be)<=1048576 by omega),bc (show (aiD s.bi)<=1048576 by omega),
  cR (show (aiD s.bi)+[h.1].length<=1048576 by simp;omega),dO (l:=s.be) l1 (by omega),e1,fE]
theorem u4 {s:aQ} (ok:eX s):ny s=aiH s:=by have hl:=ok.fl;have hn:=ok.n2;have hu:=ok.ul;unfold ny;simp only [aq,bc (show (aiD s.ay)<=1048576 by omega),bc (show (aiD s.be)<=1048576 by omega),bc (show (aiD s.bi)<=1048576 by omega)]
theorem FZ {s:aQ} (ok:eX s) {h:Int×Int} (lv:uw s h):nR s h=aiH (fE s h):=by have hl:=ok.fl;have hn:=ok.n2;have hu:=ok.ul;obtain ⟨l1,l2,l3,l4⟩:=lv;unfold nR;rw [u4 ok];have e1:bz s.be h.1 aiN=s.be.set h.1.toNat aiN:=rfl;simp only [aq,cR (show (aiD s.bi)+[h.1].length<=1048576 by simp;omega),dO (l:=s.be) l1 (by omega),e1,fE]
theorem TQ {s:aQ} (ok:eX s) {h:Int×Int} (lv:uw s h):eX (fE s h):=by
 have hl:=ok.fl;have hn:=ok.n2;have hu:=ok.ul;obtain ⟨l1,l2,l3,l4⟩:=lv;have nf:h.1∉s.bi:=by
  have:=(ok.uf h.1.toNat (by omega)).1 l3
  rwa [show (h.1.toNat:Int)=h.1 by omega] at this
 refine ⟨ok.n1,ok.n2,?_,?_,?_,?_,?_⟩
 · show (s.be.set _ _).length=_;rw [lw];exact hu
 · intro x hx
   rcases acl.1 hx with hx|hx
   · exact ok.fr x hx
   rw [abU] at hx;subst hx;exact ⟨l1,l2⟩
 · show (s.bi++[h.1]).Nodup
   rw [List.nodup_append];refine ⟨ok.fd,by simp,?_⟩;intro x hx y hy he;rw [abU] at hy;subst hy;subst he;exact nf hx
 · intro i hi
   change i<(aiD s.ay) at hi;show (s.be.set h.1.toNat aiN)[i]! =aiL↔(i:Int)∉s.bi++[h.1];rw [bn,acl,abU]
   by_cases e:i=h.1.toNat
   · rw [lm ⟨e,by omega⟩]
     have:(i:Int)=h.1:=by omega
     simp [this]
   rw [ls (fun k=>e k.1),ok.uf i hi]
   have: ¬(i:Int)=h.1:=by omega
   simp [this]
 intro i hi
 change i<(aiD s.ay) at hi;obtain ⟨u1,u2,u3⟩:=ok.us i hi;refine ⟨u1,u2,?_⟩;show (s.be.set h.1.toNat aiN)[i]! =aiL->_;rw [bn];split
 · intro h;cases h
 exact u3
theorem xd {s:aQ} (ok:eX s) (h:0<aiD s.bi):cW s<aiD s.ay/\(cW s:Int)=s.bi[aiD s.bi-1]!/\(cW s:Int)∈s.bi:=by
 have hm:=aL (l:=s.bi) (i:=aiD s.bi-1) (by omega);have:=ok.fr _ hm;have e:(cW s:Int)=s.bi[aiD s.bi-1]!:=by unfold cW;omega
 refine ⟨by omega,e,by rw [e];exact hm⟩
theorem lH {α:Type} (l:List α) (n:Nat) (h:n<=aiD l):hU l 0 (n:Int)=aiH (l.take n):=by unfold hU;rw [lm ⟨by omega,by omega,by omega⟩];simp
theorem BK {s:aQ} (ok:eX s):zp s=aiH (if vP s then (gD s,k8 s,0) else (⟨[],[],[]⟩,(0,0),18)):=by
 have hl:=ok.fl;have hn:=ok.n2;have hu:=ok.ul;unfold zp vP;rw [uZ s (by omega),lm ok];simp only [aq,show ((0:Int) !=0)=aiN from rfl,lc,az]
 by_cases a1:0<aiD s.bi
 · obtain ⟨n1,n2,n3⟩:=xd ok a1
   have e1:(((aiD s.bi):Int)==0)=aiN:=dM (by omega);have e2:ae .i64 (((aiD s.bi):Int) -1)=((aiD s.bi-1:Nat):Int):=sC (by omega) (by omega);unfold s9;simp only [e1,lc,az,e2,lH s.bi (aiD s.bi-1) (by omega),aq,bc (show (s.bi.take (aiD s.bi-1)).length<=1048576 by rw [aa4];omega),
    ar s.bi (aiD s.bi-1) (by omega),<- n2,ar s.ay (cW s) n1]
   obtain ⟨u1,u2,u3⟩:=ok.us (cW s) n1
   by_cases a2:s.ay[cW s]! =1000000
   · have e3:(s.ay[cW s]! ==1000000)=aiL:=by simpa using a2
     rw [e3,ls (by omega)];rfl
   have e3:(s.ay[cW s]! ==1000000)=aiN:=by simpa using a2
   have e4:ae .i64 (s.ay[cW s]!+1)=s.ay[cW s]!+1:=by rw [wi];omega
   rw [e3,lm (by omega)];simp only [lc,bc (show (aiD s.ay)<=1048576 by omega),bc (show (aiD s.be)<=1048576 by omega),aq,ar s.be (cW s) (by omega),ar s.ay (cW s) n1,e4,de,
    ar (s.ay.set (cW s) (s.ay[cW s]!+1)) (cW s) (by rw [lw];exact n1),bn,n1,and_self,if_true,gD,k8]
 have e1:(((aiD s.bi):Int)==0)=aiL:=cV (by omega)
 rw [e1,ls (fun h=>a1 h.1)];rfl
theorem qn {s:aQ} (ok:eX s):gC s=aiH (aiP (vP s)):=by
 have hl:=ok.fl;have hn:=ok.n2;have hu:=ok.ul;unfold gC vP;simp only [az]
 by_cases a1:0<aiD s.bi
 · obtain ⟨n1,n2,n3⟩:=xd ok a1
   have e1:aiP ((0:Int)<((aiD s.bi):Int))=aiL:=by simp;omega
   have e2:ae .i64 (((aiD s.bi):Int) -1)=((aiD s.bi-1:Nat):Int):=sC (by omega) (by omega);simp only [e1,e2,kw,ar s.bi (aiD s.bi-1) (by omega),aq,<- n2,ar s.ay (cW s) n1,a1,true_and]
 have e1:aiP ((0:Int)<((aiD s.bi):Int))=aiN:=decide_eq_false (by omega)
 rw [e1];simp [a1]
theorem F3 {s:aQ} (ok:eX s) (h:vP s):ud s=aiH (gD s,k8 s):=by
 have hl:=ok.fl;have hn:=ok.n2;have hu:=ok.ul;obtain ⟨a1,a2⟩:=h;obtain ⟨n1,n2,n3⟩:=xd ok a1;obtain ⟨u1,u2,u3⟩:=ok.us (cW s) n1;unfold ud;rw [u4 ok];have e2:ae .i64 (((aiD s.bi):Int) -1)=((aiD s.bi-1:Nat):Int):=sC (by omega) (by omega);have e4:ae .i64 (s.ay[cW s]!+1)=s.ay[cW s]!+1:=by rw [wi];omega
 simp only [aq,az,e2,ar s.bi (aiD s.bi-1) (by omega),lH s.bi (aiD s.bi-1) (by omega),<- n2,ar s.ay (cW s) n1,ar s.be (cW s) (by omega),e4,de,
  ar (s.ay.set (cW s) (s.ay[cW s]!+1)) (cW s) (by rw [lw];exact n1),bn,n1,and_self,if_true,gD,k8,Int.toNat_natCast]
theorem TR {s:aQ} (ok:eX s) (h:vP s):eX (gD s):=by
 have hl:=ok.fl;have hn:=ok.n2;have hu:=ok.ul;obtain ⟨a1,a2⟩:=h;obtain ⟨n1,n2,n3⟩:=xd ok a1;have mt: ∀x:Int,x∈s.bi.take (aiD s.bi-1)↔(x∈s.bi/\x≠(cW s:Int)):=by
  intro x;rw [cH];constructor
  · rintro ⟨i,h1,h2,rfl⟩
    refine ⟨aL h2,?_⟩;rw [n2];exact bq.1 ok.fd i (aiD s.bi-1) h1 (by omega)
  rintro ⟨h1,h2⟩
  obtain ⟨i,hi,rfl⟩:=aO.1 h1;refine ⟨i,?_,hi,rfl⟩;refine EQ fun hc=>h2 ?_
  rw [n2,show i=aiD s.bi-1 by omega]
 refine ⟨?_,?_,?_,?_,?_,?_,?_⟩
 · show 1<=(s.ay.set _ _).length;rw [lw];exact ok.n1
 · show (s.ay.set _ _).length<=200;rw [lw];exact ok.n2
 · show (s.be.set _ _).length=(s.ay.set _ _).length;rw [lw,lw];exact hu
 · intro x hx
   show 0<=x/\x<((s.ay.set _ _).length:Int);rw [lw];exact ok.fr x ((mt x).1 hx).1
 · exact ok.fd.sublist (List.take_sublist _ _)
 · intro i hi
   change i<(s.ay.set _ _).length at hi;rw [lw] at hi;show (s.be.set (cW s) aiL)[i]! =aiL↔(i:Int)∉s.bi.take (aiD s.bi-1);rw [bn,mt]
   by_cases e:i=cW s
   · rw [lm ⟨e,by omega⟩]
     simp [e]
   rw [ls (fun k=>e k.1),ok.uf i hi]
   have:(i:Int)≠(cW s:Int):=by omega
   simp [this]
 intro i hi
 change i<(s.ay.set _ _).length at hi;rw [lw] at hi;obtain ⟨u1,u2,u3⟩:=ok.us i hi;show 0<=(s.ay.set (cW s) (s.ay[cW s]!+1))[i]!/\(s.ay.set (cW s) (s.ay[cW s]!+1))[i]!<=1000000/\((s.be.set (cW s) aiL)[i]! =aiL->1<=(s.ay.set (cW s) (s.ay[cW s]!+1))[i]!);rw [bn,bn]
 by_cases e:i=cW s
 · subst e
   rw [lm ⟨rfl,n1⟩];refine ⟨by omega,by omega,fun _=>by omega⟩
 rw [ls (fun k=>e k.1),ls (fun k=>e k.1)]
 exact ⟨u1,u2,u3⟩
abbrev Ev:=Int×Int×Int×Int×Int
abbrev Ev.at (x:Ev):Int×Int:=(x.1,x.2.1)
abbrev Ev.num (x:Ev):Int:=x.2.2.1
abbrev Ev.ix (x:Ev):Int:=x.2.2.2.1
abbrev Ev.n (x:Ev):Nat:=x.2.2.2.1.toNat
theorem amN {x:Ev} {k:Nat} (h:x.ix<(k:Int)) (h0:0<=x.ix):x.n<k:=by show x.ix.toNat<k;omega
theorem amO {x y:Ev} (h0:0<=x.ix) (h1:0<=y.ix) (h:x.ix≠y.ix):x.n≠y.n:=by
 show x.ix.toNat≠y.ix.toNat
 omega
def less (x y:Ev):Prop:=iB (x.1,x.2.1) (y.1,y.2.1)<0\/(iB (x.1,x.2.1) (y.1,y.2.1)=0/\x.2.2.1<y.2.2.1)
theorem sD {a b:Int×Int}:iB a b<0↔a.1*b.2<b.1*a.2:=by unfold iB;rcases dR (a.1*b.2) (b.1*a.2) with ⟨h,e⟩|⟨h,e⟩|⟨h,e⟩<;>rw [e]<;>constructor<;>intro<;>omega
theorem O7 {a b:Int×Int}:iB a b=0↔a.1*b.2=b.1*a.2:=by unfold iB;rcases dR (a.1*b.2) (b.1*a.2) with ⟨h,e⟩|⟨h,e⟩|⟨h,e⟩<;>rw [e]<;>constructor<;>intro<;>omega
theorem nB {x y:Ev} (h:less x y): ¬less y x:=by unfold less at*;rw [sD,O7] at*;dsimp only at*;rintro (k|k)<;>rcases h with h|h<;>omega
theorem F4 {a1 a2 b1 b2 c1 c2:Int} (ha:1<=a2) (hb:1<=b2) (hc:1<=c2) (h1:a1*b2<=b1*a2) (h2:b1*c2<=c1*b2):a1*c2<=c1*a2:=by
 have e1:a1*b2*c2<=b1*a2*c2:=If h1 (by omega);have e2:b1*c2*a2<=c1*b2*a2:=If h2 (by omega);have e3:(a1*c2)*b2<=(c1*a2)*b2:=by
  have r1:(a1*c2)*b2=a1*b2*c2:=by grind
  have r2:b1*a2*c2=b1*c2*a2:=by grind
  have r3:c1*b2*a2=(c1*a2)*b2:=by grind
  omega
 exact Int.le_of_mul_le_mul_right e3 (by omega)
theorem z0 {a1 a2 b1 b2 c1 c2:Int} (ha:1<=a2) (hb:1<=b2) (hc:1<=c2) (h1:a1*b2<b1*a2) (h2:b1*c2<=c1*b2):a1*c2<c1*a2:=by
 have e1:a1*b2*c2<b1*a2*c2:=abQ h1 (by omega);have e2:b1*c2*a2<=c1*b2*a2:=If h2 (by omega);have e3:(a1*c2)*b2<(c1*a2)*b2:=by
  have r1:(a1*c2)*b2=a1*b2*c2:=by grind
  have r2:b1*a2*c2=b1*c2*a2:=by grind
  have r3:c1*b2*a2=(c1*a2)*b2:=by grind
  omega
 exact abV e3 (by omega)
theorem F5 {a1 a2 b1 b2 c1 c2:Int} (ha:1<=a2) (hb:1<=b2) (hc:1<=c2) (h1:a1*b2<=b1*a2) (h2:b1*c2<c1*b2):a1*c2<c1*a2:=by
 have e1:a1*b2*c2<=b1*a2*c2:=If h1 (by omega);have e2:b1*c2*a2<c1*b2*a2:=abQ h2 (by omega);have e3:(a1*c2)*b2<(c1*a2)*b2:=by
  have r1:(a1*c2)*b2=a1*b2*c2:=by grind
  have r2:b1*a2*c2=b1*c2*a2:=by grind
  have r3:c1*b2*a2=(c1*a2)*b2:=by grind
  omega
 exact abV e3 (by omega)
theorem vQ {x y z:Ev} (hx:1<=x.2.1) (hy:1<=y.2.1) (hz:1<=z.2.1) (h1: ¬less y x) (h2: ¬less z y): ¬less z x:=by
 unfold less at*;rw [sD,O7] at*;dsimp only at*;have t1:= @F4 x.1 x.2.1 y.1 y.2.1 z.1 z.2.1 hx hy hz;have t2:= @z0 x.1 x.2.1 y.1 y.2.1 z.1 z.2.1 hx hy hz;have t3:= @F5 x.1 x.2.1 y.1 y.2.1 z.1 z.2.1 hx hy hz;generalize x.1*y.2.1=p at*;generalize y.1*x.2.1=q at*;generalize y.1*z.2.1=r at*;generalize z.1*y.2.1=s at*;generalize x.1*z.2.1=u at*;generalize z.1*x.2.1=v at*;have a1:p<=q:=by omega
 have a2:r<=s:=by omega
 have a3:=t1 a1 a2;rintro (k|k)
 · omega
 by_cases b1:p<q
 · have:=t2 b1 a2;omega
 by_cases b2:r<s
 · have:=t3 a1 b2;omega
 omega
structure AN (n:Nat) (x:Ev) (M:Ev->Prop) (H:List Ev) (W:List Int) (i:Nat):Prop where
 lt:i<n
 hn:n<=aiD H
 ix: ∀w,w<n->w≠i->0<=(H[w]!).ix/\(H[w]!).ix<aiD W/\W[(H[w]!).n]! =(w:Int)/\(H[w]!).ix≠x.ix
 x0:0<=x.ix
 x1:x.ix<aiD W
 mem: ∀e,(∃w,w<n/\w≠i/\H[w]! =e)↔M e
theorem AN.move {n:Nat} {x:Ev} {M:Ev->Prop} {H:List Ev} {W:List Int} {i j:Nat} (h:AN n x M H W i) (hj:j<n) (nJ:j≠i):AN n x M (H.set i H[j]!) (W.set (H[j]!).n (i:Int)) j:=by
 have hn:=h.hn;have hi:=h.lt;obtain ⟨j1,j2,j3,j4⟩:=h.ix j hj nJ;have cell: ∀w,(H.set i H[j]!)[w]! =if w=i then H[j]! else H[w]!:=by
  intro w;rw [bn]
  by_cases e:w=i
  · rw [lm ⟨e,by omega⟩,lm e]
  rw [ls (fun k=>e k.1),ls e]
 refine ⟨hj,by rw [lw];exact hn,?_,h.x0,by rw [lw];exact h.x1,?_⟩
 · intro w hw hwj
   rw [cell,lw]
   by_cases e:w=i
   · rw [lm e,bn,lm ⟨rfl,amN j2 j1⟩]
     exact ⟨j1,j2,by rw [e],j4⟩
   rw [ls e,bn]
   obtain ⟨k1,k2,k3,k4⟩:=h.ix w hw e;refine ⟨k1,k2,?_,k4⟩;rw [ls,k3];rintro ⟨c,_⟩;rw [c,j3] at k3;omega
 intro e
 rw [<- h.mem e];constructor
 · rintro ⟨w,hw,hwj,he⟩
   rw [cell] at he
   by_cases c:w=i
   · rw [lm c] at he;exact ⟨j,hj,nJ,he⟩
   rw [ls c] at he;exact ⟨w,hw,c,he⟩
 rintro ⟨w,hw,Jg,he⟩
 by_cases c:w=j
 · refine ⟨i,hi,fun h=>nJ h.symm,?_⟩
   rw [cell,lm rfl,<- c];exact he
 exact ⟨w,hw,c,by rw [cell,ls Jg];exact he⟩
theorem AN.fill {n:Nat} {x:Ev} {M:Ev->Prop} {H:List Ev} {W:List Int} {i:Nat} (h:AN n x M H W i):
 (∀w,w<n->0<=((H.set i x)[w]!).ix/\((H.set i x)[w]!).ix<aiD W/\(W.set x.n (i:Int))[((H.set i x)[w]!).n]! =(w:Int))/\
  (∀e,(∃w,w<n/\(H.set i x)[w]! =e)↔(e=x\/M e)):=by
 have hn:=h.hn;have hi:=h.lt;have x0:=h.x0;have x1:=h.x1;have cell: ∀w,(H.set i x)[w]! =if w=i then x else H[w]!:=by
  intro w;rw [bn]
  by_cases e:w=i
  · rw [lm ⟨e,by omega⟩,lm e]
  rw [ls (fun k=>e k.1),ls e]
 constructor
 · intro w hw
   rw [cell]
   by_cases e:w=i
   · rw [lm e,bn,lm ⟨rfl,amN x1 x0⟩]
     exact ⟨x0,x1,by rw [e]⟩
   rw [ls e,bn]
   obtain ⟨k1,k2,k3,k4⟩:=h.ix w hw e;exact ⟨k1,k2,by rw [ls (fun c=>amO k1 x0 k4 c.1),k3]⟩
 intro e
 rw [<- h.mem e];constructor
 · rintro ⟨w,hw,he⟩
   rw [cell] at he
   by_cases c:w=i
   · rw [lm c] at he;exact .inl he.symm
   rw [ls c] at he;exact .inr ⟨w,hw,c,he⟩
 rintro (he|⟨w,hw,Jg,he⟩)
 · exact ⟨i,hi,by rw [cell,lm rfl,he]⟩
 exact ⟨w,hw,by rw [cell,ls Jg];exact he⟩
noncomputable def jc (x:Ev):Nat->List Ev->List Int->Nat×List Ev×List Int
 |0,H,W=>(0,H,W)
 |i+1,H,W=>if less x H[i / 2]! then jc x (i / 2) (H.set (i+1) H[i / 2]!) (W.set (H[i / 2]!).n ((i+1:Nat):Int)) else (i+1,H,W)
termination_by i=>i
decreasing_by omega
noncomputable def ic (n:Nat) (H:List Ev) (i:Nat):Nat:=if 2*i+2<n/\less H[2*i+2]! H[2*i+1]! then 2*i+2 else 2*i+1
theorem nZ (n:Nat) (H:List Ev) (i:Nat):ic n H i=2*i+1\/(ic n H i=2*i+2/\2*i+2<n):=by
 unfold ic;split
 · rename_i h;exact .inr ⟨rfl,h.1⟩
 exact .inl rfl
noncomputable def dV (n:Nat) (x:Ev) (i:Nat) (H:List Ev) (W:List Int):Nat×List Ev×List Int:=
 if _h:2*i+1<n then
  if less H[ic n H i]! x then dV n x (ic n H i) (H.set i H[ic n H i]!) (W.set (H[ic n H i]!).n (i:Int)) else (i,H,W)
 else (i,H,W)
termination_by n-i
decreasing_by
 rcases nZ n H i with h|h<;>omega
structure Ord (n:Nat) (H:List Ev) (i:Nat):Prop where
 den: ∀w,w<n->1<=(H[w]!).2.1
 ord: ∀k,0<k->k<n->k≠i->(k-1) / 2≠i-> ¬less H[k]! H[(k-1) / 2]!
 Lf:0<i-> ∀k,0<k->k<n->(k-1) / 2=i-> ¬less H[k]! H[(i-1) / 2]!
theorem D8 {n : Nat} {x : Ev} {M : Ev -> Prop} (dx : 1 <= x.2.1) : ∀ (i : Nat) (H : List Ev) (W : List Int), AN n x M H W i -> Ord n H i ->
    ∃ j H1 W1, jc x i H W = (j, H1, W1) /\ AN n x M H1 W1 j /\ Ord n H1 j /\ (aiD H1) = (aiD H) /\ (aiD W1) = (aiD W) /\ (0 < j -> ¬ less x H1[(j - 1) / 2]!) /\
      (∀ k, n <= k -> H1[k]! = H[k]!) /\ (∀ k, (∀ w, w < n -> w ≠ i -> (H[w]!).n ≠ k) -> W1[k]! = W[k]!) /\
      ((∀ k, 0 < k -> k < n -> (k - 1) / 2 = i -> ¬ less H[k]! x) -> ∀ k, 0 < k -> k < n -> (k - 1) / 2 = j -> ¬ less H1[k]! x)
  | 0, H, W, h, o => ⟨0, H, W, by rw [jc], h, o, rfl, rfl, fun h => by omega, fun _ _ => rfl, fun _ _ => rfl, fun h => h⟩
  | i + 1, H, W, h, o => by
    rw [jc]
    by_cases hl : less x H[i / 2]!
    · rw [lm hl]
      have hi := h.lt
      have hn := h.hn
      have hp : i / 2 < n := by omega
      have dK : i / 2 ≠ i + 1 := by omega
      have hm := h.move hp dK
      have cell : ∀ w, (H.set (i + 1) H[i / 2]!)[w]! = if w = i + 1 then H[i / 2]! else H[w]! := by
        intro w
        rw [bn]
        by_cases e : w = i + 1
        · rw [lm ⟨e, by omega⟩, lm e]
        rw [ls (fun k => e k.1), ls e]
      have o' : Ord n (H.set (i + 1) H[i / 2]!) (i / 2) := by
        refine ⟨?_, ?_, ?_⟩
        · intro w hw
          rw [cell]
          split
          · exact o.den _ hp
          exact o.den _ hw
        · intro k k0 kn k1 k2
          rw [cell, cell]
          by_cases e : k = i + 1
          · subst e; exact absurd (by omega) k2
          rw [ls e]
          by_cases e2 : (k - 1) / 2 = i + 1
          · rw [lm e2]
            have := o.Lf (by omega) k k0 kn e2
            rwa [show (i + 1 - 1) / 2 = i / 2 by omega] at this
          rw [ls e2]
          exact o.ord k k0 kn e e2
        intro p0 k k0 kn k1
        rw [cell, cell, ls (show (i / 2 - 1) / 2 ≠ i + 1 by omega)]
        have up1 : ¬ less H[i / 2]! H[(i / 2 - 1) / 2]! := o.ord (i / 2) p0 hp dK (by omega)
        by_cases e : k = i + 1
        · rw [lm e]; exact up1
        rw [ls e]
        have up2 : ¬ less H[k]! H[i / 2]! := by
          have := o.ord k k0 kn e (by omega)
          rwa [k1] at this
        exact vQ (o.den _ (by omega)) (o.den _ hp) (o.den _ kn) up1 up2
      obtain ⟨j, H1, W1, e1, e3, e4, e5, e6, e7, e8, e9, e10⟩ := D8 dx (i / 2) _ _ hm o'
      rw [lw] at e5 e6
      refine ⟨j, H1, W1, e1, e3, e4, e5, e6, e7, ?_, ?_, ?_⟩
      · intro k hk
        rw [e8 k hk, cell, ls (by omega)]
      · intro k hk
        rw [e9 k ?_, bn, ls (fun c => hk (i / 2) hp dK c.1.symm)]
        intro w hw IY
        rw [cell]
        split
        · exact hk (i / 2) hp dK
        rename_i e; exact hk w hw e
      intro _
      refine e10 fun k k0 kn k1 => ?_
      rw [cell]
      by_cases e : k = i + 1
      · rw [lm e]; exact nB hl
      rw [ls e]
      have up2 : ¬ less H[k]! H[i / 2]! := by
        have := o.ord k k0 kn e (by omega)
        rwa [k1] at this
      exact vQ dx (o.den _ hp) (o.den _ kn) (nB hl) up2
    rw [ls hl]
    refine ⟨i + 1, H, W, rfl, h, o, rfl, rfl, fun _ => ?_, fun _ _ => rfl, fun _ _ => rfl, fun h => h⟩
    rwa [show (i + 1 - 1) / 2 = i / 2 by omega]
termination_by i=>i
decreasing_by omega
theorem QM {n:Nat} {x:Ev} {i:Nat} {H:List Ev} {W:List Int} (h: ∀k,0<k->k<n->(k-1) / 2=i-> ¬less H[k]! x):dV n x i H W=(i,H,W):=by
 rw [dV];split
 · rename_i hk
   rw [ls];rcases nZ n H i with e|⟨e,e2⟩
   · rw [e];exact h _ (by omega) hk (by omega)
   rw [e];exact h _ (by omega) e2 (by omega)
 rfl
theorem HN {n : Nat} {x : Ev} {M : Ev -> Prop} (dx : 1 <= x.2.1) : ∀ (d i : Nat) (H : List Ev) (W : List Int), n - i <= d -> AN n x M H W i -> Ord n H i -> (0 < i -> ¬ less x H[(i - 1) / 2]!) ->
    ∃ j H1 W1, dV n x i H W = (j, H1, W1) /\ AN n x M H1 W1 j /\ Ord n H1 j /\ (aiD H1) = (aiD H) /\ (aiD W1) = (aiD W) /\ (0 < j -> ¬ less x H1[(j - 1) / 2]!) /\
      (∀ k, n <= k -> H1[k]! = H[k]!) /\ (∀ k, (∀ w, w < n -> w ≠ i -> (H[w]!).n ≠ k) -> W1[k]! = W[k]!) /\ (∀ k, 0 < k -> k < n -> (k - 1) / 2 = j -> ¬ less H1[k]! x)
  | 0, i, H, W, hd, h, o, u => by have := h.lt; omega
  | d + 1, i, H, W, hd, h, o, u => by
    have hi := h.lt
    have hn := h.hn
    rw [dV]
    by_cases hk : 2 * i + 1 < n
    · rw [dif_pos hk]
      have kc := nZ n H i
      have kn : ic n H i < n := by omega
      have kne : ic n H i ≠ i := by omega
      have kp : (ic n H i - 1) / 2 = i := by omega
      have kb : ∀ k, 0 < k -> k < n -> (k - 1) / 2 = i -> ¬ less H[k]! H[ic n H i]! := by
        intro k k0 k1 k2
        have kk : k = 2 * i + 1 \/ k = 2 * i + 2 := by omega
        unfold ic
        split
        · rename_i hc
          rcases kk with e | e
          · rw [e]; exact nB hc.2
          rw [e]; exact fun h => nB h h
        rename_i hc
        rcases kk with e | e
        · rw [e]; exact fun h => nB h h
        rw [e] at k1 ⊢; exact fun h => hc ⟨k1, h⟩
      by_cases hl : less H[ic n H i]! x
      · rw [lm hl]
        have hm := h.move kn kne
        have cell : ∀ w, (H.set i H[ic n H i]!)[w]! = if w = i then H[ic n H i]! else H[w]! := by
          intro w
          rw [bn]
          by_cases e : w = i
          · rw [lm ⟨e, by omega⟩, lm e]
          rw [ls (fun k => e k.1), ls e]
        have o' : Ord n (H.set i H[ic n H i]!) (ic n H i) := by
          refine ⟨?_, ?_, ?_⟩
          · intro w hw
            rw [cell]
            split
            · exact o.den _ kn
            exact o.den _ hw
          · intro k k0 k1 k2 k3
            rw [cell, cell]
            by_cases e : k = i
            · rw [lm e, ls (by omega)]
              have := o.Lf (by omega) (ic n H i) (by omega) kn kp
              rwa [e]
            rw [ls e]
            by_cases e2 : (k - 1) / 2 = i
            · rw [lm e2]; exact kb k k0 k1 e2
            rw [ls e2]; exact o.ord k k0 k1 e e2
          intro _ k k0 k1 k2
          rw [cell, cell, lm kp, ls (by omega)]
          have := o.ord k k0 k1 (by omega) (by omega)
          rwa [k2] at this
        obtain ⟨j, H1, W1, e1, e3, e4, e5, e6, e7, e8, e9, e10⟩ := HN dx d (ic n H i) _ _ (by omega) hm o' (by
          intro _
          rw [cell, lm kp]
          exact nB hl)
        rw [lw] at e5 e6
        refine ⟨j, H1, W1, e1, e3, e4, e5, e6, e7, ?_, ?_, e10⟩
        · intro k hk
          rw [e8 k hk, cell, ls (by omega)]
        intro k hk
        rw [e9 k ?_, bn, ls (fun c => hk (ic n H i) kn kne c.1.symm)]
        intro w hw IY
        rw [cell]
        split
        · exact hk (ic n H i) kn kne
        rename_i e; exact hk w hw e
      rw [ls hl]
      refine ⟨i, H, W, rfl, h, o, rfl, rfl, u, fun _ _ => rfl, fun _ _ => rfl, ?_⟩
      intro k k0 k1 k2
      exact vQ dx (o.den _ kn) (o.den _ k1) hl (kb k k0 k1 k2)
    rw [dif_neg hk]
    refine ⟨i, H, W, rfl, h, o, rfl, rfl, u, fun _ _ => rfl, fun _ _ => rfl, ?_⟩
    intro k k0 k1 k2
    omega
structure zy (n:Nat) (x:Ev) (M:Ev->Prop) (K:Nat->Prop) (H:List Ev) (W:List Int) (H1:List Ev) (W1:List Int):Prop where
 hl:(aiD H1)=aiD H
 wl:(aiD W1)=aiD W
 ix: ∀w,w<n->0<=(H1[w]!).ix/\(H1[w]!).ix<aiD W/\W1[(H1[w]!).n]! =(w:Int)
 mem: ∀e,(∃w,w<n/\H1[w]! =e)↔(e=x\/M e)
 ord: ∀k,0<k->k<n-> ¬less H1[k]! H1[(k-1) / 2]!
 out: ∀k,K k->W1[k]! =W[k]!
theorem Jh {n:Nat} {x:Ev} {M:Ev->Prop} {H H1:List Ev} {W W1:List Int} {i j:Nat} (h1:AN n x M H1 W1 j) (o1:Ord n H1 j) (hl:(aiD H1)=aiD H) (wl:(aiD W1)=aiD W)
 (u:0<j-> ¬less x H1[(j-1) / 2]!) (kd: ∀k,0<k->k<n->(k-1) / 2=j-> ¬less H1[k]! x) (out: ∀k,(∀w,w<n->w≠i->(H[w]!).n≠k)->W1[k]! =W[k]!):
 zy n x M (fun k=>k≠x.n/\ ∀w,w<n->w≠i->(H[w]!).n≠k) H W (H1.set j x) (W1.set x.n (j:Int)):=by
 have hn:=h1.hn;have hj:=h1.lt;have f:=h1.fill;have cell: ∀w,(H1.set j x)[w]! =if w=j then x else H1[w]!:=by
  intro w;rw [bn]
  by_cases e:w=j
  · rw [lm ⟨e,by omega⟩,lm e]
  rw [ls (fun k=>e k.1),ls e]
 refine ⟨by rw [lw];exact hl,by rw [lw];exact wl,?_,f.2,?_,?_⟩
 · rw [<- wl];exact f.1
 · intro k k0 kn
   rw [cell,cell]
   by_cases e:k=j
   · rw [lm e,ls (by omega),e];exact u (by omega)
   rw [ls e]
   by_cases e2:(k-1) / 2=j
   · rw [lm e2];exact kd k k0 kn e2
   rw [ls e2];exact o1.ord k k0 kn e e2
 rintro k ⟨k1,k2⟩
 rw [bn,ls (fun c=>k1 c.1)];exact out k k2
noncomputable def cB (n:Nat) (x:Ev) (i:Nat) (H:List Ev) (W:List Int):List Ev×List Int:=
 let u:=jc x i H W
 let d:=dV n x u.1 u.2.1 u.2.2
 (d.2.1.set d.1 x,d.2.2.set x.n (d.1:Int))
theorem yH {n:Nat} {x:Ev} {M:Ev->Prop} (dx:1<=x.2.1) {i:Nat} {H:List Ev} {W:List Int} (h:AN n x M H W i) (o:Ord n H i):
 zy n x M (fun k=>k≠x.n/\ ∀w,w<n->w≠i->(H[w]!).n≠k) H W (cB n x i H W).1 (cB n x i H W).2:=by
 obtain ⟨j,H1,W1,e1,e3,e4,e5,e6,e7,e8,e9,e10⟩:=D8 dx i H W h o;obtain ⟨k,H2,W2,f1,f3,f4,f5,f6,f7,f8,f9,f10⟩:=HN dx n j H1 W1 (by omega) e3 e4 e7;have e:cB n x i H W=(H2.set k x,W2.set x.n (k:Int)):=by unfold cB;rw [e1];dsimp only;rw [f1]
 rw [e];refine Jh f3 f4 (by omega) (by omega) f7 f10 ?_;intro c hc;rw [f9 c ?_,e9 c hc];intro w hw hwj hcw;have hm:M H1[w]!:=(e3.mem _).1 ⟨w,hw,hwj,rfl⟩;obtain ⟨v,v1,v2,v3⟩:=(h.mem _).2 hm;exact hc v v1 v2 (by rw [v3];exact hcw)
theorem Lg {n:Nat} {x:Ev} {M:Ev->Prop} (dx:1<=x.2.1) {i:Nat} {H:List Ev} {W:List Int} (h:AN n x M H W i) (o:Ord n H i) (hk: ∀k,0<k->k<n->(k-1) / 2=i-> ¬less H[k]! x):
 cB n x i H W=((jc x i H W).2.1.set (jc x i H W).1 x,(jc x i H W).2.2.set x.n ((jc x i H W).1:Int)):=by
 obtain ⟨j,H1,W1,e1,e3,e4,e5,e6,e7,e8,e9,e10⟩:=D8 dx i H W h o;unfold cB;rw [e1];dsimp only;rw [QM (e10 hk)]
def pO (x:Ev):Prop:=bA (x.1,x.2.1)/\jW (x.1,x.2.1)/\0<=x.2.2.1/\x.2.2.1<=1000000
theorem pO.den {x:Ev} (h:pO x):1<=x.2.1:=h.1.1
noncomputable def F6 (x y:Ev):Int:=if iB (x.1,x.2.1) (y.1,y.2.1)≠0 then iB (x.1,x.2.1) (y.1,y.2.1) else jX x.2.2.1 y.2.2.1
theorem BL (x y:Ev):F6 x y<0↔less x y:=by
 unfold F6 less
 by_cases h:iB (x.1,x.2.1) (y.1,y.2.1)=0
 · rw [ls (by simpa using h),h]
   rcases dR x.2.2.1 y.2.2.1 with ⟨h1,e⟩|⟨h1,e⟩|⟨h1,e⟩<;>rw [e]<;>constructor<;>intro<;>omega
 rw [lm h];constructor<;>intro<;>omega
theorem dH {x y:Ev} (hx:pO x) (hy:pO y):cw x y=aiH (F6 x y):=by unfold cw F6;rw [CR hx.2.1 hy.2.1,lm ⟨hx.1,hy.1⟩];simp only [aq,kH,zw]
theorem ni {x y:Ev} (hx:pO x) (hy:pO y):eH x y=aiH (aiP (less x y)):=by
 unfold eH less;rw [AL hx.2.1 hy.2.1];simp only [aq];generalize iB (x.1,x.2.1) (y.1,y.2.1)=c
 by_cases h1:c<0
 · simp [h1]
 by_cases h2:c=0
 · subst h2;simp
 simp only [h1,dM h2,h2,decide_false,lc,false_or,false_and]
theorem CT {x y:Ev}:aiP (F6 x y<0)=aiP (less x y):=by simp only [BL]
theorem Ji {x y:Ev}:aiP (0<=F6 x y)=!aiP (less x y):=by
 have:=BL x y
 by_cases h:less x y
 · have h2:=this.2 h
   have: ¬0<=F6 x y:=by omega
   simp [h,this]
 have h2: ¬F6 x y<0:=fun k=>h (this.1 k)
 have:0<=F6 x y:=by omega
 simp [h,this]
structure mr (n:Nat) (H:List Ev) (W:List Int):Prop where
 hn:n<=aiD H
 hb:(aiD H)<=1000000
 ev: ∀w,w<n->pO H[w]!/\0<=(H[w]!).ix/\(H[w]!).ix<aiD W
theorem mr.move {n:Nat} {H:List Ev} {W:List Int} (c:mr n H W) {i j:Nat} (_hi:i<n) (hj:j<n) (k:Nat) (v:Int):mr n (H.set i H[j]!) (W.set k v):=by
 have hn:=c.hn;refine ⟨by rw [lw];exact hn,by rw [lw];exact c.hb,?_⟩;intro w hw;rw [bn,lw];split
 · exact c.ev j hj
 exact c.ev w hw
theorem D9 {H:List Ev} {W:List Int} {x:Ev} {u fr:List Int} {us:List Bool} {i:Nat} (hi:i<aiD H) (h0:0<=x.ix) (h1:x.ix<aiD W):
 b7 (u,us,fr,(i:Int),x.1,x.2.1,x.2.2.1,x.2.2.2.1,x.2.2.2.2,H,W)=aiH (H.set i x,W.set x.n (i:Int)):=by
 unfold b7;have e1:=ar H i hi;have e2:=dO (l:=W) h0 h1;simp only [e1,e2,aq,vF,beq_self_eq_true,kw];rfl
theorem D' {n cap:Nat} {H:List Ev} {W:List Int} {x:Ev} {u fr:List Int} {us:List Bool} {i:Nat} (hi:i<n) (hn:n<=aiD H) (h0:0<=x.ix) (h1:x.ix<aiD W):
 bZ (u,us,fr,n,cap,(i:Int),x.1,x.2.1,x.2.2.1,x.2.2.2.1,x.2.2.2.2,H,W)=aiH (H.set i x,W.set x.n (i:Int)):=by
 unfold bZ;have e1:=ar (H.take n) i (by rw [aa4];omega);have e2:=dO (l:=W) h0 h1;simp only [e1,e2,aq,vF,beq_self_eq_true,kw];rfl
theorem rE {i:Nat} (h:i<1000000000):ae .i64 (acy (ae .i64 (((i+1:Nat):Int) -1)) 2)=((i / 2:Nat):Int):=by
 have e:ae .i64 (((i+1:Nat):Int) -1)=(i:Int):=by rw [wi];omega
 rw [e,abT (by omega),wi];omega
theorem u5 {i:Nat} (h:i<1000000000):ae .i64 ((ae .i64 (2*(i:Int)))+1)=((2*i+1:Nat):Int):=by
 have e:ae .i64 (2*(i:Int))=((2*i:Nat):Int):=by rw [wi];omega
 rw [e,wi];omega
theorem yI {n:Nat} {x:Ev}: ∀{i:Nat} {H:List Ev} {W:List Int} {j:Nat} {H1:List Ev} {W1:List Int},mr n H W->i<n->jc x i H W=(j,H1,W1)-> ∀w,w<n->pO H1[w]!/\0<=(H1[w]!).ix/\(H1[w]!).ix<aiD W
 |0,H,W,j,H1,W1,c,hi,e=>by rw [jc] at e;injection e with e1 e;injection e with e2 e3;subst e2;exact c.ev
 |i+1,H,W,j,H1,W1,c,hi,e=>by
  rw [jc] at e;split at e
  · have:=yI (c.move hi (show i / 2<n by omega) (H[i / 2]!).n ((i+1:Nat):Int)) (by omega) e
    rw [lw] at this;exact this
  injection e with e1 e;injection e with e2 e3
  subst e2;exact c.ev
termination_by i=>i
decreasing_by omega
theorem Nu {c0:List Int×List Bool×List Int×Int×Int×Int×Int×Int×Int×List Ev×List Int} {n i:Nat} {H:List Ev} {W:List Int} {u fr:List Int} {us:List Bool} {x:Ev}
 (c:mr n H W) (hn:(aiD H)=n) (hi:i<n) (hx:pO x) (x0:0<=x.ix) (x1:x.ix<aiD W) (l1:(aiD c0.2.2.2.2.2.2.2.2.2.1)=n) (l2:(aiD c0.2.2.2.2.2.2.2.2.2.2)=aiD W):
 gb c0 ((i:Int),((2*i+1:Nat):Int),H,W,u,us,fr,x)=
  aiH (if 2*i+1<n/\less H[ic n H i]! x then .next (((ic n H i:Nat):Int),((2*ic n H i+1:Nat):Int),H.set i H[ic n H i]!,W.set (H[ic n H i]!).n (i:Int),u,us,fr,x)
   else .done (.done (H.set i x,W.set x.n (i:Int)))):=by
 have hb:=c.hb;have fin:(b7 (u,us,fr,(i:Int),x.1,x.2.1,x.2.2.1,x.2.2.2.1,x.2.2.2.2,H,W))=aiH (H.set i x,W.set x.n (i:Int)):=D9 (by omega) x0 x1;have ln1:(H.set i x).length=(aiD c0.2.2.2.2.2.2.2.2.2.1):=by rw [lw];omega
 have ln2:(W.set x.n (i:Int)).length=(aiD c0.2.2.2.2.2.2.2.2.2.2):=by rw [lw];omega
 unfold gb;simp only [az,hn,fin,aq,ln1,ln2,beq_self_eq_true,kw]
 by_cases h1:2*i+1<n
 · have e1:aiP (((2*i+1:Nat):Int)<(n:Int))=aiL:=by simp;omega
   have e2:ae .i64 (((2*i+1:Nat):Int)+1)=((2*i+2:Nat):Int):=aY (by omega);obtain ⟨xO,a1,a2⟩:=c.ev (2*i+1) h1;have g1:=ar H (2*i+1) (by omega);have s1:(b7 (u,us,fr,(i:Int),(H[2*i+1]!).1,(H[2*i+1]!).2.1,(H[2*i+1]!).2.2.1,(H[2*i+1]!).2.2.2.1,(H[2*i+1]!).2.2.2.2,H,W))=aiH (H.set i H[2*i+1]!,W.set (H[2*i+1]!).n (i:Int)):=D9 (by omega) a1 a2;simp only [e1,e2,kw,g1,aq,s1,dH xO hx,Ji,u5 (show 2*i+1<1000000000 by omega)]
   by_cases h2:2*i+2<n
   · have e3:aiP (((2*i+2:Nat):Int)<(n:Int))=aiL:=by simp;omega
     obtain ⟨TS,b1,b2⟩:=c.ev (2*i+2) h2;have g2:=ar H (2*i+2) (by omega);have s2:(b7 (u,us,fr,(i:Int),(H[2*i+2]!).1,(H[2*i+2]!).2.1,(H[2*i+2]!).2.2.1,(H[2*i+2]!).2.2.2.1,(H[2*i+2]!).2.2.2.2,H,W))=aiH (H.set i H[2*i+2]!,W.set (H[2*i+2]!).n (i:Int)):=D9 (by omega) b1 b2;simp only [e3,kw,g2,aq,s2,dH TS hx,dH TS xO,CT,Ji,u5 (show 2*i+2<1000000000 by omega)]
     by_cases h3:less H[2*i+2]! H[2*i+1]!
     · have k:ic n H i=2*i+2:=by unfold ic;rw [lm ⟨h2,h3⟩]
       rw [k]
       by_cases h4:less H[2*i+2]! x
       · simp only [h1,h3,h4,decide_true,kw,lc,Do,and_self,if_true]
       simp only [h1,h3,h4,decide_true,decide_false,kw,ww,and_false,if_false]
     have k:ic n H i=2*i+1:=by unfold ic;rw [ls (fun h=>h3 h.2)]
     rw [k]
     by_cases h4:less H[2*i+1]! x
     · simp only [h1,h3,h4,decide_true,decide_false,lc,Do,and_self,if_true]
     simp only [h1,h3,h4,decide_false,kw,lc,ww,and_false,if_false]
   have e3:aiP (((2*i+2:Nat):Int)<(n:Int))=aiN:=by simp;omega
   have k:ic n H i=2*i+1:=by unfold ic;rw [ls (fun h=>h2 h.1)]
   rw [k];simp only [e3,lc]
   by_cases h4:less H[2*i+1]! x
   · simp only [h1,h4,decide_true,lc,Do,and_self,if_true]
   simp only [h1,h4,decide_false,kw,ww,and_false,if_false]
 have e1:aiP (((2*i+1:Nat):Int)<(n:Int))=aiN:=by simp;omega
 rw [ls (fun h=>h1 h.1),e1];rfl
theorem xf {c0 : List Int × List Bool × List Int × Int × Int × Int × Int × Int × Int × List Ev × List Int} {n : Nat} {u fr : List Int} {us : List Bool} {x : Ev} (hx : pO x) (x0 : 0 <= x.ix) (l1 : (aiD c0.2.2.2.2.2.2.2.2.2.1) = n) :
    ∀ (d i : Nat) (H : List Ev) (W : List Int), n - i <= d -> mr n H W -> (aiD H) = n -> i < n -> x.ix < (aiD W) -> (aiD c0.2.2.2.2.2.2.2.2.2.2) = (aiD W) ->
      aB (gb c0) ((i : Int), ((2 * i + 1 : Nat) : Int), H, W, u, us, fr, x) = aiH (.done ((dV n x i H W).2.1.set (dV n x i H W).1 x, (dV n x i H W).2.2.set x.n ((dV n x i H W).1 : Int)))
  | 0, i, H, W, hd, c, hn, hi, x1, l2 => by omega
  | d + 1, i, H, W, hd, c, hn, hi, x1, l2 => by
    have r := Nu (u := u) (us := us) (fr := fr) c hn hi hx x0 x1 l1 l2
    by_cases h : 2 * i + 1 < n /\ less H[ic n H i]! x
    · rw [lm h] at r
      have kc := nZ n H i
      have kn : ic n H i < n := by omega
      rw [aM r, xf hx x0 l1 d (ic n H i) _ _ (by omega) (c.move hi kn _ _) (by rw [lw]; exact hn) kn (by rw [lw]; exact x1) (by rw [lw]; exact l2)]
      have e : dV n x i H W = dV n x (ic n H i) (H.set i H[ic n H i]!) (W.set (H[ic n H i]!).n (i : Int)) := by
        rw [dV, dif_pos h.1, lm h.2]
      rw [e]
    rw [ls h] at r
    rw [aA r]
    have e : dV n x i H W = (i, H, W) := by
      rw [dV]
      split
      · rename_i h1; rw [ls (fun k => h ⟨h1, k⟩)]
      rfl
    rw [e]
theorem F7 {c0 : List Int × List Bool × List Int × Int × Int × Int × Int × Int × Int × List Ev × List Int} {n : Nat} {u fr : List Int} {us : List Bool} {x : Ev} (hx : pO x) (x0 : 0 <= x.ix) (l1 : (aiD c0.2.2.2.2.2.2.2.2.2.1) = n) :
    ∀ (i : Nat) (H : List Ev) (W : List Int), mr n H W -> (aiD H) = n -> i < n -> x.ix < (aiD W) -> (aiD c0.2.2.2.2.2.2.2.2.2.2) = (aiD W) ->
      aB (eV c0) ((i : Int), H, W, u, us, fr, x) = aiH (cB n x i H W)
  | 0, H, W, c, hn, hi, x1, l2 => by
    have hb := c.hb
    have dn := xf (u := u) (us := us) (fr := fr) hx x0 l1 n 0 H W (by omega) c hn hi x1 l2
    refine (aA (r := cB n x 0 H W) ?_)
    unfold eV
    have e1 : aiP ((0 : Int) < ((0 : Nat) : Int)) = aiN := by simp
    simp only [e1, lc, u5 (show 0 < 1000000000 by omega)]
    rw [dn]
    unfold cB
    rw [jc]
  | i + 1, H, W, c, hn, hi, x1, l2 => by
    have hb := c.hb
    have e1 : aiP ((0 : Int) < ((i + 1 : Nat) : Int)) = aiL := decide_eq_true (by omega)
    have hp : i / 2 < n := by omega
    obtain ⟨xO, a1, a2⟩ := c.ev (i / 2) hp
    have g1 := ar H (i / 2) (by omega)
    have s1 : (b7 (u, us, fr, ((i + 1 : Nat) : Int), (H[i / 2]!).1, (H[i / 2]!).2.1, (H[i / 2]!).2.2.1, (H[i / 2]!).2.2.2.1, (H[i / 2]!).2.2.2.2, H, W)) = aiH (H.set (i + 1) H[i / 2]!, W.set (H[i / 2]!).n ((i + 1 : Nat) : Int)) := D9 (by omega) a1 a2
    by_cases h : less x H[i / 2]!
    · have r : eV c0 (((i + 1 : Nat) : Int), H, W, u, us, fr, x) = aiH (.next (((i / 2 : Nat) : Int), H.set (i + 1) H[i / 2]!, W.set (H[i / 2]!).n ((i + 1 : Nat) : Int), u, us, fr, x)) := by
        unfold eV
        simp only [e1, kw, rE (show i < 1000000000 by omega), g1, aq, dH hx xO, CT, h, decide_true, s1]
      rw [aM r, F7 hx x0 l1 (i / 2) _ _ (c.move hi hp _ _) (by rw [lw]; exact hn) hp (by rw [lw]; exact x1) (by rw [lw]; exact l2)]
      have e : jc x (i + 1) H W = jc x (i / 2) (H.set (i + 1) H[i / 2]!) (W.set (H[i / 2]!).n ((i + 1 : Nat) : Int)) := by
        rw [jc, lm h]
      unfold cB
      rw [e]
    have dn := xf (u := u) (us := us) (fr := fr) hx x0 l1 n (i + 1) H W (by omega) c hn hi x1 l2
    refine (aA (r := cB n x (i + 1) H W) ?_)
    unfold eV
    simp only [e1, kw, rE (show i < 1000000000 by omega), g1, aq, dH hx xO, CT, h, decide_false, lc, u5 (show i + 1 < 1000000000 by omega)]
    rw [dn]
    unfold cB
    rw [jc, ls h]
termination_by i=>i
decreasing_by omega
theorem F8 {n:Nat} {u fr:List Int} {us:List Bool} {x:Ev} (hx:pO x) (x0:0<=x.ix) {i:Nat} {H:List Ev} {W:List Int} (c:mr n H W) (hn:(aiD H)=n) (hi:i<n) (x1:x.ix<aiD W):
 fb (u,us,fr,(i:Int),x.1,x.2.1,x.2.2.1,x.2.2.2.1,x.2.2.2.2,H,W)=aiH (cB n x i H W):=by
 unfold fb;exact F7 hx x0 hn i H W c hn hi x1 rfl
theorem gi {l:List Ev} {n i:Nat} (h:i<n) (hn:n<=aiD l):aE (l.take n) (i:Int)=aiH l[i]!:=by rw [ar (l.take n) i (by rw [aa4];omega),lG h]
theorem Nv {c0:List Int×List Bool×List Int×Nat×Nat×Int×Int×Int×Int×Int×Int×List Ev×List Int} {n cap i:Nat} {H:List Ev} {W:List Int} {u fr:List Int} {us:List Bool} {x:Ev}
 (c:mr n H W) (hi:i<n) (hx:pO x) (x0:0<=x.ix) (x1:x.ix<aiD W) (l1:(aiD c0.2.2.2.2.2.2.2.2.2.2.2.1)=aiD H) (l2:(aiD c0.2.2.2.2.2.2.2.2.2.2.2.2)=aiD W):
 f' c0 ((i:Int),((2*i+1:Nat):Int),H,W,u,us,fr,n,cap,x)=
  aiH (if 2*i+1<n/\less H[ic n H i]! x then .next (((ic n H i:Nat):Int),((2*ic n H i+1:Nat):Int),H.set i H[ic n H i]!,W.set (H[ic n H i]!).n (i:Int),u,us,fr,n,cap,x)
   else .done (.done (H.set i x,W.set x.n (i:Int)))):=by
 have hb:=c.hb;have QN:=c.hn;have fin:(bZ (u,us,fr,n,cap,(i:Int),x.1,x.2.1,x.2.2.1,x.2.2.2.1,x.2.2.2.2,H,W))=aiH (H.set i x,W.set x.n (i:Int)):=D' (cap:=cap) (by omega) c.hn x0 x1;have ln1:(H.set i x).length=(aiD c0.2.2.2.2.2.2.2.2.2.2.2.1):=by rw [lw];omega
 have ln2:(W.set x.n (i:Int)).length=(aiD c0.2.2.2.2.2.2.2.2.2.2.2.2):=by rw [lw];omega
 unfold f';simp only [az,fin,aq,ln1,ln2,beq_self_eq_true,kw]
 by_cases h1:2*i+1<n
 · have e1:aiP (((2*i+1:Nat):Int)<(n:Int))=aiL:=by simp;omega
   have e2:ae .i64 (((2*i+1:Nat):Int)+1)=((2*i+2:Nat):Int):=aY (by omega);obtain ⟨xO,a1,a2⟩:=c.ev (2*i+1) h1;have g1:=gi (l:=H) (n:=n) (i:=2*i+1) (by omega) c.hn;have s1:(bZ (u,us,fr,n,cap,(i:Int),(H[2*i+1]!).1,(H[2*i+1]!).2.1,(H[2*i+1]!).2.2.1,(H[2*i+1]!).2.2.2.1,(H[2*i+1]!).2.2.2.2,H,W))=aiH (H.set i H[2*i+1]!,W.set (H[2*i+1]!).n (i:Int)):=D' (cap:=cap) (by omega) c.hn a1 a2;simp only [e1,e2,kw,g1,aq,s1,dH xO hx,Ji,u5 (show 2*i+1<1000000000 by omega)]
   by_cases h2:2*i+2<n
   · have e3:aiP (((2*i+2:Nat):Int)<(n:Int))=aiL:=by simp;omega
     obtain ⟨TS,b1,b2⟩:=c.ev (2*i+2) h2;have g2:=gi (l:=H) (n:=n) (i:=2*i+2) (by omega) c.hn;have s2:(bZ (u,us,fr,n,cap,(i:Int),(H[2*i+2]!).1,(H[2*i+2]!).2.1,(H[2*i+2]!).2.2.1,(H[2*i+2]!).2.2.2.1,(H[2*i+2]!).2.2.2.2,H,W))=aiH (H.set i H[2*i+2]!,W.set (H[2*i+2]!).n (i:Int)):=D' (cap:=cap) (by omega) c.hn b1 b2;simp only [e3,kw,g2,aq,s2,dH TS hx,dH TS xO,CT,Ji,u5 (show 2*i+2<1000000000 by omega)]
     by_cases h3:less H[2*i+2]! H[2*i+1]!
     · have k:ic n H i=2*i+2:=by unfold ic;rw [lm ⟨h2,h3⟩]
       rw [k]
       by_cases h4:less H[2*i+2]! x
       · simp only [h1,h3,h4,decide_true,kw,lc,Do,and_self,if_true]
       simp only [h1,h3,h4,decide_true,decide_false,kw,ww,and_false,if_false]
     have k:ic n H i=2*i+1:=by unfold ic;rw [ls (fun h=>h3 h.2)]
     rw [k]
     by_cases h4:less H[2*i+1]! x
     · simp only [h1,h3,h4,decide_true,decide_false,lc,Do,and_self,if_true]
     simp only [h1,h3,h4,decide_false,kw,lc,ww,and_false,if_false]
   have e3:aiP (((2*i+2:Nat):Int)<(n:Int))=aiN:=by simp;omega
   have k:ic n H i=2*i+1:=by unfold ic;rw [ls (fun h=>h2 h.1)]
   rw [k];simp only [e3,lc]
   by_cases h4:less H[2*i+1]! x
   · simp only [h1,h4,decide_true,lc,Do,and_self,if_true]
   simp only [h1,h4,decide_false,kw,ww,and_false,if_false]
 have e1:aiP (((2*i+1:Nat):Int)<(n:Int))=aiN:=by simp;omega
 rw [ls (fun h=>h1 h.1),e1];rfl
theorem xg {c0 : List Int × List Bool × List Int × Nat × Nat × Int × Int × Int × Int × Int × Int × List Ev × List Int} {n cap : Nat} {u fr : List Int} {us : List Bool} {x : Ev} (hx : pO x) (x0 : 0 <= x.ix) :
    ∀ (d i : Nat) (H : List Ev) (W : List Int), n - i <= d -> mr n H W -> (aiD c0.2.2.2.2.2.2.2.2.2.2.2.1) = (aiD H) -> i < n -> x.ix < (aiD W) -> (aiD c0.2.2.2.2.2.2.2.2.2.2.2.2) = (aiD W) ->
      aB (f' c0) ((i : Int), ((2 * i + 1 : Nat) : Int), H, W, u, us, fr, n, cap, x) = aiH (.done ((dV n x i H W).2.1.set (dV n x i H W).1 x, (dV n x i H W).2.2.set x.n ((dV n x i H W).1 : Int)))
  | 0, i, H, W, hd, c, hn, hi, x1, l2 => by omega
  | d + 1, i, H, W, hd, c, hn, hi, x1, l2 => by
    have r := Nv (u := u) (us := us) (fr := fr) (cap := cap) c hi hx x0 x1 hn l2
    by_cases h : 2 * i + 1 < n /\ less H[ic n H i]! x
    · rw [lm h] at r
      have kc := nZ n H i
      have kn : ic n H i < n := by omega
      rw [aM r, xg hx x0 d (ic n H i) _ _ (by omega) (c.move hi kn _ _) (by rw [lw]; exact hn) kn (by rw [lw]; exact x1) (by rw [lw]; exact l2)]
      have e : dV n x i H W = dV n x (ic n H i) (H.set i H[ic n H i]!) (W.set (H[ic n H i]!).n (i : Int)) := by
        rw [dV, dif_pos h.1, lm h.2]
      rw [e]
    rw [ls h] at r
    rw [aA r]
    have e : dV n x i H W = (i, H, W) := by
      rw [dV]
      split
      · rename_i h1; rw [ls (fun k => h ⟨h1, k⟩)]
      rfl
    rw [e]
theorem F9 {c0 : List Int × List Bool × List Int × Nat × Nat × Int × Int × Int × Int × Int × Int × List Ev × List Int} {n cap : Nat} {u fr : List Int} {us : List Bool} {x : Ev} (hx : pO x) (x0 : 0 <= x.ix) :
    ∀ (i : Nat) (H : List Ev) (W : List Int), mr n H W -> (aiD c0.2.2.2.2.2.2.2.2.2.2.2.1) = (aiD H) -> i < n -> x.ix < (aiD W) -> (aiD c0.2.2.2.2.2.2.2.2.2.2.2.2) = (aiD W) ->
      aB (eU c0) ((i : Int), H, W, u, us, fr, n, cap, x) = aiH (cB n x i H W)
  | 0, H, W, c, hn, hi, x1, l2 => by
    have hb := c.hb
    have QN := c.hn
    have dn := xg (u := u) (us := us) (fr := fr) (cap := cap) hx x0 n 0 H W (by omega) c hn hi x1 l2
    refine (aA (r := cB n x 0 H W) ?_)
    unfold eU
    have e1 : aiP ((0 : Int) < ((0 : Nat) : Int)) = aiN := by simp
    simp only [e1, lc, u5 (show 0 < 1000000000 by omega)]
    rw [dn]
    unfold cB
    rw [jc]
  | i + 1, H, W, c, hn, hi, x1, l2 => by
    have hb := c.hb
    have QN := c.hn
    have e1 : aiP ((0 : Int) < ((i + 1 : Nat) : Int)) = aiL := decide_eq_true (by omega)
    have hp : i / 2 < n := by omega
    obtain ⟨xO, a1, a2⟩ := c.ev (i / 2) hp
    have g1 := gi (l := H) (n := n) (i := i / 2) (by omega) c.hn
    have s1 : (bZ (u, us, fr, n, cap, ((i + 1 : Nat) : Int), (H[i / 2]!).1, (H[i / 2]!).2.1, (H[i / 2]!).2.2.1, (H[i / 2]!).2.2.2.1, (H[i / 2]!).2.2.2.2, H, W)) = aiH (H.set (i + 1) H[i / 2]!, W.set (H[i / 2]!).n ((i + 1 : Nat) : Int)) := D' (cap := cap) (by omega) c.hn a1 a2
    by_cases h : less x H[i / 2]!
    · have r : eU c0 (((i + 1 : Nat) : Int), H, W, u, us, fr, n, cap, x) = aiH (.next (((i / 2 : Nat) : Int), H.set (i + 1) H[i / 2]!, W.set (H[i / 2]!).n ((i + 1 : Nat) : Int), u, us, fr, n, cap, x)) := by
        unfold eU
        simp only [e1, kw, rE (show i < 1000000000 by omega), g1, aq, dH hx xO, CT, h, decide_true, s1]
      rw [aM r, F9 hx x0 (i / 2) _ _ (c.move hi hp _ _) (by rw [lw]; exact hn) hp (by rw [lw]; exact x1) (by rw [lw]; exact l2)]
      have e : jc x (i + 1) H W = jc x (i / 2) (H.set (i + 1) H[i / 2]!) (W.set (H[i / 2]!).n ((i + 1 : Nat) : Int)) := by
        rw [jc, lm h]
      unfold cB
      rw [e]
    have dn := xg (u := u) (us := us) (fr := fr) (cap := cap) hx x0 n (i + 1) H W (by omega) c hn hi x1 l2
    refine (aA (r := cB n x (i + 1) H W) ?_)
    unfold eU
    simp only [e1, kw, rE (show i < 1000000000 by omega), g1, aq, dH hx xO, CT, h, decide_false, lc, u5 (show i + 1 < 1000000000 by omega)]
    rw [dn]
    unfold cB
    rw [jc, ls h]
termination_by i=>i
decreasing_by omega
theorem Nw {n cap:Nat} {u fr:List Int} {us:List Bool} {x:Ev} (hx:pO x) (x0:0<=x.ix) {i:Nat} {H:List Ev} {W:List Int} (c:mr n H W) (hi:i<n) (x1:x.ix<aiD W):
 j8 (u,us,fr,n,cap,(i:Int),x.1,x.2.1,x.2.2.1,x.2.2.2.1,x.2.2.2.2,H,W)=aiH (cB n x i H W):=by
 unfold j8;exact F9 hx x0 i H W c rfl hi x1 rfl
theorem F' {n cap:Nat} {H:List Ev} {W:List Int} {x:Ev} {u fr:List Int} {us:List Bool} {i k:Nat} (hi:i<n) (hk:k<n) (JD:k≠i) (hn:n<=aiD H) (x0:0<=x.ix) (x1:x.ix<aiD W) (k0:0<=(H[k]!).ix) (k1:(H[k]!).ix<aiD W):
 gB (u,us,fr,n,cap,(i:Int),(k:Int),H.set i x,W.set x.n (i:Int))=aiH ((H.set i H[k]!).set k x,(W.set (H[k]!).n (i:Int)).set x.n (k:Int)):=by
 have cell: ∀w,(H.set i x)[w]! =if w=i then x else H[w]!:=by
  intro w;rw [bn]
  by_cases e:w=i
  · rw [lm ⟨e,by omega⟩,lm e]
  rw [ls (fun k=>e k.1),ls e]
 have sh:((H.set i x).set i H[k]!).set k x=(H.set i H[k]!).set k x:=by rw [M2]
 have sw:((W.set x.n (i:Int)).set (H[k]!).n (i:Int)).set x.n (k:Int)=(W.set (H[k]!).n (i:Int)).set x.n (k:Int):=by
  by_cases e:x.n=(H[k]!).n
  · simp only [e,M2]
  rw [acH _ _ (fun h=>e h),M2]
 have g1:aE ((H.set i x).take n) (k:Int)=aiH H[k]!:=by rw [gi (by omega) (by rw [lw];omega),cell,ls JD]
 have g2:aE ((H.set i x).take n) (i:Int)=aiH x:=by rw [gi (by omega) (by rw [lw];omega),cell,lm rfl]
 have g3:aE (((H.set i x).set i H[k]!).take n) (k:Int)=aiH H[k]!:=by rw [gi (by omega) (by rw [lw,lw];omega),bn,ls (fun h=>JD h.1),cell,ls JD]
 have g4:aE (((H.set i H[k]!).set k x).take n) (i:Int)=aiH H[k]!:=by rw [gi (by omega) (by rw [lw,lw];omega),bn,ls (fun h=>JD h.1.symm),bn,lm ⟨rfl,by omega⟩]
 have g5:aE (((H.set i H[k]!).set k x).take n) (k:Int)=aiH x:=by rw [gi (by omega) (by rw [lw,lw];omega),bn,lm ⟨rfl,by rw [lw];omega⟩]
 have w6:=dO (l:=W.set x.n (i:Int)) k0 (by rw [lw];exact k1);have w7:=dO (l:=(W.set x.n (i:Int)).set (H[k]!).n (i:Int)) x0 (by rw [lw,lw];exact x1);have q1: ∀(l:List Int) (a:Int) (y:Ev),bz l y.2.2.2.1 a=l.set y.n a:=fun _ _ _=>rfl
 unfold gB;simp only [de,g1,g2,g3,aq,sh,g4,g5,q1,w6,w7,sw,lw,beq_self_eq_true,kw]
theorem TU {c0:List Int×List Bool×List Int×Nat×Nat×Int×List Ev×List Int} {n cap:Nat} {u fr:List Int} {us:List Bool} {x:Ev} (hx:pO x) (x0:0<=x.ix):
 ∀(i:Nat) (H:List Ev) (W:List Int),mr n H W->i<n->x.ix<aiD W->aiD c0.2.2.2.2.2.2.1=aiD H->aiD c0.2.2.2.2.2.2.2=aiD W->
  aB (g9 c0) ((i:Int),H.set i x,W.set x.n (i:Int),u,us,fr,n,cap)=aiH (((jc x i H W).1:Int),(jc x i H W).2.1.set (jc x i H W).1 x,(jc x i H W).2.2.set x.n ((jc x i H W).1:Int))
 |0,H,W,c,hi,x1,l1,l2=>by
  have QN:=c.hn;refine aA ?_;unfold g9;have e1:aiP ((0:Int)<((0:Nat):Int))=aiN:=by simp
  rw [jc];simp only [e1,lc,lw,l1,l2,beq_self_eq_true,kw]
 |i+1,H,W,c,hi,x1,l1,l2=>by
  have hb:=c.hb;have QN:=c.hn;have e1:aiP ((0:Int)<((i+1:Nat):Int))=aiL:=decide_eq_true (by omega);have hp:i / 2<n:=by omega
  have dK:i / 2≠i+1:=by omega
  obtain ⟨xO,a1,a2⟩:=c.ev (i / 2) hp;have cell: ∀w,(H.set (i+1) x)[w]! =if w=i+1 then x else H[w]!:=by
   intro w;rw [bn]
   by_cases e:w=i+1
   · rw [lm ⟨e,by omega⟩,lm e]
   rw [ls (fun k=>e k.1),ls e]
  have g0:aE ((H.set (i+1) x).take n) ((i+1:Nat):Int)=aiH x:=by rw [gi (by omega) (by rw [lw];omega),cell,lm rfl]
  have g1:aE ((H.set (i+1) x).take n) ((i / 2:Nat):Int)=aiH H[i / 2]!:=by rw [gi (by omega) (by rw [lw];omega),cell,ls dK]
  by_cases h:less x H[i / 2]!
  · have sw:=F' (cap:=cap) (u:=u) (us:=us) (fr:=fr) (x:=x) hi hp dK QN x0 x1 a1 a2
    have r:g9 c0 (((i+1:Nat):Int),H.set (i+1) x,W.set x.n ((i+1:Nat):Int),u,us,fr,n,cap)=aiH (.next (((i / 2:Nat):Int),(H.set (i+1) H[i / 2]!).set (i / 2) x,(W.set (H[i / 2]!).n ((i+1:Nat):Int)).set x.n ((i / 2:Nat):Int),u,us,fr,n,cap)):=by unfold g9;simp only [e1,kw,rE (show i<1000000000 by omega),g0,g1,aq,ni hx xO,h,decide_true,sw]
    rw [aM r,TU hx x0 (i / 2) _ _ (c.move hi hp _ _) hp (by rw [lw];exact x1) (by rw [lw];exact l1) (by rw [lw];exact l2)];have e:jc x (i+1) H W=jc x (i / 2) (H.set (i+1) H[i / 2]!) (W.set (H[i / 2]!).n ((i+1:Nat):Int)):=by rw [jc,lm h]
    rw [e]
  refine aA ?_
  unfold g9;have e:jc x (i+1) H W=(i+1,H,W):=by rw [jc,ls h]
  rw [e];simp only [e1,kw,rE (show i<1000000000 by omega),g0,g1,aq,ni hx xO,h,decide_false,lc,lw,l1,l2,beq_self_eq_true]
termination_by i=>i
decreasing_by omega
theorem Lh {c0:List Int×List Bool×List Int×Nat×Nat×Int×List Ev×List Int} {n cap:Nat} {u fr:List Int} {us:List Bool} {x:Ev} (hx:pO x) (x0:0<=x.ix):
 ∀(d i:Nat) (H:List Ev) (W:List Int),n-i<=d->mr n H W->i<n->x.ix<aiD W->aiD c0.2.2.2.2.2.2.1=aiD H->aiD c0.2.2.2.2.2.2.2=aiD W->
  aB (jY c0) ((i:Int),H.set i x,W.set x.n (i:Int),u,us,fr,n,cap)=aiH (((dV n x i H W).2.1.set (dV n x i H W).1 x,(dV n x i H W).2.2.set x.n ((dV n x i H W).1:Int)))
 |0,i,H,W,hd,c,hi,x1,l1,l2=>by omega
 |d+1,i,H,W,hd,c,hi,x1,l1,l2=>by
  have hb:=c.hb;have QN:=c.hn;have cell: ∀w,(H.set i x)[w]! =if w=i then x else H[w]!:=by
   intro w;rw [bn]
   by_cases e:w=i
   · rw [lm ⟨e,by omega⟩,lm e]
   rw [ls (fun k=>e k.1),ls e]
  have TV:(H.set i x).length=(aiD H):=lw;have body:jY c0 ((i:Int),H.set i x,W.set x.n (i:Int),u,us,fr,n,cap)=aiH (if 2*i+1<n/\less H[ic n H i]! x then .next (((ic n H i:Nat):Int),(H.set i H[ic n H i]!).set (ic n H i) x,(W.set (H[ic n H i]!).n (i:Int)).set x.n ((ic n H i:Nat):Int),u,us,fr,n,cap) else .done ((H.set i x,W.set x.n (i:Int)))):=by
   have k1:=u5 (show i<1000000000 by omega);unfold jY
   by_cases h1:2*i+1<n
   · have e1:aiP ((n:Int)<=((2*i+1:Nat):Int))=aiN:=decide_eq_false (by omega)
     have e2:ae .i64 (((2*i+1:Nat):Int)+1)=((2*i+2:Nat):Int):=aY (by omega);obtain ⟨xO,a1,a2⟩:=c.ev (2*i+1) h1;have g0:aE ((H.set i x).take n) (i:Int)=aiH x:=by rw [gi (by omega) (by rw [lw];omega),cell,lm rfl]
     have g1:aE ((H.set i x).take n) ((2*i+1:Nat):Int)=aiH H[2*i+1]!:=by rw [gi (by omega) (by rw [lw];omega),cell,ls (by omega)]
     have s1:=F' (cap:=cap) (u:=u) (us:=us) (fr:=fr) (x:=x) hi h1 (by omega) QN x0 x1 a1 a2;simp only [az,k1,TV,e1,e2,lc,g0,g1,aq,ni xO hx,s1,lw,l1,l2,beq_self_eq_true,kw]
     by_cases h2:2*i+2<n
     · have e3:aiP (((2*i+2:Nat):Int)<(n:Int))=aiL:=decide_eq_true (by omega)
       obtain ⟨TS,b1,b2⟩:=c.ev (2*i+2) h2;have g2:aE ((H.set i x).take n) ((2*i+2:Nat):Int)=aiH H[2*i+2]!:=by rw [gi (by omega) (by rw [lw];omega),cell,ls (by omega)]
       have s2:=F' (cap:=cap) (u:=u) (us:=us) (fr:=fr) (x:=x) hi h2 (by omega) QN x0 x1 b1 b2;simp only [e3,kw,g2,aq,s2,ni TS hx,ni TS xO]
       by_cases h3:less H[2*i+2]! H[2*i+1]!
       · have k:ic n H i=2*i+2:=by unfold ic;rw [lm ⟨h2,h3⟩]
         rw [k]
         by_cases h4:less H[2*i+2]! x
         · simp only [h1,h3,h4,decide_true,kw,lc,Do,and_self,if_true]
         simp only [h1,h3,h4,decide_true,decide_false,kw,ww,and_false,if_false]
       have k:ic n H i=2*i+1:=by unfold ic;rw [ls (fun h=>h3 h.2)]
       rw [k]
       by_cases h4:less H[2*i+1]! x
       · simp only [h1,h3,h4,decide_true,decide_false,lc,Do,and_self,if_true]
       simp only [h1,h3,h4,decide_false,kw,lc,ww,and_false,if_false]
     have e3:aiP (((2*i+2:Nat):Int)<(n:Int))=aiN:=decide_eq_false (by omega)
     have k:ic n H i=2*i+1:=by unfold ic;rw [ls (fun h=>h2 h.1)]
     rw [k];simp only [e3,lc]
     by_cases h4:less H[2*i+1]! x
     · simp only [h1,h4,decide_true,lc,Do,and_self,if_true]
     simp only [h1,h4,decide_false,kw,ww,and_false,if_false]
   have e1:aiP ((n:Int)<=((2*i+1:Nat):Int))=aiL:=decide_eq_true (by omega)
   rw [ls (fun h=>h1 h.1)];simp only [az,k1,TV,e1,kw,lw,l1,l2,beq_self_eq_true]
  by_cases h:2*i+1<n/\less H[ic n H i]! x
  · rw [lm h] at body
    have kc:=nZ n H i;have kn:ic n H i<n:=by omega
    rw [aM body,Lh hx x0 d (ic n H i) _ _ (by omega) (c.move hi kn _ _) kn (by rw [lw];exact x1) (by rw [lw];exact l1) (by rw [lw];exact l2)];have e:dV n x i H W=dV n x (ic n H i) (H.set i H[ic n H i]!) (W.set (H[ic n H i]!).n (i:Int)):=by rw [dV,dif_pos h.1,lm h.2]
    rw [e]
  rw [ls h] at body
  rw [aA body];have e:dV n x i H W=(i,H,W):=by
   rw [dV];split
   · rename_i h1;rw [ls (fun k=>h ⟨h1,k⟩)]
   rfl
  rw [e]
theorem BM {n:Nat} {H:List Ev} {W:List Int} {x:Ev} {u fr:List Int} {us:List Bool} {i k:Nat} (hi:i<n) (hk:k<n) (JD:k≠i) (hn:n=aiD H) (x0:0<=x.ix) (x1:x.ix<aiD W) (k0:0<=(H[k]!).ix) (k1:(H[k]!).ix<aiD W):
 fK ((i:Int),(k:Int),u,us,fr,H.set i x,W.set x.n (i:Int))=aiH (u,us,fr,(H.set i H[k]!).set k x,(W.set (H[k]!).n (i:Int)).set x.n (k:Int)):=by
 have cell: ∀w,(H.set i x)[w]! =if w=i then x else H[w]!:=by
  intro w;rw [bn]
  by_cases e:w=i
  · rw [lm ⟨e,by omega⟩,lm e]
  rw [ls (fun k=>e k.1),ls e]
 have sh:((H.set i x).set i H[k]!).set k x=(H.set i H[k]!).set k x:=by rw [M2]
 have sw:((W.set x.n (i:Int)).set (H[k]!).n (i:Int)).set x.n (k:Int)=(W.set (H[k]!).n (i:Int)).set x.n (k:Int):=by
  by_cases e:x.n=(H[k]!).n
  · simp only [e,M2]
  rw [acH _ _ (fun h=>e h),M2]
 have g1:aE ((H.set i x)) (k:Int)=aiH H[k]!:=by rw [ar _ _ (by rw [lw];omega),cell,ls JD]
 have g2:aE ((H.set i x)) (i:Int)=aiH x:=by rw [ar _ _ (by rw [lw];omega),cell,lm rfl]
 have g3:aE (((H.set i x).set i H[k]!)) (k:Int)=aiH H[k]!:=by rw [ar _ _ (by rw [lw,lw];omega),bn,ls (fun h=>JD h.1),cell,ls JD]
 have g4:aE (((H.set i H[k]!).set k x)) (i:Int)=aiH H[k]!:=by rw [ar _ _ (by rw [lw,lw];omega),bn,ls (fun h=>JD h.1.symm),bn,lm ⟨rfl,by omega⟩]
 have g5:aE (((H.set i H[k]!).set k x)) (k:Int)=aiH x:=by rw [ar _ _ (by rw [lw,lw];omega),bn,lm ⟨rfl,by rw [lw];omega⟩]
 have w6:=dO (l:=W.set x.n (i:Int)) k0 (by rw [lw];exact k1);have w7:=dO (l:=(W.set x.n (i:Int)).set (H[k]!).n (i:Int)) x0 (by rw [lw,lw];exact x1);have q1: ∀(l:List Int) (a:Int) (y:Ev),bz l y.2.2.2.1 a=l.set y.n a:=fun _ _ _=>rfl
 unfold fK;simp only [de,g1,g2,g3,aq,sh,g4,g5,q1,w6,w7,sw,lw,beq_self_eq_true,kw]
theorem TW {c0:Int×List Int×List Bool×List Int×List Ev×List Int} {n:Nat} {u fr:List Int} {us:List Bool} {x:Ev} (hx:pO x) (x0:0<=x.ix) (l3:(aiD c0.2.1)=aiD u) (l4:(aiD c0.2.2.1)=aiD us) (l5:(aiD c0.2.2.2.1)=aiD fr):
 ∀(i:Nat) (H:List Ev) (W:List Int),mr n H W->i<n->aiD H=n->x.ix<aiD W->aiD c0.2.2.2.2.1=aiD H->aiD c0.2.2.2.2.2=aiD W->
  aB (hH c0) ((i:Int),u,us,fr,H.set i x,W.set x.n (i:Int))=aiH (((jc x i H W).1:Int),u,us,fr,(jc x i H W).2.1.set (jc x i H W).1 x,(jc x i H W).2.2.set x.n ((jc x i H W).1:Int))
 |0,H,W,c,hi,O8,x1,l1,l2=>by
  have QN:=c.hn;refine aA ?_;unfold hH;have e1:aiP ((0:Int)<((0:Nat):Int))=aiN:=by simp
  rw [jc];simp only [e1,lc,lw,l1,l2,l3,l4,l5,beq_self_eq_true,kw]
 |i+1,H,W,c,hi,O8,x1,l1,l2=>by
  have hb:=c.hb;have QN:=c.hn;have e1:aiP ((0:Int)<((i+1:Nat):Int))=aiL:=decide_eq_true (by omega);have hp:i / 2<n:=by omega
  have dK:i / 2≠i+1:=by omega
  obtain ⟨xO,a1,a2⟩:=c.ev (i / 2) hp;have cell: ∀w,(H.set (i+1) x)[w]! =if w=i+1 then x else H[w]!:=by
   intro w;rw [bn]
   by_cases e:w=i+1
   · rw [lm ⟨e,by omega⟩,lm e]
   rw [ls (fun k=>e k.1),ls e]
  have g0:aE ((H.set (i+1) x)) ((i+1:Nat):Int)=aiH x:=by rw [ar _ _ (by rw [lw];omega),cell,lm rfl]
  have g1:aE ((H.set (i+1) x)) ((i / 2:Nat):Int)=aiH H[i / 2]!:=by rw [ar _ _ (by rw [lw];omega),cell,ls dK]
  by_cases h:less x H[i / 2]!
  · have sw:=BM (u:=u) (us:=us) (fr:=fr) (x:=x) hi hp dK O8.symm x0 x1 a1 a2
    have r:hH c0 (((i+1:Nat):Int),u,us,fr,H.set (i+1) x,W.set x.n ((i+1:Nat):Int))=aiH (.next (((i / 2:Nat):Int),u,us,fr,(H.set (i+1) H[i / 2]!).set (i / 2) x,(W.set (H[i / 2]!).n ((i+1:Nat):Int)).set x.n ((i / 2:Nat):Int))):=by unfold hH;simp only [e1,kw,rE (show i<1000000000 by omega),g0,g1,aq,ni hx xO,h,decide_true,sw]
    rw [aM r,TW hx x0 l3 l4 l5 (i / 2) _ _ (c.move hi hp _ _) hp (by rw [lw];exact O8) (by rw [lw];exact x1) (by rw [lw];exact l1) (by rw [lw];exact l2)];have e:jc x (i+1) H W=jc x (i / 2) (H.set (i+1) H[i / 2]!) (W.set (H[i / 2]!).n ((i+1:Nat):Int)):=by rw [jc,lm h]
    rw [e]
  refine aA ?_
  unfold hH;have e:jc x (i+1) H W=(i+1,H,W):=by rw [jc,ls h]
  rw [e];simp only [e1,kw,rE (show i<1000000000 by omega),g0,g1,aq,ni hx xO,h,decide_false,lc,lw,l1,l2,l3,l4,l5,beq_self_eq_true]
termination_by i=>i
decreasing_by omega
theorem Li {c0:Int×List Int×List Bool×List Int×List Ev×List Int} {n:Nat} {u fr:List Int} {us:List Bool} {x:Ev} (hx:pO x) (x0:0<=x.ix) (l3:(aiD c0.2.1)=aiD u) (l4:(aiD c0.2.2.1)=aiD us) (l5:(aiD c0.2.2.2.1)=aiD fr):
 ∀(d i:Nat) (H:List Ev) (W:List Int),n-i<=d->mr n H W->i<n->aiD H=n->x.ix<aiD W->aiD c0.2.2.2.2.1=aiD H->aiD c0.2.2.2.2.2=aiD W->
  aB (jZ c0) ((i:Int),u,us,fr,H.set i x,W.set x.n (i:Int))=aiH ((u,us,fr,(dV n x i H W).2.1.set (dV n x i H W).1 x,(dV n x i H W).2.2.set x.n ((dV n x i H W).1:Int)))
 |0,i,H,W,hd,c,hi,O8,x1,l1,l2=>by omega
 |d+1,i,H,W,hd,c,hi,O8,x1,l1,l2=>by
  have hb:=c.hb;have QN:=c.hn;have cell: ∀w,(H.set i x)[w]! =if w=i then x else H[w]!:=by
   intro w;rw [bn]
   by_cases e:w=i
   · rw [lm ⟨e,by omega⟩,lm e]
   rw [ls (fun k=>e k.1),ls e]
  have TV:(H.set i x).length=(aiD H):=lw;have body:jZ c0 ((i:Int),u,us,fr,H.set i x,W.set x.n (i:Int))=aiH (if 2*i+1<n/\less H[ic n H i]! x then .next (((ic n H i:Nat):Int),u,us,fr,(H.set i H[ic n H i]!).set (ic n H i) x,(W.set (H[ic n H i]!).n (i:Int)).set x.n ((ic n H i:Nat):Int)) else .done ((u,us,fr,H.set i x,W.set x.n (i:Int)))):=by
   have k1:=u5 (show i<1000000000 by omega);unfold jZ
   by_cases h1:2*i+1<n
   · have e1:aiP ((n:Int)<=((2*i+1:Nat):Int))=aiN:=decide_eq_false (by omega)
     have e2:ae .i64 (((2*i+1:Nat):Int)+1)=((2*i+2:Nat):Int):=aY (by omega);obtain ⟨xO,a1,a2⟩:=c.ev (2*i+1) h1;have g0:aE ((H.set i x)) (i:Int)=aiH x:=by rw [ar _ _ (by rw [lw];omega),cell,lm rfl]
     have g1:aE ((H.set i x)) ((2*i+1:Nat):Int)=aiH H[2*i+1]!:=by rw [ar _ _ (by rw [lw];omega),cell,ls (by omega)]
     have s1:=BM (u:=u) (us:=us) (fr:=fr) (x:=x) hi h1 (by omega) O8.symm x0 x1 a1 a2;simp only [az,k1,TV,O8,e1,e2,lc,g0,g1,aq,ni xO hx,s1,lw,l1,l2,l3,l4,l5,beq_self_eq_true,kw]
     by_cases h2:2*i+2<n
     · have e3:aiP (((2*i+2:Nat):Int)<(n:Int))=aiL:=decide_eq_true (by omega)
       obtain ⟨TS,b1,b2⟩:=c.ev (2*i+2) h2;have g2:aE ((H.set i x)) ((2*i+2:Nat):Int)=aiH H[2*i+2]!:=by rw [ar _ _ (by rw [lw];omega),cell,ls (by omega)]
       have s2:=BM (u:=u) (us:=us) (fr:=fr) (x:=x) hi h2 (by omega) O8.symm x0 x1 b1 b2;simp only [e3,kw,g2,aq,s2,ni TS hx,ni TS xO]
       by_cases h3:less H[2*i+2]! H[2*i+1]!
       · have k:ic n H i=2*i+2:=by unfold ic;rw [lm ⟨h2,h3⟩]
         rw [k]
         by_cases h4:less H[2*i+2]! x
         · simp only [h1,h3,h4,decide_true,kw,lc,Do,and_self,if_true]
         simp only [h1,h3,h4,decide_true,decide_false,kw,ww,and_false,if_false]
       have k:ic n H i=2*i+1:=by unfold ic;rw [ls (fun h=>h3 h.2)]
       rw [k]
       by_cases h4:less H[2*i+1]! x
       · simp only [h1,h3,h4,decide_true,decide_false,lc,Do,and_self,if_true]
       simp only [h1,h3,h4,decide_false,kw,lc,ww,and_false,if_false]
     have e3:aiP (((2*i+2:Nat):Int)<(n:Int))=aiN:=decide_eq_false (by omega)
     have k:ic n H i=2*i+1:=by unfold ic;rw [ls (fun h=>h2 h.1)]
     rw [k];simp only [e3,lc]
     by_cases h4:less H[2*i+1]! x
     · simp only [h1,h4,decide_true,lc,Do,and_self,if_true]
     simp only [h1,h4,decide_false,kw,ww,and_false,if_false]
   have e1:aiP ((n:Int)<=((2*i+1:Nat):Int))=aiL:=decide_eq_true (by omega)
   rw [ls (fun h=>h1 h.1)];simp only [az,k1,TV,O8,e1,kw,lw,l1,l2,l3,l4,l5,beq_self_eq_true]
  by_cases h:2*i+1<n/\less H[ic n H i]! x
  · rw [lm h] at body
    have kc:=nZ n H i;have kn:ic n H i<n:=by omega
    rw [aM body,Li hx x0 l3 l4 l5 d (ic n H i) _ _ (by omega) (c.move hi kn _ _) kn (by rw [lw];exact O8) (by rw [lw];exact x1) (by rw [lw];exact l1) (by rw [lw];exact l2)];have e:dV n x i H W=dV n x (ic n H i) (H.set i H[ic n H i]!) (W.set (H[ic n H i]!).n (i:Int)):=by rw [dV,dif_pos h.1,lm h.2]
    rw [e]
  rw [ls h] at body
  rw [aA body];have e:dV n x i H W=(i,H,W):=by
   rw [dV];split
   · rename_i h1;rw [ls (fun k=>h ⟨h1,k⟩)]
   rfl
  rw [e]
theorem TX {n:Nat} {H:List Ev} {W:List Int} {x:Ev} {u fr:List Int} {us:List Bool} {i k:Nat} (hi:i<n) (hk:k<n) (JD:k≠i) (hn:n=aiD H) (x0:0<=x.ix) (x1:x.ix<aiD W) (k0:0<=(H[k]!).ix) (k1:(H[k]!).ix<aiD W):
 mG (u,us,fr,(i:Int),(k:Int),H.set i x,W.set x.n (i:Int))=aiH ((H.set i H[k]!).set k x,(W.set (H[k]!).n (i:Int)).set x.n (k:Int)):=by
 have cell: ∀w,(H.set i x)[w]! =if w=i then x else H[w]!:=by
  intro w;rw [bn]
  by_cases e:w=i
  · rw [lm ⟨e,by omega⟩,lm e]
  rw [ls (fun k=>e k.1),ls e]
 have sh:((H.set i x).set i H[k]!).set k x=(H.set i H[k]!).set k x:=by rw [M2]
 have sw:((W.set x.n (i:Int)).set (H[k]!).n (i:Int)).set x.n (k:Int)=(W.set (H[k]!).n (i:Int)).set x.n (k:Int):=by
  by_cases e:x.n=(H[k]!).n
  · simp only [e,M2]
  rw [acH _ _ (fun h=>e h),M2]
 have g1:aE ((H.set i x)) (k:Int)=aiH H[k]!:=by rw [ar _ _ (by rw [lw];omega),cell,ls JD]
 have g2:aE ((H.set i x)) (i:Int)=aiH x:=by rw [ar _ _ (by rw [lw];omega),cell,lm rfl]
 have g3:aE (((H.set i x).set i H[k]!)) (k:Int)=aiH H[k]!:=by rw [ar _ _ (by rw [lw,lw];omega),bn,ls (fun h=>JD h.1),cell,ls JD]
 have g4:aE (((H.set i H[k]!).set k x)) (i:Int)=aiH H[k]!:=by rw [ar _ _ (by rw [lw,lw];omega),bn,ls (fun h=>JD h.1.symm),bn,lm ⟨rfl,by omega⟩]
 have g5:aE (((H.set i H[k]!).set k x)) (k:Int)=aiH x:=by rw [ar _ _ (by rw [lw,lw];omega),bn,lm ⟨rfl,by rw [lw];omega⟩]
 have w6:=dO (l:=W.set x.n (i:Int)) k0 (by rw [lw];exact k1);have w7:=dO (l:=(W.set x.n (i:Int)).set (H[k]!).n (i:Int)) x0 (by rw [lw,lw];exact x1);have q1: ∀(l:List Int) (a:Int) (y:Ev),bz l y.2.2.2.1 a=l.set y.n a:=fun _ _ _=>rfl
 unfold mG;simp only [de,g1,g2,g3,aq,sh,g4,g5,q1,w6,w7,sw,lw,beq_self_eq_true,kw]
theorem TY {c0:List Int×List Bool×List Int×Int×List Ev×List Int} {n:Nat} {u fr:List Int} {us:List Bool} {x:Ev} (hx:pO x) (x0:0<=x.ix):
 ∀(i:Nat) (H:List Ev) (W:List Int),mr n H W->i<n->aiD H=n->x.ix<aiD W->aiD c0.2.2.2.2.1=aiD H->aiD c0.2.2.2.2.2=aiD W->
  aB (hJ c0) ((i:Int),H.set i x,W.set x.n (i:Int),u,us,fr)=aiH (((jc x i H W).1:Int),(jc x i H W).2.1.set (jc x i H W).1 x,(jc x i H W).2.2.set x.n ((jc x i H W).1:Int))
 |0,H,W,c,hi,O8,x1,l1,l2=>by
  have QN:=c.hn;refine aA ?_;unfold hJ;have e1:aiP ((0:Int)<((0:Nat):Int))=aiN:=by simp
  rw [jc];simp only [e1,lc,lw,l1,l2,beq_self_eq_true,kw]
 |i+1,H,W,c,hi,O8,x1,l1,l2=>by
  have hb:=c.hb;have QN:=c.hn;have e1:aiP ((0:Int)<((i+1:Nat):Int))=aiL:=decide_eq_true (by omega);have hp:i / 2<n:=by omega
  have dK:i / 2≠i+1:=by omega
  obtain ⟨xO,a1,a2⟩:=c.ev (i / 2) hp;have cell: ∀w,(H.set (i+1) x)[w]! =if w=i+1 then x else H[w]!:=by
   intro w;rw [bn]
   by_cases e:w=i+1
   · rw [lm ⟨e,by omega⟩,lm e]
   rw [ls (fun k=>e k.1),ls e]
  have g0:aE ((H.set (i+1) x)) ((i+1:Nat):Int)=aiH x:=by rw [ar _ _ (by rw [lw];omega),cell,lm rfl]
  have g1:aE ((H.set (i+1) x)) ((i / 2:Nat):Int)=aiH H[i / 2]!:=by rw [ar _ _ (by rw [lw];omega),cell,ls dK]
  by_cases h:less x H[i / 2]!
  · have sw:=TX (u:=u) (us:=us) (fr:=fr) (x:=x) hi hp dK O8.symm x0 x1 a1 a2
    have r:hJ c0 (((i+1:Nat):Int),H.set (i+1) x,W.set x.n ((i+1:Nat):Int),u,us,fr)=aiH (.next (((i / 2:Nat):Int),(H.set (i+1) H[i / 2]!).set (i / 2) x,(W.set (H[i / 2]!).n ((i+1:Nat):Int)).set x.n ((i / 2:Nat):Int),u,us,fr)):=by unfold hJ;simp only [e1,kw,rE (show i<1000000000 by omega),g0,g1,aq,ni hx xO,h,decide_true,sw]
    rw [aM r,TY hx x0 (i / 2) _ _ (c.move hi hp _ _) hp (by rw [lw];exact O8) (by rw [lw];exact x1) (by rw [lw];exact l1) (by rw [lw];exact l2)];have e:jc x (i+1) H W=jc x (i / 2) (H.set (i+1) H[i / 2]!) (W.set (H[i / 2]!).n ((i+1:Nat):Int)):=by rw [jc,lm h]
    rw [e]
  refine aA ?_
  unfold hJ;have e:jc x (i+1) H W=(i+1,H,W):=by rw [jc,ls h]
  rw [e];simp only [e1,kw,rE (show i<1000000000 by omega),g0,g1,aq,ni hx xO,h,decide_false,lc,lw,l1,l2,beq_self_eq_true]
termination_by i=>i
decreasing_by omega
theorem aF {p:Prop} [Decidable p] (h: ¬p):decide p=aiN:=decide_eq_false h
theorem aJ {p:Prop} [Decidable p] (h:p):decide p=aiL:=decide_eq_true h
theorem Lj (ay:List Int) (be:List Bool) (fr:List Int) (fl:List Bool) (h1:(aiD ay)<=200) (h2:(aiD be)=aiD ay) (h3:(aiD fl)=aiD ay):
 ((∀i,i<aiD ay->0<=ay[i]!/\ay[i]!<=1000000/\be[i]!≠fl[i]!/\(be[i]! =aiL->1<=ay[i]!))->aB kB (((aiD ay):Int),0,ay,be,fr,fl)=aiH (.done 0))/\
 (¬(∀i,i<aiD ay->0<=ay[i]!/\ay[i]!<=1000000/\be[i]!≠fl[i]!/\(be[i]! =aiL->1<=ay[i]!))->aB kB (((aiD ay):Int),0,ay,be,fr,fl)=aiH (.done 8)):=by
 have key:=db (body:=kB) (fun i=>(((aiD ay):Int),(i:Int),ay,be,fr,fl)) (aiD ay) (fun i=> ¬(0<=ay[i]!/\ay[i]!<=1000000/\be[i]!≠fl[i]!/\(be[i]! =aiL->1<=ay[i]!))) (r:= .done 8) (e:= .done 0) (fun i hi=>by
  have e1:aiP ((i:Int)<((aiD ay):Int))=aiL:=aJ (by omega);unfold kB;simp only [e1,kw,ar ay i hi,ar be i (by omega),ar fl i (by omega),aq,aY (show i<1000000000 by omega)];generalize ay[i]! =u;generalize be[i]! =a;generalize fl[i]! =b
  by_cases a1:u<0
  · simp only [a1,decide_true,kw];exact ⟨fun _=>trivial,fun h=>absurd (rc.1 h).1 (by omega)⟩
  · by_cases a2:1000000<u
    · simp only [a1,a2,decide_true,decide_false,kw,lc];exact ⟨fun _=>trivial,fun h=>absurd (rc.1 h).2.1 (by omega)⟩
    simp only [a1,a2,decide_false,lc]
    by_cases a3:u<1
    · cases a<;>cases b<;>simp [a3]<;>omega
    cases a<;>cases b<;>simp [a3]<;>omega) (by
  unfold kB;have:aiP (((aiD ay):Int)<((aiD ay):Int))=aiN:=aF (by omega);simp only [this,lc])
 constructor
 · intro h
   exact key.2 fun i hi=>rc.2 (h i hi)
 intro h
 obtain ⟨i,h⟩:=AC.1 h;obtain ⟨hi,hx⟩:=abI.1 h;exact key.1 ⟨i,hi,hx⟩
theorem TZ {α:Type} {n:Nat} (z:α) (h:n<=1048576):yj (n:Int) z=aiH (ut n z):=by unfold yj;rw [lm ⟨by omega,by omega⟩];simp
theorem Ga (s:aQ) (hf:(aiD s.bi)<=1000000):uq s=aiH (if eX s then 0 else 8):=by
 obtain ⟨ay,be,fr⟩:=s;dsimp only at hf;unfold uq;simp only [az]
 by_cases a1:(aiD ay)<1
 · have e:aiP (((aiD ay):Int)<1)=aiL:=aJ (by omega)
   rw [e,ls (fun h=>by have:=h.n1;dsimp only at this;omega)];rfl
 have e1:aiP (((aiD ay):Int)<1)=aiN:=aF (by omega)
 by_cases a2:200<aiD ay
 · have e:aiP (200<((aiD ay):Int))=aiL:=aJ (by omega)
   rw [e1,e,ls (fun h=>by have:=h.n2;dsimp only at this;omega)];rfl
 have e2:aiP (200<((aiD ay):Int))=aiN:=aF (by omega)
 by_cases a3:(aiD be)=aiD ay
 case neg=>have e:(((aiD be):Int) !=((aiD ay):Int))=aiL:=dL (by omega);rw [e1,e2,e,ls (fun h=>a3 h.ul)];rfl
 have e3:(((aiD be):Int) !=((aiD ay):Int))=aiN:=bo (by omega)
 by_cases a4:(aiD ay)<aiD fr
 · have e:aiP (((aiD ay):Int)<((aiD fr):Int))=aiL:=aJ (by omega)
   rw [e1,e2,e3,e,ls (fun h=>by have:=h.fl;dsimp only at this;omega)];rfl
 have e4:aiP (((aiD ay):Int)<((aiD fr):Int))=aiN:=aF (by omega);simp only [e1,e2,e3,e4,lc,beq_self_eq_true,kw,TZ aiN (show (aiD ay)<=1048576 by omega),aq];have ml: ∀k,(marks (ut (aiD ay) aiN) (fr.take k)).length=(aiD ay):=fun k=>by rw [mK,IR]
 have ml':(marks (ut (aiD ay) aiN) fr).length=(aiD ay):=by rw [mK,IR]
 have rep: ∀i:Nat,(ut (aiD ay) aiN)[i]! =aiN:=by
  intro i
  by_cases h:i<aiD ay
  · rw [getElem!_pos _ i (by simpa using h),List.getElem_replicate]
  rw [getElem!_neg _ i (by simpa using h)];rfl
 have yG:=Lj ay be fr (marks (ut (aiD ay) aiN) fr) (by omega) a3 ml';have key:=db (body:=oO) (fun k=>(((aiD ay):Int),(k:Int),ay,be,fr,marks (ut (aiD ay) aiN) (fr.take k))) (aiD fr)
  (fun k=>fr[k]!<0\/((aiD ay):Int)<=fr[k]!\/(marks (ut (aiD ay) aiN) (fr.take k))[(fr[k]!).toNat]! =aiL) (r:=8)
  (e:=if (∀i,i<aiD ay->0<=ay[i]!/\ay[i]!<=1000000/\be[i]!≠(marks (ut (aiD ay) aiN) fr)[i]!/\(be[i]! =aiL->1<=ay[i]!)) then 0 else 8) (fun k hk=>by
   have f1:aiP ((k:Int)<((aiD fr):Int))=aiL:=aJ (by omega);have f5:marks (ut (aiD ay) aiN) (fr.take (k+1))=bz (marks (ut (aiD ay) aiN) (fr.take k)) fr[k]! aiL:=by rw [fv hk,AM]
   unfold oO;simp only [az,f1,kw,ar fr k hk,aq,aY (show k<1000000000 by omega),f5];clear f5;generalize fr[k]! =x
   by_cases b1:x<0
   · simp [b1]
   · by_cases b2:((aiD ay):Int)<=x
     · simp [b1,b2]
     simp only [b1,b2,decide_false,lc,false_or]
     rw [dO (l:=marks (ut (aiD ay) aiN) (fr.take k)) (i:=x) (by omega) (by rw [ml];omega)];simp only [aq];cases (marks (ut (aiD ay) aiN) (fr.take k))[x.toNat]!<;>simp) (by
   have f1:aiP (((aiD fr):Int)<((aiD fr):Int))=aiN:=aF (by omega);unfold oO;simp only [az,f1,lc,acV]
   by_cases hx:(∀i,i<aiD ay->0<=ay[i]!/\ay[i]!<=1000000/\be[i]!≠(marks (ut (aiD ay) aiN) fr)[i]!/\(be[i]! =aiL->1<=ay[i]!))
   · rw [lm hx];exact yG.1 hx
   rw [ls hx];exact yG.2 hx)
 have h0:marks (ut (aiD ay) aiN) (fr.take 0)=ut (aiD ay) aiN:=rfl;rw [show ((0:Nat):Int)=0 from rfl,h0] at key
 by_cases bad: ∃k,k<aiD fr/\(fr[k]!<0\/((aiD ay):Int)<=fr[k]!\/(marks (ut (aiD ay) aiN) (fr.take k))[(fr[k]!).toNat]! =aiL)
 · rw [key.1 bad,ls]
   intro ok;obtain ⟨k,hk,hb⟩:=bad;have hr:=ok.fr fr[k]! (aL hk);dsimp only at hr;rcases hb with hb|hb|hb
   · omega
   · omega
   rw [nY _ _ _ (fun x hx=>(ok.fr x (UV hx)).1) (by rw [IR];omega),rep,acJ] at hb
   have hi:((fr[k]!).toNat:Int)=fr[k]!:=by omega
   rw [hi] at hb;have hm:fr[k]!∈fr.take k:=of_decide_eq_true hb;obtain ⟨j,h1,h2,h3⟩:=cH.1 hm;exact bq.1 ok.fd j k h1 hk h3
 have Nt: ∀k,k<aiD fr->0<=fr[k]!/\fr[k]!<aiD ay/\(marks (ut (aiD ay) aiN) (fr.take k))[(fr[k]!).toNat]! =aiN:=by
  intro k hk;refine ⟨?_,?_,?_⟩
  · exact Int.not_lt.1 fun h=>bad ⟨k,hk,.inl h⟩
  · exact Int.not_le.1 fun h=>bad ⟨k,hk,.inr (.inl h)⟩
  exact ack _▸fun h=>bad ⟨k,hk,.inr (.inr h)⟩
 rw [key.2 fun k hk hb=>bad ⟨k,hk,hb⟩];have rng: ∀x∈fr,0<=x/\x<((aiD ay):Int):=by intro x hx;obtain ⟨k,hk,rfl⟩:=aO.1 hx;exact ⟨(Nt k hk).1,(Nt k hk).2.1⟩
 have g2: ∀k,k<aiD fr->fr[k]!∉fr.take k:=by intro k hk;obtain ⟨c1,c2,c3⟩:=Nt k hk;rw [nY _ _ _ (fun x hx=>(rng x (UV hx)).1) (by rw [IR];omega),show ((fr[k]!).toNat:Int)=fr[k]! by omega,rep,acJ] at c3;exact of_decide_eq_false c3
 have nd:fr.Nodup:=bq.2 fun i j nJ hj he=>g2 j hj (cH.2 ⟨i,nJ,by omega,he⟩)
 have fl: ∀i,i<aiD ay->(marks (ut (aiD ay) aiN) fr)[i]! =aiP ((i:Int)∈fr):=by intro i hi;rw [nY _ _ _ (fun x hx=>(rng x hx).1) (by rw [IR];omega),rep,acJ]
 by_cases hx:(∀i,i<aiD ay->0<=ay[i]!/\ay[i]!<=1000000/\be[i]!≠(marks (ut (aiD ay) aiN) fr)[i]!/\(be[i]! =aiL->1<=ay[i]!))
 · rw [lm hx,lm]
   refine ⟨by show 1<=aiD ay;omega,by show (aiD ay)<=200;omega,a3,rng,nd,fun i hi=>?_,fun i hi=>?_⟩
   · have:=(hx i hi).2.2.1
     rw [fl i hi] at this;dsimp only;cases h:be[i]! with
     |true=>rw [h] at this;refine ⟨fun _ hm=>?_,fun _=>rfl⟩;rw [aJ hm] at this;exact this rfl
     |false=>rw [h] at this;refine ⟨fun h=>(by cases h),fun hm=>?_⟩;rw [aF hm] at this;exact absurd rfl this
   have:=hx i hi
   exact ⟨this.1,this.2.1,this.2.2.2⟩
 rw [ls hx,ls]
 intro ok;refine hx fun i hi=>?_
 obtain ⟨u1,u2,u3⟩:=ok.us i hi;refine ⟨u1,u2,?_,u3⟩;rw [fl i hi];have:=ok.uf i hi;dsimp only at this;intro he
 by_cases hm:(i:Int)∈fr
 · rw [aJ hm] at he;exact (this.1 he) hm
 rw [aF hm] at he
 have:=this.2 hm;rw [he] at this;cases this
structure yJ (a:aI):Prop where
 fr:(aiD a.af.bi)<=1000000
 hp:(aiD a.bv)<=1000000
 wh:(aiD a.aj)<=1000000
 Nx: ∀w,w<aiD a.bv->jW ((a.bv[w]!).1,(a.bv[w]!).2.1)
structure eY (a:aI):Prop where
 so:eX a.af
 wl:(aiD a.aj)=aiD a.af.ay
 hl:(aiD a.bv)+aiD a.af.bi=aiD a.af.ay
 fwd: ∀i,i<aiD a.af.ay->a.af.be[i]! =aiL->0<=a.aj[i]!/\a.aj[i]!<aiD a.bv/\(Ev.ix a.bv[(a.aj[i]!).toNat]!)=i/\(a.bv[(a.aj[i]!).toNat]!).2.2.2.2=a.af.ay[i]!
 un: ∀i,i<aiD a.af.ay->a.af.be[i]! =aiN->a.aj[i]! = -1
 ev: ∀w,w<aiD a.bv->pO a.bv[w]!
 nd: ∀v w,v<w->w<aiD a.bv->(Ev.num a.bv[v]!)≠(Ev.num a.bv[w]!)
 ord: ∀k,0<k->k<aiD a.bv-> ¬less a.bv[k]! a.bv[(k-1) / 2]!
theorem cover: ∀(n:Nat) (l:List Nat),(∀x,x<n->x∈l)->n<=aiD l
 |0,_,_=>Nat.zero_le _
 |n+1,l,h=>by have hn:=h n (by omega);have:=cover n (l.erase n) (fun x hx=>by rw [List.mem_erase_of_ne (by omega)];exact h x (by omega));rw [List.length_erase_of_mem hn] at this;have:=List.length_pos_of_mem hn;omega
def HO (s:aQ):List Nat:=(List.range (aiD s.ay)).filter fun i=>s.be[i]!
theorem zz {s:aQ} {i:Nat}:i∈HO s↔i<aiD s.ay/\s.be[i]! =aiL:=by unfold HO;rw [ado,List.mem_range]
theorem zA {α β:Type} {f:α->β}: ∀{l:List α},l.Nodup->(∀x∈l,∀y∈l,f x=f y->x=y)->(l.map f).Nodup
 | [],_,_=>by simp
 |a::l,h,hf=>by rw [abL] at h;rw [List.map_cons,abL];refine ⟨?_,zA h.2 fun x hx y hy=>hf x (by simp [hx]) y (by simp [hy])⟩;intro hm;obtain ⟨b,hb,e⟩:=PP.1 hm;have:=hf b (by simp [hb]) a (by simp) e;subst this;exact h.1 hb
theorem eY.back {a:aI} (ok:eY a) {w:Nat} (hw:w<aiD a.bv):0<=(Ev.ix a.bv[w]!)/\(Ev.ix a.bv[w]!)<aiD a.af.ay/\a.af.be[(Ev.n a.bv[w]!)]! =aiL/\a.af.ay[(Ev.n a.bv[w]!)]! =(a.bv[w]!).2.2.2.2/\a.aj[(Ev.n a.bv[w]!)]! =(w:Int):=by
 have so:=ok.so;have len:(aiD a.af.ay)<=(HO a.af).length+(aiD a.af.bi):=by
  have:=cover (aiD a.af.ay) (HO a.af++a.af.bi.map aig) (fun x hx=>by
   rw [acl]
   by_cases hu:a.af.be[x]! =aiL
   · exact .inl (zz.2 ⟨hx,hu⟩)
   right
   have:=so.uf x hx;have hm:(x:Int)∈a.af.bi:=EQ fun hc=>hu (this.2 hc)
   exact PP.2 ⟨_,hm,by omega⟩)
  rw [List.length_append,abM] at this;exact this
 have f0: ∀i∈HO a.af,0<=a.aj[i]!/\a.aj[i]!<aiD a.bv/\(Ev.ix a.bv[(a.aj[i]!).toNat]!)=i/\(a.bv[(a.aj[i]!).toNat]!).2.2.2.2=a.af.ay[i]!:=fun i hi=>ok.fwd i (zz.1 hi).1 (zz.1 hi).2
 have full:=Dz (n:=aiD a.bv) (l:=(HO a.af).map fun i=>(a.aj[i]!).toNat) (by
  refine zA ?_ ?_
  · exact List.Pairwise.filter _ List.nodup_range
  · intro x hx y hy he
    have h1:=(f0 x hx).2.2.1;have h2:=(f0 y hy).2.2.1;rw [he] at h1;omega) (by
  intro x hx;obtain ⟨i,hi,rfl⟩:=PP.1 hx;have:=f0 i hi;omega) (by
  rw [abM];have:=ok.hl;omega) w hw
 obtain ⟨i,hi,e⟩:=PP.1 full;obtain ⟨c1,c2,c3,c4⟩:=f0 i hi;obtain ⟨d1,d2⟩:=zz.1 hi;rw [e] at c3 c4;have hn:(Ev.n a.bv[w]!)=i:=by show ((Ev.ix a.bv[w]!)).toNat=i;omega
 rw [hn];refine ⟨by omega,by omega,d2,c4.symm,by omega⟩
noncomputable def Ny (x y:Ev):Int:=if bA (x.1,x.2.1)/\bA (y.1,y.2.1) then F6 x y else jX x.2.2.1 y.2.2.1
theorem AO {x y:Ev} (hx:jW (x.1,x.2.1)) (hy:jW (y.1,y.2.1)):cw x y=aiH (Ny x y):=by
 unfold cw Ny F6;rw [CR hx hy]
 by_cases h:bA (x.1,x.2.1)/\bA (y.1,y.2.1)
 · rw [lm h,lm h]
   simp only [aq,kH,zw]
 rw [ls h,ls h]
 simp only [aq,kH,zw];simp
def Gb (a:aI) (i:Nat):Prop:=(a.af.be[i]! =aiL->0<=a.aj[i]!/\a.aj[i]!<aiD a.bv/\(Ev.ix a.bv[(a.aj[i]!).toNat]!)=i/\(a.bv[(a.aj[i]!).toNat]!).2.2.2.2=a.af.ay[i]!)/\(a.af.be[i]! =aiN->a.aj[i]! = -1)
def G1 (H:List Ev) (k:Nat):Prop:=bA ((H[k]!).1,(H[k]!).2.1)/\0<=(H[k]!).2.2.1/\(H[k]!).2.2.1<=1000000/\(∀j,j<k->(H[j]!).2.2.1≠(H[k]!).2.2.1)/\(0<k-> ¬Ny H[k]! H[(k-1) / 2]!<0)
theorem eY.of {a:aI} (fit:yJ a) (so:eX a.af) (wl:(aiD a.aj)=aiD a.af.ay) (hl:(aiD a.bv)+aiD a.af.bi=aiD a.af.ay) (wh: ∀i,i<aiD a.af.ay->Gb a i) (hp: ∀k,k<aiD a.bv->G1 a.bv k):eY a:=by
 have ev: ∀w,w<aiD a.bv->pO a.bv[w]!:=fun w hw=>⟨(hp w hw).1,fit.Nx w hw,(hp w hw).2.1,(hp w hw).2.2.1⟩
 refine ⟨so,wl,hl,fun i hi=>(wh i hi).1,fun i hi=>(wh i hi).2,ev,fun v w hv hw=>(hp w hw).2.2.2.1 v hv,fun k k0 hk=>?_⟩;have:=(hp k hk).2.2.2.2 k0;unfold Ny at this;rw [lm ⟨(hp k hk).1,(hp ((k-1) / 2) (by omega)).1⟩,BL] at this;exact this
theorem eY.to {a:aI} (ok:eY a):(∀i,i<aiD a.af.ay->Gb a i)/\(∀k,k<aiD a.bv->G1 a.bv k):=by refine ⟨fun i hi=>⟨ok.fwd i hi,ok.un i hi⟩,fun k hk=>?_⟩;have e:=ok.ev k hk;refine ⟨e.1,e.2.2.1,e.2.2.2,fun j hj=>ok.nd j k hj hk,fun k0=>?_⟩;unfold Ny;rw [lm ⟨e.1,(ok.ev ((k-1) / 2) (by omega)).1⟩,BL];exact ok.ord k k0 hk
theorem HP (H:List Ev) (k:Nat) (n:Int):ov [n] ((H.take k).map fun x=>[x.2.2.1])=aiL:=by unfold ov;rw [List.all_eq_true];intro x hx;obtain ⟨y,hy,rfl⟩:=PP.1 hx;rfl
theorem HQ (H:List Ev) (k:Nat) (n:Int):DP ((H.take k).map fun x=>[x.2.2.1]) [n]=aiP (∃j,j<k/\j<aiD H/\(H[j]!).2.2.1=n):=by
 unfold DP;rw [Bool.eq_iff_iff,List.any_eq_true,decide_eq_true_iff];constructor
 · rintro ⟨x,hx,he⟩
   obtain ⟨y,hy,rfl⟩:=PP.1 hx;obtain ⟨j,h1,h2,rfl⟩:=cH.1 hy;have:[n]=[(H[j]!).2.2.1]:=by simpa using he
   exact ⟨j,h1,h2,by injection this with h;exact h.symm⟩
 rintro ⟨j,h1,h2,h3⟩
 refine ⟨[(H[j]!).2.2.1],PP.2 ⟨H[j]!,cH.2 ⟨j,h1,h2,rfl⟩,rfl⟩,?_⟩;rw [h3];simp
theorem Jj (H:List Ev) (u fr W:List Int) (us:List Bool) (hl:(aiD H)<=1000000) (jl: ∀w,w<aiD H->jW ((H[w]!).1,(H[w]!).2.1)):
 ((∀k,k<aiD H->G1 H k)->aB jq (H,((aiD H):Int),0,u,us,fr,H,W,[])=aiH (.done 0))/\(¬(∀k,k<aiD H->G1 H k)->aB jq (H,((aiD H):Int),0,u,us,fr,H,W,[])=aiH (.done 8)):=by
 have key:=db (body:=jq) (fun k=>(H,((aiD H):Int),(k:Int),u,us,fr,H,W,(H.take k).map fun x=>[x.2.2.1])) (aiD H) (fun k=> ¬G1 H k) (r:= .done 8) (e:= .done 0) (fun k hk=>by
  have e1:aiP ((k:Int)<((aiD H):Int))=aiL:=aJ (by omega);have ins: ∀n:Int,¬(∃j,j<k/\j<aiD H/\(H[j]!).2.2.1=n)->Kw ((H.take k).map fun x=>[x.2.2.1]) [n]=aiH (((H.take k).map fun x=>[x.2.2.1])++[[n]]):=by intro n hn;unfold Kw ME;rw [HP,HQ,aF hn];rfl
  have has: ∀n:Int,Kv ((H.take k).map fun x=>[x.2.2.1]) [n]=aiH (aiP (∃j,j<k/\j<aiD H/\(H[j]!).2.2.1=n)):=by intro n;unfold Kv;rw [HP,HQ];rfl
  have nx:(H.take (k+1)).map (fun x=>[x.2.2.1])=((H.take k).map fun x=>[x.2.2.1])++[[(H[k]!).2.2.1]]:=by rw [fv hk,List.map_append];rfl
  unfold jq;simp only [e1,kw,ar H k hk,aq,dD (jl k hk),aY (show k<1000000000 by omega),has,nx];unfold G1
  by_cases b1:bA ((H[k]!).1,(H[k]!).2.1)
  case neg=>rw [ls b1];exact ⟨fun _=>rfl,fun h=>absurd (rc.1 h).1 b1⟩
  rw [lm b1]
  by_cases b2:(H[k]!).2.2.1<0
  · rw [aJ b2]
    exact ⟨fun _=>rfl,fun h=>absurd (rc.1 h).2.1 (by omega)⟩
  by_cases b3:1000000<(H[k]!).2.2.1
  · rw [aF b2,aJ b3]
    exact ⟨fun _=>rfl,fun h=>absurd (rc.1 h).2.2.1 (by omega)⟩
  rw [aF b2,aF b3]
  by_cases b4: ∃j,j<k/\j<aiD H/\(H[j]!).2.2.1=(H[k]!).2.2.1
  · rw [aJ b4]
    refine ⟨fun _=>rfl,fun h=>?_⟩;obtain ⟨j,j1,j2,j3⟩:=b4;exact absurd j3 ((rc.1 h).2.2.2.1 j j1)
  rw [aF b4,ins _ b4];have b4': ∀j,j<k->(H[j]!).2.2.1≠(H[k]!).2.2.1:=fun j hj he=>b4 ⟨j,hj,by omega,he⟩
  simp only [show ((0:Int) !=0)=aiN from rfl,lc,aq]
  by_cases b5:0<k
  · obtain ⟨m,rfl⟩: ∃m,k=m+1:=⟨k-1,by omega⟩
    have f1:aiP ((0:Int)<((m+1:Nat):Int))=aiL:=aJ (by omega);simp only [f1,kw,rE (show m<1000000000 by omega),ar H (m / 2) (by omega),aq,AO (jl (m+1) hk) (jl (m / 2) (by omega)),show (m+1-1) / 2=m / 2 by omega]
    by_cases b6:Ny H[m+1]! H[m / 2]!<0
    · rw [aJ b6]
      exact ⟨fun _=>rfl,fun h=>absurd b6 ((rc.1 h).2.2.2.2 (by omega))⟩
    rw [aF b6]
    exact ⟨fun h=>absurd ⟨b1,by omega,by omega,b4',fun _=>b6⟩ h,fun _=>rfl⟩
  · have f1:aiP ((0:Int)<(k:Int))=aiN:=aF (by omega)
    rw [f1];exact ⟨fun h=>absurd ⟨b1,by omega,by omega,b4',fun h=>absurd h b5⟩ h,fun _=>rfl⟩) (by
  unfold jq;have:aiP (((aiD H):Int)<((aiD H):Int))=aiN:=aF (by omega);simp only [this,lc])
 constructor
 · intro h
   exact key.2 fun i hi=>rc.2 (h i hi)
 intro h
 obtain ⟨i,h⟩:=AC.1 h;obtain ⟨hi,hx⟩:=abI.1 h;exact key.1 ⟨i,hi,hx⟩
end Go.Proofs.YtfejhjllooomlaaGreat
