/- Plain laws (1). -/
import Derived.Test.YtmlghnibpjlchabZVm2
import Derived.Test.YtmlghnibpjlchabZVm1
import Derived.Test.YtmlghnibpjlchabZQS1
namespace Go.Proofs.Ytmlghnibpjlchab
open Go.Vm
abbrev I64 (n:Int):Prop:= -9223372036854775808<=n/\n<9223372036854775808
abbrev U64 (n:Int):Prop:=0<=n/\n<18446744073709551616
theorem wi (n:Int):wrapF .i64 n=(n+9223372036854775808)%18446744073709551616-9223372036854775808:=by
 rw [wrapF_eq];simp only [IntKind.wrap,IntKind.bits,IntKind.signed,Bool.true_and];have e1:(2:Int)^64=18446744073709551616:=by decide
 have e2:(2:Int)^(64-1)=9223372036854775808:=by decide
 simp only [e1,e2,decide_eq_true_eq];split<;>omega
theorem wu (n:Int):wrapF .u64 n=n%18446744073709551616:=by
 rw [wrapF_eq];simp only [IntKind.wrap,IntKind.bits,IntKind.signed,Bool.false_and];have e1:(2:Int)^64=18446744073709551616:=by decide
 simp only [e1];simp
theorem wi_id {n:Int} (h:I64 n):wrapF .i64 n=n:=by rw [wi];omega
theorem wu_id {n:Int} (h:U64 n):wrapF .u64 n=n:=by rw [wu];omega
theorem bne_t {a b:Int} (h:a≠b):(a !=b)=true:=by simpa using h
theorem bne_f {a b:Int} (h:a=b):(a !=b)=false:=by simpa using h
theorem beq_t {a b:Int} (h:a=b):(a==b)=true:=by simpa using h
theorem beq_f {a b:Int} (h:a≠b):(a==b)=false:=by simpa using h
theorem beq_dec (a b:Int):(a==b)=decide (a=b):=by
 by_cases h:a=b
 · rw [beq_t h,decide_eq_true h]
 · rw [beq_f h,decide_eq_false h]
theorem lt_or_ge (a b:Int):a<b\/b<=a:=by omega
theorem bShr32 (a:Int):bShr .u64 a 32=a / 4294967296:=by
 unfold bShr;rw [show (min (32:Int).toNat (IntKind.bits .u64))=32 from by decide,show (2:Int)^32=4294967296 from by decide]
 exact Int.fdiv_eq_ediv_of_nonneg _ (by decide)
theorem bAnd32 {a:Int} (h:U64 a):bAnd .u64 a 4294967295=a%4294967296:=by
 obtain ⟨n,rfl⟩:=Int.eq_ofNat_of_zero_le h.1;unfold bAnd;have e:(BitVec.ofInt (IntKind.bits .u64) (n:Int)&&&BitVec.ofInt (IntKind.bits .u64) 4294967295).toNat=n%4294967296:=by
  rw [BitVec.toNat_and];have e1:(BitVec.ofInt (IntKind.bits .u64) (n:Int)).toNat=n:=by
   rw [BitVec.toNat_ofInt]
   have:((2^(IntKind.bits .u64):Nat):Int)=18446744073709551616:=by decide
   rw [this];omega
  have e2:(BitVec.ofInt (IntKind.bits .u64) (4294967295:Int)).toNat=2^32-1:=by decide
  rw [e1,e2,Nat.and_two_pow_sub_one_eq_mod]
 rw [e]
 have:=wu ((n%4294967296:Nat):Int)
 rw [wrapF_eq] at this;rw [this];omega
theorem half_eq {a b:Nat} (ha:a<1000000000) (hb:b<1000000000):wrapF .i64 (bShr .u64 (wrapF .u64 (wrapF .i64 ((a:Int)+(b:Int)))) 1)=(((a+b) / 2:Nat):Int):=by
 unfold bShr;rw [show (min (1:Int).toNat (IntKind.bits .u64))=1 from by decide,show (2:Int)^1=2 from by decide,Int.fdiv_eq_ediv_of_nonneg _ (by decide),wi (_+_),wu,wi]
 omega
section
variable {σ ρ : Type} {body : σ -> Option (Step σ ρ)}
theorem while_steps (st:Nat->σ) (n:Nat) (h: ∀i,i<n->body (st i)=some (.next (st (i+1)))):whileO body (st 0)=whileO body (st n):=by
 induction n with
 |zero=>rfl
 |succ n ih=>
  rw [ih fun i hi=>h i (by omega)]
  exact whileO_next (h n (by omega))
theorem while_any (st:Nat->σ) (n:Nat) (c:Nat->Prop) {r e:ρ} (h: ∀i,i<n->(c i->body (st i)=some (.done r))/\(¬c i->body (st i)=some (.next (st (i+1)))))
 (hend:body (st n)=some (.done e)):((∃i,i<n/\c i)->whileO body (st 0)=some r)/\((∀i,i<n-> ¬c i)->whileO body (st 0)=some e):=by
 constructor
 · rintro ⟨i,hi,hc⟩
   have key: ∀k,k<=n->(∃i,i<n/\n-k<=i/\c i)->whileO body (st (n-k))=some r:=by
    intro k
    induction k with
    |zero=>rintro _ ⟨i,h1,h2,_⟩;omega
    |succ k ih=>
     rintro hk ⟨i,h1,h2,h3⟩
     by_cases hc:c (n- (k+1))
     · exact whileO_done ((h _ (by omega)).1 hc)
     · rw [whileO_next ((h _ (by omega)).2 hc),show n- (k+1)+1=n-k by omega]
       refine ih (by omega) ⟨i,h1,?_,h3⟩
       by_cases he:i=n- (k+1)
       · subst he;exact absurd h3 hc
       · omega
   have:=key n (Nat.le_refl n) ⟨i,hi,by omega,hc⟩
   rwa [Nat.sub_self] at this
 · intro hn
   rw [while_steps st n fun i hi=>(h i hi).2 (hn i hi)]
   exact whileO_done hend
theorem least {c:Nat->Prop}: ∀{n:Nat},(∃i,i<n/\c i)-> ∃k,k<n/\c k/\ ∀j,j<k-> ¬c j
 |0,h=>by obtain ⟨i,hi,_⟩:=h;omega
 |n+1,h=>by
  by_cases hx: ∃i,i<n/\c i
  · obtain ⟨k,h1,h2,h3⟩:=least hx
    exact ⟨k,by omega,h2,h3⟩
  · obtain ⟨i,hi,hc⟩:=h
    refine ⟨i,hi,hc,fun j hj hcj=>hx ⟨j,by omega,hcj⟩⟩
theorem while_first (st:Nat->σ) (n:Nat) (c:Nat->Prop) (r:Nat->ρ) {e:ρ} (h: ∀i,i<n->(c i->body (st i)=some (.done (r i)))/\(¬c i->body (st i)=some (.next (st (i+1)))))
 (hend:body (st n)=some (.done e)):(∀k,k<n->c k->(∀j,j<k-> ¬c j)->whileO body (st 0)=some (r k))/\((∀i,i<n-> ¬c i)->whileO body (st 0)=some e):=by
 constructor
 · intro k hk hc hj
   rw [while_steps st k fun i hi=>(h i (by omega)).2 (hj i hi)]
   exact whileO_done ((h k hk).1 hc)
 · intro hn
   rw [while_steps st n fun i hi=>(h i hi).2 (hn i hi)]
   exact whileO_done hend
theorem while_bin (st:Nat->Nat->σ) (n m:Nat) (c:Nat->Prop)
 (h: ∀lo hi,lo<hi->hi<=n->(c ((lo+hi) / 2)->body (st lo hi)=some (.next (st ((lo+hi) / 2+1) hi)))/\(¬c ((lo+hi) / 2)->body (st lo hi)=some (.next (st lo ((lo+hi) / 2)))))
 (h1: ∀i,i<m->c i) (h2: ∀i,m<=i->i<n-> ¬c i): ∀d lo hi,hi-lo<=d->lo<=m->m<=hi->hi<=n->whileO body (st lo hi)=whileO body (st m m)
 |0,lo,hi,hd,a,b,_=>by
  have e1:lo=m:=by omega
  have e2:hi=m:=by omega
  rw [e1,e2]
 |d+1,lo,hi,hd,a,b,e=>by
  by_cases hl:lo<hi
  · by_cases hc:c ((lo+hi) / 2)
    · rw [whileO_next ((h lo hi hl e).1 hc)]
      refine while_bin st n m c h h1 h2 d _ _ (by omega) ?_ b e
      refine Classical.byContradiction fun hx=>?_
      exact h2 ((lo+hi) / 2) (by omega) (by omega) hc
    · rw [whileO_next ((h lo hi hl e).2 hc)]
      refine while_bin st n m c h h1 h2 d _ _ (by omega) a ?_ (by omega)
      refine Classical.byContradiction fun hx=>?_
      exact hc (h1 ((lo+hi) / 2) (by omega))
  · have e1:lo=m:=by omega
    have e2:hi=m:=by omega
    rw [e1,e2]
theorem while_inv {P:σ->Prop} (m:σ->Nat) (x:σ) (h0:P x) (hs: ∀y,P y->(∃r,body y=some (.done r))\/ ∃z,body y=some (.next z)/\P z/\m z<m y): ∃r,whileO body x=some r:=by
 generalize hn:m x=n
 induction n using Nat.strongRecOn generalizing x with
 |ind n ih=>
  rcases hs x h0 with ⟨r,hr⟩|⟨z,hz,hp,hm⟩
  · exact ⟨r,whileO_done hr⟩
  · rw [whileO_next hz]
    exact ih (m z) (by omega) z hp rfl
end
section
variable {α : Type} [Inhabited α]
theorem geti_nat (l:List α) (n:Nat) (h:n<l.length):geti l (n:Int)=some l[n]!:=by
 show l[n]? =some l[n]!;rw [List.getElem?_eq_getElem h,getElem!_pos l n h]
theorem geti_int {l:List α} {i:Int} (h0:0<=i) (h:i<l.length):geti l i=some l[i.toNat]!:=by
 obtain ⟨n,rfl⟩:=Int.eq_ofNat_of_zero_le h0;exact geti_nat l n (by omega)
theorem geti_bad {β:Type} {l:List β} {i:Int} (h:i<0\/(l.length:Int)<=i):geti l i=none:=by
 unfold geti;split
 · rename_i n
   have e:Int.ofNat n=(n:Int):=rfl;rw [e] at h;rw [List.getElem?_eq_none_iff];omega
 · rfl
theorem seti_nat {β:Type} (l:List β) (n:Nat) (a:β):seti l (n:Int) a=l.set n a:=rfl
theorem bang_set (l:List α) (n m:Nat) (a:α):(l.set n a)[m]! =if m=n/\n<l.length then a else l[m]!:=by
 by_cases hm:m<l.length
 · rw [getElem!_pos (l.set n a) m (by simpa using hm),getElem!_pos l m hm,List.getElem_set]
   split
   · rw [if_pos (by omega)]
   · rw [if_neg (by omega)]
 · rw [getElem!_neg (l.set n a) m (by simpa using hm),getElem!_neg l m hm]
   split
   · omega
   · rfl
theorem mem_bang {l:List α} {x:α}:x∈l↔ ∃i,i<l.length/\l[i]! =x:=by
 rw [List.mem_iff_getElem];constructor
 · rintro ⟨i,h,rfl⟩;exact ⟨i,h,getElem!_pos l i h⟩
 · rintro ⟨i,h,rfl⟩;exact ⟨i,h,(getElem!_pos l i h).symm⟩
theorem bang_mem {l:List α} {i:Nat} (h:i<l.length):l[i]!∈l:=mem_bang.2 ⟨i,h,rfl⟩
theorem bang_app_left {l m:List α} {i:Nat} (h:i<l.length):(l++m)[i]! =l[i]!:=by
 rw [getElem!_pos (l++m) i (by simp;omega),getElem!_pos l i h,List.getElem_append_left h]
theorem bang_app_right {l m:List α} {i:Nat} (h:l.length<=i):(l++m)[i]! =m[i-l.length]!:=by
 by_cases hi:i<l.length+m.length
 · rw [getElem!_pos (l++m) i (by simp;omega),getElem!_pos m (i-l.length) (by omega),List.getElem_append_right h]
 · rw [getElem!_neg (l++m) i (by simp;omega),getElem!_neg m (i-l.length) (by omega)]
theorem bang_take {l:List α} {n i:Nat} (h:i<n):(l.take n)[i]! =l[i]!:=by
 by_cases hi:i<l.length
 · rw [getElem!_pos (l.take n) i (by simp;omega),getElem!_pos l i hi,List.getElem_take]
 · rw [getElem!_neg (l.take n) i (by simp;omega),getElem!_neg l i hi]
theorem bang_drop {l:List α} {n i:Nat}:(l.drop n)[i]! =l[n+i]!:=by
 by_cases hi:n+i<l.length
 · rw [getElem!_pos (l.drop n) i (by simp;omega),getElem!_pos l (n+i) hi,List.getElem_drop]
 · rw [getElem!_neg (l.drop n) i (by simp;omega),getElem!_neg l (n+i) hi]
theorem ext_bang {l m:List α} (hl:l.length=m.length) (h: ∀i,i<l.length->l[i]! =m[i]!):l=m:=by
 apply List.ext_getElem hl;intro i h1 h2
 have:=h i h1
 rwa [getElem!_pos l i h1,getElem!_pos m i h2] at this
theorem split_at {l:List α} {i:Nat} (h:i<l.length):l=l.take i++l[i]!::l.drop (i+1):=by
 rw [getElem!_pos l i h,List.getElem_cons_drop,List.take_append_drop]
end
theorem cloneO_le {α:Type} {l:List α} (h:l.length<=1048576):cloneO l=some l:=by unfold cloneO;rw [if_pos h]
theorem appendO_le {α:Type} {l m:List α} (h:l.length+m.length<=1048576):appendO l m=some (l++m):=by unfold appendO;rw [if_pos h]
@[simp] theorem bindS {α β:Type} (a:α) (f:α->Option β):(some a).bind f=f a:=rfl
end Go.Proofs.Ytmlghnibpjlchab
namespace Go.Proofs.Ytmlghnibpjlchab
def heldL (l:List Int):List Int:=l.filter fun x=>decide (0<=x)
theorem heldL_app (a b:List Int):heldL (a++b)=heldL a++heldL b:=List.filter_append ..
theorem heldL_cons_pos {x:Int} (h:0<=x) (l:List Int):heldL (x::l)=x::heldL l:=by
 unfold heldL;rw [List.filter_cons_of_pos (by simpa using h)]
theorem heldL_cons_neg {x:Int} (h:x<0) (l:List Int):heldL (x::l)=heldL l:=by
 unfold heldL;rw [List.filter_cons_of_neg (by simpa using h)]
theorem heldL_mem {l:List Int} {x:Int}:x∈heldL l↔x∈l/\0<=x:=by
 unfold heldL;rw [List.mem_filter];simp
theorem heldL_le (l:List Int):(heldL l).length<=l.length:=List.length_filter_le ..
theorem heldL_rep (n:Nat):heldL (List.replicate n (-1))=[]:=by
 unfold heldL;rw [List.filter_eq_nil_iff];intro x hx;rw [(List.mem_replicate.1 hx).2];decide
theorem heldL_all {l:List Int} (h: ∀i,i<l.length-> ¬l[i]!<0):heldL l=l:=by
 unfold heldL;rw [List.filter_eq_self];intro x hx;obtain ⟨i,hi,e⟩:=mem_bang.1 hx
 have:=h i hi
 rw [e] at this;simpa using this
theorem heldL_lt {l:List Int} {k:Nat} (hk:k<l.length) (hn:l[k]!<0):(heldL l).length<l.length:=by
 have e:=split_at hk;have h1:=heldL_le (l.take k);have h2:=heldL_le (l.drop (k+1));have h3:(heldL l).length=(heldL (l.take k)).length+(heldL (l.drop (k+1))).length:=by
  conv=>lhs;rw [e]
  rw [heldL_app,heldL_cons_neg hn,List.length_append]
 have h4:l.length=(l.take k).length+((l.drop (k+1)).length+1):=by
  conv=>lhs;rw [e]
  rw [List.length_append,List.length_cons]
 omega
theorem held_set {l:List Int} {k:Nat} (hk:k<l.length) (hn:l[k]!<0) {x:Int} (hx:0<=x):(heldL (l.set k x)).Perm (x::heldL l):=by
 have e:l.set k x=l.take k++x::l.drop (k+1):=List.set_eq_take_append_cons_drop .. |>.trans (by rw [if_pos hk])
 have e2:heldL l=heldL (l.take k)++heldL (l.drop (k+1)):=by
  conv=>lhs;rw [split_at hk]
  rw [heldL_app,heldL_cons_neg hn]
 rw [e,e2,heldL_app,heldL_cons_pos hx];exact List.perm_middle
theorem held_more {l:List Int} {x:Int} (hx:0<=x) (m:Nat):(heldL (l++[x]++List.replicate m (-1))).Perm (x::heldL l):=by
 rw [heldL_app,heldL_app,heldL_rep,List.append_nil,heldL_cons_pos hx];exact List.perm_append_singleton ..
theorem held_map (x:Int): ∀(l:List Int),heldL (l.map fun y=>if y=x then -1 else y)=(heldL l).filter fun y=>decide (y≠x)
 | []=>rfl
 |y::l=>by
  have ih:=held_map x l;rw [List.map_cons]
  by_cases h:y=x
  · rw [if_pos h,heldL_cons_neg (by decide),ih]
    by_cases h0:0<=y
    · rw [heldL_cons_pos h0,List.filter_cons_of_neg (by simpa using h)]
    · rw [heldL_cons_neg (by omega)]
  · rw [if_neg h]
    by_cases h0:0<=y
    · rw [heldL_cons_pos h0,heldL_cons_pos h0,ih,List.filter_cons_of_pos (by simpa using h)]
    · rw [heldL_cons_neg (by omega),heldL_cons_neg (by omega),ih]
theorem nodup_less {l:List Int} (h:l.Nodup) {x:Int} (hx:x∈l):(l.filter fun y=>decide (y≠x)).length=l.length-1:=by
 have e:(l.filter fun y=>decide (y≠x))=l.erase x:=by
  rw [h.erase_eq_filter]
  congr 1
  funext y
  by_cases h:y=x<;>simp [h]
 rw [e,List.length_erase_of_mem hx]
structure PlOK (l:List Int) (s n b:Nat):Prop where
 len:l.length=s
 cnt:(heldL l).length=n
 nd:(heldL l).Nodup
 lt: ∀x∈heldL l,x<b
 pos:1<=s
theorem PlOK.start:PlOK [-1] 1 0 0:=⟨rfl,rfl,by decide,by decide,by decide⟩
theorem PlOK.le {l:List Int} {s n b:Nat} (h:PlOK l s n b):n<=s:=by have:=heldL_le l;have:=h.len;have:=h.cnt;omega
theorem PlOK.perm {l m:List Int} {s n b s':Nat} (h:PlOK l s n b) (hp:(heldL m).Perm ((b:Int)::heldL l)) (hl:m.length=s') (h1:1<=s'):PlOK m s' (n+1) (b+1) where
 pos:=h1
 len:=hl
 cnt:=by rw [hp.length_eq,List.length_cons,h.cnt]
 nd:=by
  rw [hp.nodup_iff,List.nodup_cons];exact ⟨fun k=>by have:=h.lt _ k;omega,h.nd⟩
 lt:=fun x hx=>by
  rcases List.mem_cons.1 (hp.mem_iff.1 hx) with e|e
  · rw [e];omega
  · have:=h.lt _ e;omega
theorem PlOK.less {l m:List Int} {s n b s':Nat} (h:PlOK l s n b) {x:Int} (hx:x∈heldL l) (hm:heldL m=(heldL l).filter fun y=>decide (y≠x)) (hl:m.length=s') (h1:1<=s'):PlOK m s' (n-1) (b+1) where
 pos:=h1
 len:=hl
 cnt:=by rw [hm,nodup_less h.nd hx,h.cnt]
 nd:=by rw [hm];exact h.nd.filter _
 lt:=fun y hy=>by
  rw [hm] at hy
  have:=h.lt _ (List.mem_filter.1 hy).1
  omega
theorem PlOK.later {l:List Int} {s n b:Nat} (h:PlOK l s n b):PlOK l s n (b+1):=⟨h.len,h.cnt,h.nd,fun x hx=>by have:=h.lt x hx;omega,h.pos⟩
end Go.Proofs.Ytmlghnibpjlchab
namespace Go.Proofs.Ytmlghnibpjlchab
open Go.Vm
theorem dec_tS {p:Prop} [Decidable p] (h:p):decide p=true:=decide_eq_true h
theorem dec_fS {p:Prop} [Decidable p] (h: ¬p):decide p=false:=decide_eq_false h
theorem bindSS {α β:Type} (a:α) (f:α->Option β):(some a).bind f=f a:=rfl
theorem wi_sucS {n:Nat} (h:n<1000000000):wrapF .i64 ((n:Int)+1)=((n+1:Nat):Int):=by rw [wi_id ⟨by omega,by omega⟩];omega
theorem ofNat_eqS (n:Nat):Int.ofNat n=(n:Int):=rfl
theorem takeS {α:Type} [Inhabited α] {l:List α} {k:Nat} (h:k<l.length):l.take (k+1)=l.take k++[l[k]!]:=by
 rw [List.take_add_one,List.getElem?_eq_getElem h,getElem!_pos l k h];rfl
theorem held_eq (l:List Int) (hl:l.length<=1000000):ref23_held l=some ((heldL l).length:Int):=by
 unfold ref23_held;have key:=while_steps (body:=ref23_held_l1) (fun i=>(l,((heldL (l.take i)).length:Int),(i:Int))) l.length (fun i hi=>by
  unfold ref23_held_l1;have hle:(heldL (l.take i)).length<=1000000:=by
   have:=heldL_le (l.take i)
   rw [List.length_take] at this;omega
  simp only [ofNat_eqS,dec_tS (show (i:Int)<(l.length:Int) by omega),cond_true,geti_nat l i hi,bindSS,wi_sucS (show i<1000000000 by omega),takeS hi,heldL_app,List.length_append]
  by_cases h:0<=l[i]!
  · rw [dec_tS h,heldL_cons_pos h]
    simp only [cond_true,wi_sucS (show (heldL (l.take i)).length<1000000000 by omega)]
    rfl
  · rw [dec_fS h,heldL_cons_neg (by omega)]
    rfl)
 have e0:((heldL (l.take 0)).length:Int)=0:=rfl;have e1:l.take l.length=l:=List.take_length;rw [e0,e1] at key;show whileO ref23_held_l1 (l,0,((0:Nat):Int))=_;rw [key];refine whileO_done ?_;unfold ref23_held_l1;simp only [ofNat_eqS,dec_fS (show¬(l.length:Int)<(l.length:Int) by omega),cond_false]
theorem With_pad (l:List Int) (x:Int) (hl:l.length<=1000) (h1:1<=l.length):whileO ref16_With_l1 (l,l++[x])=some (.done (l++[x]++List.replicate (l.length-1) (-1))):=by
 have key:=while_steps (body:=ref16_With_l1) (fun j=>(l,l++[x]++List.replicate j (-1))) (l.length-1) (fun j hj=>by
  unfold ref16_With_l1;have e:wrapF .i64 (2*(l.length:Int))=2*(l.length:Int):=wi_id ⟨by omega,by omega⟩
  simp only [ofNat_eqS,List.length_append,List.length_singleton,List.length_replicate,e];rw [dec_tS (show ((l.length+1+j:Nat):Int)<2*(l.length:Int) by omega),cond_true,appendO_le (by simp;omega),bindSS,List.append_assoc (l++[x]),<- List.replicate_succ'])
 rw [List.replicate_zero,List.append_nil] at key;rw [key];refine whileO_done ?_;unfold ref16_With_l1;have e:wrapF .i64 (2*(l.length:Int))=2*(l.length:Int):=wi_id ⟨by omega,by omega⟩
 simp only [ofNat_eqS,List.length_append,List.length_singleton,List.length_replicate,e];rw [dec_fS (show¬((l.length+1+(l.length-1):Nat):Int)<2*(l.length:Int) by omega),cond_false]
theorem With_eq {l:List Int} {s n b:Nat} (ok:PlOK l s n b) (hs:s<=1000): ∃m,ref16_With l (b:Int)=some m/\PlOK m (if n=s then 2*s else s) (n+1) (b+1):=by
 have len:=ok.len;have pos:=ok.pos;unfold ref16_With;rw [cloneO_le (by omega),bindSS]
 have key:=while_first (body:=ref16_With_l2) (fun i=>(l,(b:Int),(i:Int),l)) l.length (fun i=>l[i]!<0) (fun i=>l.set i (b:Int)) (e:=l++[(b:Int)]++List.replicate (l.length-1) (-1)) (fun i hi=>by
  unfold ref16_With_l2;simp only [ofNat_eqS,dec_tS (show (i:Int)<(l.length:Int) by omega),cond_true,geti_nat l i hi,bindSS,wi_sucS (show i<1000000000 by omega),seti_nat]
  refine ⟨fun h=>?_,fun h=>?_⟩
  · rw [dec_tS h];rfl
  · rw [dec_fS h];rfl) (by
  unfold ref16_With_l2;simp only [ofNat_eqS,dec_fS (show¬(l.length:Int)<(l.length:Int) by omega),cond_false]
  rw [appendO_le (by simp;omega),bindSS]
  exact With_pad l _ (by omega) (by omega))
 by_cases h: ∃i,i<l.length/\l[i]!<0
 · obtain ⟨k,k1,k2,k3⟩:=least h
   refine ⟨_,key.1 k k1 k2 k3,?_⟩
   have:=heldL_lt k1 k2
   have:=ok.cnt
   rw [if_neg (by omega)]
   exact ok.perm (held_set k1 k2 (by omega)) (by rw [List.length_set];exact len) pos
 · have h': ∀i,i<l.length-> ¬l[i]!<0:=fun i hi hx=>h ⟨i,hi,hx⟩
   refine ⟨_,key.2 h',?_⟩;have e:=heldL_all h'
   have:=ok.cnt
   rw [if_pos (by rw [<- this,e,len])]
   exact ok.perm (held_more (by omega) _) (by simp;omega) (by omega)
theorem Without_pad (l m:List Int) (hl:l.length<=1000) (hm:m.length<=l.length / 2):whileO ref16_Without_l1 (l,m)=some (.done (m++List.replicate (l.length / 2-m.length) (-1))):=by
 have e:wrapF .i64 (Int.tdiv (l.length:Int) 2)=((l.length / 2:Nat):Int):=by
  rw [Int.tdiv_eq_ediv_of_nonneg (by omega),wi_id ⟨by omega,by omega⟩];omega
 have key:=while_steps (body:=ref16_Without_l1) (fun j=>(l,m++List.replicate j (-1))) (l.length / 2-m.length) (fun j hj=>by
  unfold ref16_Without_l1;simp only [ofNat_eqS,List.length_append,List.length_replicate,e];rw [dec_tS (show ((m.length+j:Nat):Int)<((l.length / 2:Nat):Int) by omega),cond_true,appendO_le (by simp;omega),bindSS,List.append_assoc,<- List.replicate_succ'])
 rw [List.replicate_zero,List.append_nil] at key;rw [key];refine whileO_done ?_;unfold ref16_Without_l1;simp only [ofNat_eqS,List.length_append,List.length_replicate,e];rw [dec_fS (show¬((m.length+(l.length / 2-m.length):Nat):Int)<((l.length / 2:Nat):Int) by omega),cond_false]
theorem Without_eq {l:List Int} {s n b:Nat} (ok:PlOK l s n b) (hs:s<=1000) {x:Int} (hx:x∈heldL l): ∃m,ref16_Without l x=some m/\PlOK m (if 1<s/\4*(n-1)<=s then s / 2 else s) (n-1) (b+1):=by
 have len:=ok.len;have pos:=ok.pos;have hx0:=(heldL_mem.1 hx).2
 let g:Int->Int:=fun y=>if y=x then -1 else y
 have hg: ∀l,heldL (l.map g)=(heldL l).filter fun y=>decide (y≠x):=held_map x
 have cn:(heldL (l.map g)).length=n-1:=by rw [hg,nodup_less ok.nd hx,ok.cnt]
 have n1:1<=n:=by
  have:=List.length_pos_of_mem hx
  have:=ok.cnt
  omega
 have ns:=ok.le;unfold ref16_Without;have key:=while_steps (body:=ref16_Without_l2) (fun i=>(l,x,(i:Int),(l.take i).map g,heldL ((l.take i).map g))) l.length (fun i hi=>by
  have l1:((l.take i).map g).length<=1000:=by rw [List.length_map,List.length_take];omega
  have l2:=heldL_le ((l.take i).map g);have e:(l.take (i+1)).map g=(l.take i).map g++[g l[i]!]:=by rw [takeS hi,List.map_append];rfl
  unfold ref16_Without_l2;simp only [ofNat_eqS,dec_tS (show (i:Int)<(l.length:Int) by omega),cond_true,geti_nat l i hi,bindSS,wi_sucS (show i<1000000000 by omega),e,heldL_app]
  by_cases h:l[i]! =x
  · have eg:g l[i]! = -1:=if_pos h
    rw [beq_t h,cond_true,appendO_le (by simp only [List.length_singleton];omega),bindSS,eg,heldL_cons_neg (by decide)]
    simp only [heldL,List.filter_nil,List.append_nil]
  · have eg:g l[i]! =l[i]!:=if_neg h
    rw [beq_f h,cond_false,appendO_le (by simp only [List.length_singleton];omega),bindSS,eg]
    by_cases h0:0<=l[i]!
    · rw [dec_tS h0,cond_true,appendO_le (by simp only [List.length_singleton];omega),bindSS,heldL_cons_pos h0]
      rfl
    · rw [dec_fS h0,cond_false,heldL_cons_neg (by omega)]
      simp only [heldL,List.filter_nil,List.append_nil])
 have e1:l.take l.length=l:=List.take_length;rw [e1] at key;have start:whileO ref16_Without_l2 (l,x,0,[],[])=whileO ref16_Without_l2 (l,x,((0:Nat):Int),(l.take 0).map g,heldL ((l.take 0).map g)):=rfl;rw [start,key];have el:(l.map g).length=s:=by rw [List.length_map];exact len
 have e4:wrapF .i64 (4*((heldL (l.map g)).length:Int))=4*((heldL (l.map g)).length:Int):=wi_id ⟨by omega,by omega⟩
 have same:PlOK (l.map g) s (n-1) (b+1):=ok.less hx (hg l) el pos
 by_cases h1:l.length=1
 · refine ⟨l.map g,whileO_done ?_,?_⟩
   · unfold ref16_Without_l2
     simp only [ofNat_eqS,dec_fS (show¬(l.length:Int)<(l.length:Int) by omega),cond_false,beq_t (show (l.length:Int)=1 by omega),cond_true]
   · rw [if_neg (by omega)];exact same
 · by_cases h2:l.length<4*(heldL (l.map g)).length
   · refine ⟨l.map g,whileO_done ?_,?_⟩
     · unfold ref16_Without_l2
       simp only [ofNat_eqS,dec_fS (show¬(l.length:Int)<(l.length:Int) by omega),cond_false,beq_f (show¬(l.length:Int)=1 by omega),e4,dec_tS (show (l.length:Int)<4*((heldL (l.map g)).length:Int) by omega),cond_true]
     · rw [if_neg (by omega)];exact same
   · refine ⟨heldL (l.map g)++List.replicate (l.length / 2- (heldL (l.map g)).length) (-1),whileO_done ?_,?_⟩
     · unfold ref16_Without_l2
       simp only [ofNat_eqS,dec_fS (show¬(l.length:Int)<(l.length:Int) by omega),cond_false,beq_f (show¬(l.length:Int)=1 by omega),e4,dec_fS (show¬(l.length:Int)<4*((heldL (l.map g)).length:Int) by omega)]
       exact Without_pad l _ (by omega) (by omega)
     · rw [if_pos (by omega)]
       refine ok.less hx ?_ (by rw [List.length_append,List.length_replicate];omega) (by omega)
       rw [heldL_app,heldL_rep,List.append_nil,hg,<- hg];exact List.filter_eq_self.2 fun y hy=>(List.mem_filter.1 hy).2
end Go.Proofs.Ytmlghnibpjlchab
namespace Go.Proofs.Ytmlghnibpjlchab
open Go.Vm
def stepS (put:Bool) (q:Nat×Nat×Nat):Nat×Nat×Nat:=
 if put=true then (if q.2.1<64 then (if q.2.1=q.1 then (2*q.1,q.2.1+1,q.2.2+q.2.1) else (q.1,q.2.1+1,q.2.2)) else q)
 else (if 0<q.2.1 then (if 1<q.1/\4*(q.2.1-1)<=q.1 then (q.1 / 2,q.2.1-1,q.2.2+(q.2.1-1)) else (q.1,q.2.1-1,q.2.2)) else q)
def stAt (l:List Bool):Nat->Nat×Nat×Nat
 |0=>(1,0,0)
 |i+1=>stepS l[i]! (stAt l i)
def outL (l:List Bool):Nat->List Int
 |0=>[]
 |i+1=>outL l i++[((stAt l (i+1)).1:Int)]
theorem outL_len (l:List Bool): ∀i,(outL l i).length=i
 |0=>rfl
 |i+1=>by rw [outL,List.length_append,outL_len l i];rfl
structure StOK (q:Nat×Nat×Nat) (i:Nat):Prop where
 s1:1<=q.1
 s2:q.1<=128
 n1:q.2.1<=64
 n2:q.2.1<=q.1
 m1:q.2.2<=64*i
theorem StOK.step {q:Nat×Nat×Nat} {i:Nat} (h:StOK q i) (b:Bool):StOK (stepS b q) (i+1):=by
 obtain ⟨s,n,m⟩:=q;obtain ⟨h1,h2,h3,h4,h5⟩:=h;dsimp only at h1 h2 h3 h4 h5;unfold stepS;dsimp only;split
 · split
   · split
     · exact ⟨by dsimp only;omega,by dsimp only;omega,by dsimp only;omega,by dsimp only;omega,by dsimp only;omega⟩
     · exact ⟨by dsimp only;omega,by dsimp only;omega,by dsimp only;omega,by dsimp only;omega,by dsimp only;omega⟩
   · exact ⟨h1,h2,h3,h4,by dsimp only;omega⟩
 · split
   · split
     · exact ⟨by dsimp only;omega,by dsimp only;omega,by dsimp only;omega,by dsimp only;omega,by dsimp only;omega⟩
     · exact ⟨by dsimp only;omega,by dsimp only;omega,by dsimp only;omega,by dsimp only;omega,by dsimp only;omega⟩
   · exact ⟨h1,h2,h3,h4,by dsimp only;omega⟩
theorem stOK (l:List Bool): ∀i,StOK (stAt l i) i
 |0=>(⟨by decide,by decide,by decide,by decide,by decide⟩:StOK (1,0,0) 0)
 |i+1=>(stOK l i).step _
def szS (l:List Bool) (i:Nat):=(((stAt l i).1:Int),((stAt l i).2.1:Int),l,(l.length:Int),(i:Int),outL l i)
def mvS (l:List Bool) (i:Nat):=(((stAt l i).1:Int),((stAt l i).2.1:Int),l,(l.length:Int),(i:Int),((stAt l i).2.2:Int))
theorem nums {s n m i:Nat} (h:StOK (s,n,m) i):wrapF .i64 (2*(s:Int))=((2*s:Nat):Int)/\wrapF .i64 ((n:Int)+1)=((n+1:Nat):Int)/\wrapF .i64 (Int.tdiv (s:Int) 2)=((s / 2:Nat):Int)/\
 (0<n->wrapF .i64 ((n:Int) -1)=((n-1:Nat):Int)/\wrapF .i64 (4*((n-1:Nat):Int))=((4*(n-1):Nat):Int)):=by
 obtain ⟨h1,h2,h3,h4,h5⟩:=h;dsimp only at h1 h2 h3 h4 h5;refine ⟨?_,?_,?_,fun h0=>⟨?_,?_⟩⟩
 · rw [wi_id ⟨by omega,by omega⟩];omega
 · rw [wi_id ⟨by omega,by omega⟩];omega
 · rw [Int.tdiv_eq_ediv_of_nonneg (by omega),wi_id ⟨by omega,by omega⟩];omega
 · rw [wi_id ⟨by omega,by omega⟩];omega
 · rw [wi_id ⟨by omega,by omega⟩];omega
theorem sizes_step (l:List Bool) (hl:l.length<=1000) (i:Nat) (hi:i<l.length):stretch_Sizes_l1 (szS l i)=some (.next (szS l (i+1))):=by
 have hs:=stOK l i;have ol:=outL_len l i;have ap: ∀x:Int,appendO (outL l i) [x]=some (outL l i++[x]):=fun x=>appendO_le (by rw [ol,List.length_singleton];omega)
 unfold stretch_Sizes_l1 szS;rw [show outL l (i+1)=outL l i++[((stAt l (i+1)).1:Int)] from rfl,show stAt l (i+1)=stepS l[i]! (stAt l i) from rfl];simp only [ap,bindSS,dec_tS (show (i:Int)<(l.length:Int) by omega),cond_true,geti_nat l i hi,wi_sucS (show i<1000000000 by omega)]
 generalize stAt l i=q at hs ⊢;obtain ⟨s,n,m⟩:=q;obtain ⟨e1,e2,e3,e4⟩:=nums hs;cases l[i]! with
 |true=>
  unfold stepS;simp only [cond_true,if_true]
  by_cases h1:n<64
  · rw [dec_tS (show (n:Int)<64 by omega),if_pos h1]
    by_cases h2:n=s
    · rw [beq_t (show (n:Int)=(s:Int) by omega),if_pos h2]
      simp only [cond_true,e1,e2]
    · rw [beq_f (show¬(n:Int)=(s:Int) by omega),if_neg h2]
      simp only [cond_true,cond_false,e2]
  · rw [dec_fS (show¬(n:Int)<64 by omega),if_neg h1]
    rfl
 |false=>
  unfold stepS;simp only [cond_false,Bool.not_false,cond_true,Bool.false_eq_true,if_false]
  by_cases h1:0<n
  · obtain ⟨e5,e6⟩:=e4 h1
    rw [dec_tS (show (0:Int)<(n:Int) by omega),if_pos h1]
    by_cases h2:1<s
    · rw [dec_tS (show (1:Int)<(s:Int) by omega)]
      by_cases h3:4*(n-1)<=s
      · rw [if_pos ⟨h2,h3⟩]
        simp only [e5,e6,e3,dec_tS (show ((4*(n-1):Nat):Int)<=(s:Int) by omega),cond_true]
      · rw [if_neg (fun h=>h3 h.2)]
        simp only [e5,e6,dec_fS (show¬((4*(n-1):Nat):Int)<=(s:Int) by omega),cond_true,cond_false]
    · rw [dec_fS (show¬(1:Int)<(s:Int) by omega),if_neg (fun h=>h2 h.1)]
      simp only [e5,cond_true,cond_false]
  · rw [dec_fS (show¬(0:Int)<(n:Int) by omega),if_neg h1]
    rfl
theorem moves_step (l:List Bool) (hl:l.length<=1000) (i:Nat) (hi:i<l.length):stretch_Moves_l1 (mvS l i)=some (.next (mvS l (i+1))):=by
 have hs:=stOK l i;unfold stretch_Moves_l1 mvS;rw [show stAt l (i+1)=stepS l[i]! (stAt l i) from rfl];simp only [bindSS,dec_tS (show (i:Int)<(l.length:Int) by omega),cond_true,geti_nat l i hi,wi_sucS (show i<1000000000 by omega)]
 generalize stAt l i=q at hs ⊢;obtain ⟨s,n,m⟩:=q;obtain ⟨e1,e2,e3,e4⟩:=nums hs;have hm:=hs.m1;have hn:=hs.n1;dsimp only at hm hn;have e7:wrapF .i64 ((m:Int)+(n:Int))=((m+n:Nat):Int):=by rw [wi_id ⟨by omega,by omega⟩];omega
 have e8:wrapF .i64 ((m:Int)+((n-1:Nat):Int))=((m+(n-1):Nat):Int):=by rw [wi_id ⟨by omega,by omega⟩];omega
 have e9:wrapF .i64 ((m:Int)+0)=(m:Int):=by rw [wi_id ⟨by omega,by omega⟩];omega
 simp only [e7,e9];cases l[i]! with
 |true=>
  unfold stepS;simp only [cond_true,if_true]
  by_cases h1:n<64
  · rw [dec_tS (show (n:Int)<64 by omega),if_pos h1]
    by_cases h2:n=s
    · rw [beq_t (show (n:Int)=(s:Int) by omega),if_pos h2]
      simp only [cond_true,e1,e2]
    · rw [beq_f (show¬(n:Int)=(s:Int) by omega),if_neg h2]
      simp only [cond_true,cond_false,e2]
  · rw [dec_fS (show¬(n:Int)<64 by omega),if_neg h1]
    rfl
 |false=>
  unfold stepS;simp only [cond_false,Bool.not_false,cond_true,Bool.false_eq_true,if_false]
  by_cases h1:0<n
  · obtain ⟨e5,e6⟩:=e4 h1
    rw [dec_tS (show (0:Int)<(n:Int) by omega),if_pos h1]
    by_cases h2:1<s
    · rw [dec_tS (show (1:Int)<(s:Int) by omega)]
      by_cases h3:4*(n-1)<=s
      · rw [if_pos ⟨h2,h3⟩]
        simp only [e5,e6,e3,e8,dec_tS (show ((4*(n-1):Nat):Int)<=(s:Int) by omega),cond_true]
      · rw [if_neg (fun h=>h3 h.2)]
        simp only [e5,e6,dec_fS (show¬((4*(n-1):Nat):Int)<=(s:Int) by omega),cond_true,cond_false]
    · rw [dec_fS (show¬(1:Int)<(s:Int) by omega),if_neg (fun h=>h2 h.1)]
      simp only [e5,cond_true,cond_false]
  · rw [dec_fS (show¬(0:Int)<(n:Int) by omega),if_neg h1]
    rfl
theorem sizes_eq (l:List Bool) (hl:l.length<=1000):stretch_Sizes l=some (outL l l.length,0):=by
 unfold stretch_Sizes;simp only [ofNat_eqS,dec_fS (show¬(1000:Int)<(l.length:Int) by omega),cond_false]
 have:=while_steps (body:=stretch_Sizes_l1) (szS l) l.length (sizes_step l hl)
 rw [show ((1:Int),(0:Int),l,(l.length:Int),(0:Int),([]:List Int))=szS l 0 from rfl,this];refine whileO_done ?_;unfold stretch_Sizes_l1 szS;simp only [dec_fS (show¬(l.length:Int)<(l.length:Int) by omega),cond_false]
theorem moves_eq (l:List Bool) (hl:l.length<=1000):stretch_Moves l=some (((stAt l l.length).2.2:Int),0):=by
 unfold stretch_Moves;simp only [ofNat_eqS,dec_fS (show¬(1000:Int)<(l.length:Int) by omega),cond_false]
 have:=while_steps (body:=stretch_Moves_l1) (mvS l) l.length (moves_step l hl)
 rw [show ((1:Int),(0:Int),l,(l.length:Int),(0:Int),(0:Int))=mvS l 0 from rfl,this];refine whileO_done ?_;unfold stretch_Moves_l1 mvS;simp only [dec_fS (show¬(l.length:Int)<(l.length:Int) by omega),cond_false]
def wnS (l:List Bool) (i:Nat) (p:List Int):=(l,((stAt l i).2.2:Int),(i:Int),p,outL l i)
theorem went_l2 (l:List Bool) (hl:l.length<=1000) (i:Nat) (hi:i<l.length) (hb:l[i]! =false) (p:List Int) (ok:PlOK p (stAt l i).1 (stAt l i).2.1 i):
 ∃p',whileO ref23_Went_l2 (l,((stAt l i).2.2:Int),(i:Int),0,p,outL l i)=some (.next (wnS l (i+1) p'))/\PlOK p' (stAt l (i+1)).1 (stAt l (i+1)).2.1 (i+1):=by
 have hs:=stOK l i;have hs1:=stOK l (i+1);have ol:=outL_len l i;have ap: ∀x:Int,appendO (outL l i) [x]=some (outL l i++[x]):=fun x=>appendO_le (by rw [ol,List.length_singleton];omega)
 have len:=ok.len;have cnt:=ok.cnt;unfold wnS;rw [show outL l (i+1)=outL l i++[((stAt l (i+1)).1:Int)] from rfl];rw [show stAt l (i+1)=stepS l[i]! (stAt l i) from rfl,hb] at hs1 ⊢;generalize stAt l i=q at hs hs1 ok len cnt ⊢;obtain ⟨s,n,m⟩:=q;dsimp only at ok len cnt ⊢;have b1:=hs.s2;have b2:=hs.m1;have b3:=hs.n1;dsimp only at b1 b2 b3;have w1:=wi_sucS (show i<1000000000 by omega)
 by_cases hn:0<n
 ·
  have ex: ∃k,k<p.length/\0<=p[k]!:=by
   obtain ⟨x,hx⟩:=List.exists_mem_of_length_pos (show 0<(heldL p).length by omega)
   obtain ⟨h1,h2⟩:=heldL_mem.1 hx;obtain ⟨k,hk,rfl⟩:=mem_bang.1 h1;exact ⟨k,hk,h2⟩
  obtain ⟨k,k1,k2,k3⟩:=least ex;have hx:p[k]!∈heldL p:=heldL_mem.2 ⟨bang_mem k1,k2⟩;obtain ⟨p',w,ok'⟩:=Without_eq ok (by omega) hx
  have len':=ok'.len;have cnt':=ok'.cnt;have go:=while_steps (body:=ref23_Went_l2) (fun j=>(l,(m:Int),(i:Int),(j:Int),p,outL l i)) k (fun j hj=>by
   unfold ref23_Went_l2;simp only [ofNat_eqS,dec_tS (show (j:Int)<(p.length:Int) by omega),cond_true,geti_nat p j (by omega),bindSS,dec_fS (k3 j hj),cond_false,wi_sucS (show j<1000000000 by omega)])
  refine ⟨p',?_,?_⟩
  · rw [show whileO ref23_Went_l2 (l,(m:Int),(i:Int),0,p,outL l i)=_ from go]
    refine whileO_done ?_;unfold ref23_Went_l2 stepS;simp only [ofNat_eqS,dec_tS (show (k:Int)<(p.length:Int) by omega),cond_true,geti_nat p k k1,bindSS,dec_tS k2,w,ap,w1,Bool.false_eq_true,if_false,if_pos hn]
    by_cases h:1<s/\4*(n-1)<=s
    · rw [if_pos h] at len' ⊢
      rw [dec_tS (show (p'.length:Int)<(p.length:Int) by omega),cond_true,held_eq p' (by omega),bindSS,cnt',len',show wrapF .i64 ((m:Int)+((n-1:Nat):Int))=((m+(n-1):Nat):Int) from by rw [wi_id ⟨by omega,by omega⟩];omega]
    · rw [if_neg h] at len' ⊢
      rw [dec_fS (show¬(p'.length:Int)<(p.length:Int) by omega),cond_false,len']
  · unfold stepS
    simp only [Bool.false_eq_true,if_false,if_pos hn]
    by_cases h:1<s/\4*(n-1)<=s
    · rw [if_pos h] at ok' ⊢;exact ok'
    · rw [if_neg h] at ok' ⊢;exact ok'
 · have none: ∀k,k<p.length-> ¬0<=p[k]!:=fun k hk h0=>by
    have:=List.length_pos_of_mem (heldL_mem.2 ⟨bang_mem hk,h0⟩)
    omega
   have go:=while_steps (body:=ref23_Went_l2) (fun j=>(l,(m:Int),(i:Int),(j:Int),p,outL l i)) p.length (fun j hj=>by
    unfold ref23_Went_l2;simp only [ofNat_eqS,dec_tS (show (j:Int)<(p.length:Int) by omega),cond_true,geti_nat p j (by omega),bindSS,dec_fS (none j hj),cond_false,wi_sucS (show j<1000000000 by omega)])
   have e:stepS false (s,n,m)=(s,n,m):=by
    unfold stepS;simp only [Bool.false_eq_true,if_false,if_neg hn]
   rw [e];refine ⟨p,?_,ok.later⟩;rw [show whileO ref23_Went_l2 (l,(m:Int),(i:Int),0,p,outL l i)=_ from go];refine whileO_done ?_;unfold ref23_Went_l2;simp only [ofNat_eqS,dec_fS (show¬(p.length:Int)<(p.length:Int) by omega),cond_false,ap,bindSS,w1]
   rw [len]
theorem went_step (l:List Bool) (hl:l.length<=1000) (i:Nat) (hi:i<l.length) (p:List Int) (ok:PlOK p (stAt l i).1 (stAt l i).2.1 i):
 ∃p',(ref23_Went_l3 (wnS l i p)=some (.next (wnS l (i+1) p')))/\PlOK p' (stAt l (i+1)).1 (stAt l (i+1)).2.1 (i+1):=by
 have gi:=geti_nat l i hi;cases hb:l[i]! with
 |false=>
  obtain ⟨p',h1,h2⟩:=went_l2 l hl i hi hb p ok;refine ⟨p',?_,h2⟩;unfold ref23_Went_l3
  conv=>lhs;unfold wnS
  simp only [ofNat_eqS,dec_tS (show (i:Int)<(l.length:Int) by omega),cond_true,gi,bindSS,hb,cond_false,Bool.not_false]
  exact h1
 |true=>
  have hs:=stOK l i;have ol:=outL_len l i;have ap: ∀x:Int,appendO (outL l i) [x]=some (outL l i++[x]):=fun x=>appendO_le (by rw [ol,List.length_singleton];omega)
  have len:=ok.len;have cnt:=ok.cnt;unfold ref23_Went_l3 wnS;rw [show outL l (i+1)=outL l i++[((stAt l (i+1)).1:Int)] from rfl];rw [show stAt l (i+1)=stepS l[i]! (stAt l i) from rfl,hb];generalize stAt l i=q at hs ok len cnt ⊢;obtain ⟨s,n,m⟩:=q;dsimp only at ok len cnt ⊢;have b1:=hs.s2;have b2:=hs.m1;have b3:=hs.n1;dsimp only at b1 b2 b3;have w1:=wi_sucS (show i<1000000000 by omega)
  simp only [ofNat_eqS,dec_tS (show (i:Int)<(l.length:Int) by omega),cond_true,gi,bindSS,hb,Bool.not_true,cond_false,held_eq p (by omega),cnt,w1,ap]
  unfold stepS;simp only [if_true]
  by_cases hn:n<64
  · obtain ⟨p',w,ok'⟩:=With_eq ok (by omega)
    have len':=ok'.len;refine ⟨p',?_,?_⟩
    · simp only [dec_tS (show (n:Int)<64 by omega),cond_true,w,bindSS,if_pos hn]
      by_cases h:n=s
      · rw [if_pos h] at len' ⊢
        have:=ok.pos
        rw [dec_tS (show (p.length:Int)<(p'.length:Int) by omega),cond_true,show wrapF .i64 ((m:Int)+(n:Int))=((m+n:Nat):Int) from by rw [wi_id ⟨by omega,by omega⟩];omega,len']
      · rw [if_neg h] at len' ⊢
        rw [dec_fS (show¬(p.length:Int)<(p'.length:Int) by omega),cond_false,len']
    · simp only [if_pos hn]
      by_cases h:n=s
      · rw [if_pos h] at ok' ⊢;exact ok'
      · rw [if_neg h] at ok' ⊢;exact ok'
  · refine ⟨p,?_,?_⟩
    · simp only [dec_fS (show¬(n:Int)<64 by omega),cond_false,if_neg hn]
      rw [len]
    · simp only [if_neg hn];exact ok.later
theorem went_eq (l:List Bool) (hl:l.length<=1000):ref23_Went l=some (outL l l.length,((stAt l l.length).2.2:Int)):=by
 have go: ∀d i p,l.length-i<=d->i<=l.length->PlOK p (stAt l i).1 (stAt l i).2.1 i->whileO ref23_Went_l3 (wnS l i p)=some (outL l l.length,((stAt l l.length).2.2:Int)):=by
  have fin: ∀p,whileO ref23_Went_l3 (wnS l l.length p)=some (outL l l.length,((stAt l l.length).2.2:Int)):=fun p=>whileO_done (by
   unfold ref23_Went_l3 wnS;simp only [ofNat_eqS,dec_fS (show¬(l.length:Int)<(l.length:Int) by omega),cond_false])
  intro d
  induction d with
  |zero=>
   intro i p hd hi ok
   have:i=l.length:=by omega
   subst this;exact fin p
  |succ d ih=>
   intro i p hd hi ok
   by_cases he:i=l.length
   · subst he;exact fin p
   · obtain ⟨p',h1,h2⟩:=went_step l hl i (by omega) p ok
     rw [whileO_next h1];exact ih (i+1) p' (by omega) (by omega) h2
 exact go l.length 0 [-1] (by omega) (by omega) PlOK.start
end Go.Proofs.Ytmlghnibpjlchab
namespace Go.Proofs.Ytmlghnibpjlchab
open Go.Vm
theorem size_prog (n:Int) (hn:n<=64):whileO stretch_Size_l1 (n,1)=some (if n<=1 then 1 else if n<=2 then 2 else if n<=4 then 4 else if n<=8 then 8 else if n<=16 then 16 else if n<=32 then 32 else 64,0):=by
 have st: ∀s:Int,1<=s->s<=64->(n<=s->whileO stretch_Size_l1 (n,s)=some (s,0))/\(¬n<=s->whileO stretch_Size_l1 (n,s)=whileO stretch_Size_l1 (n,s*2)):=by
  intro s h1 h2;refine ⟨fun h=>whileO_done ?_,fun h=>whileO_next ?_⟩
  · unfold stretch_Size_l1
    simp only [dec_fS (show¬s<n by omega),cond_false]
  · unfold stretch_Size_l1
    simp only [dec_tS (show s<n by omega),cond_true,wi_id (show I64 (s*2) from ⟨by omega,by omega⟩)]
 by_cases h1:n<=1
 · rw [if_pos h1];exact (st 1 (by omega) (by omega)).1 h1
 rw [if_neg h1,(st 1 (by omega) (by omega)).2 h1]
 by_cases h2:n<=2
 · rw [if_pos h2];exact (st 2 (by omega) (by omega)).1 h2
 rw [if_neg h2,show (1:Int)*2=2 from rfl,(st 2 (by omega) (by omega)).2 h2]
 by_cases h3:n<=4
 · rw [if_pos h3];exact (st 4 (by omega) (by omega)).1 h3
 rw [if_neg h3,show (2:Int)*2=4 from rfl,(st 4 (by omega) (by omega)).2 h3]
 by_cases h4:n<=8
 · rw [if_pos h4];exact (st 8 (by omega) (by omega)).1 h4
 rw [if_neg h4,show (4:Int)*2=8 from rfl,(st 8 (by omega) (by omega)).2 h4]
 by_cases h5:n<=16
 · rw [if_pos h5];exact (st 16 (by omega) (by omega)).1 h5
 rw [if_neg h5,show (8:Int)*2=16 from rfl,(st 16 (by omega) (by omega)).2 h5]
 by_cases h6:n<=32
 · rw [if_pos h6];exact (st 32 (by omega) (by omega)).1 h6
 rw [if_neg h6,show (16:Int)*2=32 from rfl,(st 32 (by omega) (by omega)).2 h6]
 exact (st 64 (by omega) (by omega)).1 hn
theorem size_ref (n:Int) (hn:n<=64):whileO ref23_Size_l1 (n,1)=some (if n<=1 then 1 else if n<=2 then 2 else if n<=4 then 4 else if n<=8 then 8 else if n<=16 then 16 else if n<=32 then 32 else 64,0):=by
 have st: ∀s:Int,1<=s->s<=64-> ¬n<=s->(n<=2*s->whileO ref23_Size_l1 (n,s)=some (2*s,0))/\(¬n<=2*s->whileO ref23_Size_l1 (n,s)=whileO ref23_Size_l1 (n,s*2)):=by
  intro s h1 h2 h3;have e:wrapF .i64 (2*s)=2*s:=wi_id ⟨by omega,by omega⟩
  refine ⟨fun h=>whileO_done ?_,fun h=>whileO_next ?_⟩
  · unfold ref23_Size_l1
    simp only [dec_tS (show s<n by omega),cond_true,e,dec_tS h]
  · unfold ref23_Size_l1
    simp only [dec_tS (show s<n by omega),cond_true,e,dec_fS h,cond_false,wi_id (show I64 (s*2) from ⟨by omega,by omega⟩)]
 by_cases h1:n<=1
 · rw [if_pos h1]
   refine whileO_done ?_;unfold ref23_Size_l1;simp only [dec_fS (show¬(1:Int)<n by omega),cond_false]
 rw [if_neg h1]
 by_cases h2:n<=2
 · rw [if_pos h2];exact (st 1 (by omega) (by omega) h1).1 h2
 rw [if_neg h2,(st 1 (by omega) (by omega) h1).2 h2]
 by_cases h3:n<=4
 · rw [if_pos h3];exact (st 2 (by omega) (by omega) h2).1 h3
 rw [if_neg h3,show (1:Int)*2=2 from rfl,(st 2 (by omega) (by omega) h2).2 h3]
 by_cases h4:n<=8
 · rw [if_pos h4];exact (st 4 (by omega) (by omega) h3).1 h4
 rw [if_neg h4,show (2:Int)*2=4 from rfl,(st 4 (by omega) (by omega) h3).2 h4]
 by_cases h5:n<=16
 · rw [if_pos h5];exact (st 8 (by omega) (by omega) h4).1 h5
 rw [if_neg h5,show (4:Int)*2=8 from rfl,(st 8 (by omega) (by omega) h4).2 h5]
 by_cases h6:n<=32
 · rw [if_pos h6];exact (st 16 (by omega) (by omega) h5).1 h6
 rw [if_neg h6,show (8:Int)*2=16 from rfl,(st 16 (by omega) (by omega) h5).2 h6]
 exact (st 32 (by omega) (by omega) h6).1 hn
theorem Size_same (n:Int): ∃r,stretch_Size n=some r/\ref23_Size n=some r:=by
 unfold stretch_Size ref23_Size
 by_cases h0:n<0
 · rw [dec_tS h0];exact ⟨_,rfl,rfl⟩
 rw [dec_fS h0];simp only [cond_false]
 by_cases h1:64<n
 · rw [dec_tS h1];exact ⟨_,rfl,rfl⟩
 rw [dec_fS h1];simp only [cond_false];exact ⟨_,size_prog n (by omega),size_ref n (by omega)⟩
theorem ids_same (l:List Int) (hl:l.length<=1000000):ref03_SameIDs l l=some true:=by
 unfold ref03_SameIDs;rw [bne_f rfl,cond_false]
 have:=while_steps (body:=ref03_SameIDs_l1) (fun i=>(l,l,(i:Int))) l.length (fun i hi=>by
  unfold ref03_SameIDs_l1;simp only [ofNat_eqS,dec_tS (show (i:Int)<(l.length:Int) by omega),cond_true,geti_nat l i hi,bindSS,bne_f rfl,cond_false,wi_sucS (show i<1000000000 by omega)])
 rw [show (l,l,(0:Int))=(l,l,((0:Nat):Int)) from rfl,this];refine whileO_done ?_;unfold ref03_SameIDs_l1;simp only [ofNat_eqS,dec_fS (show¬(l.length:Int)<(l.length:Int) by omega),cond_false]
theorem law23_StretchSizes_true (n:Int) (l:List Bool):law23_StretchSizes n l=some true:=by
 obtain ⟨r,r1,r2⟩:=Size_same n;have main:(∃s m e,stretch_Sizes l=some (s,e)/\ref23_Sizes l=some (s,e)/\stretch_Moves l=some (m,e)/\ref23_Moves l=some (m,e)/\s.length<=1000):=by
  by_cases h:l.length<=1000
  · refine ⟨outL l l.length,((stAt l l.length).2.2:Int),0,sizes_eq l h,?_,moves_eq l h,?_,by rw [outL_len];exact h⟩
    · unfold ref23_Sizes
      simp only [ofNat_eqS,dec_fS (show¬(1000:Int)<(l.length:Int) by omega),cond_false,went_eq l h,bindSS]
    · unfold ref23_Moves
      simp only [ofNat_eqS,dec_fS (show¬(1000:Int)<(l.length:Int) by omega),cond_false,went_eq l h,bindSS]
  · have e:decide ((1000:Int)<(l.length:Int))=true:=dec_tS (by omega)
    refine ⟨[],0,4,?_,?_,?_,?_,by decide⟩
    · unfold stretch_Sizes;simp only [ofNat_eqS,e,cond_true]
    · unfold ref23_Sizes;simp only [ofNat_eqS,e,cond_true]
    · unfold stretch_Moves;simp only [ofNat_eqS,e,cond_true]
    · unfold ref23_Moves;simp only [ofNat_eqS,e,cond_true]
 obtain ⟨s,m,e,q1,q2,q3,q4,q5⟩:=main;unfold law23_StretchSizes;simp only [r1,r2,q1,q2,q3,q4,bindSS,ids_same s (by omega),beq_t rfl,cond_true]
 cases decide ((300:Int)<Int.ofNat l.length)<;>cases decide (Int.ofNat l.length<=1000)<;>cases decide ((1100:Int)<Int.ofNat l.length)<;>rfl
end Go.Proofs.Ytmlghnibpjlchab
