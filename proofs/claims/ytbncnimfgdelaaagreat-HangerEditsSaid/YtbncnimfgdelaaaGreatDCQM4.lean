/- Plain laws (4). -/
import Derived.Test.YtbncnimfgdelaaaGreatDCQM3
import Derived.Test.YtbncnimfgdelaaaGreatDCQS2
import Derived.Test.YtbncnimfgdelaaaGreatDCVm3
namespace Go.Proofs.YtbncnimfgdelaaaGreat
open Go.Vm Classical
theorem SD (p q:Pt) (t:Int×Int):P1 p q t=(p.2.1*t.2+p.2.2*t.1) - (q.2.1*t.2+q.2.2*t.1):=by
 rw [aJq,Int.sub_mul,Int.sub_mul];omega
theorem KU {p q r:Pt} {t:Int×Int} (h1:dF p q t) (h2:dF q r t):dF p r t:=by
 unfold dF at*;rw [SD] at*;generalize p.2.1*t.2+p.2.2*t.1=a at*;generalize q.2.1*t.2+q.2.2*t.1=b at*;generalize r.2.1*t.2+r.2.2*t.1=c at*;omega
theorem D2 {p q:Pt} (t:Int×Int) (h:p.1≠q.1) (hn: ¬dF p q t):dF q p t:=by
 unfold dF at*;rw [SD] at*;generalize p.2.1*t.2+p.2.2*t.1=a at*;generalize q.2.1*t.2+q.2.2*t.1=b at*;omega
structure SO (P:Int->Int->Prop) (S:Int->Prop):Prop where
 irr: ∀a,S a-> ¬P a a
 tr: ∀a b c,S a->S b->S c->P a b->P b c->P a c
 tot: ∀a b,S a->S b->a≠b->P a b\/P b a
abbrev par (j:Nat):Nat:=(j-1) / 2
def Hp (P:Int->Int->Prop) (l:List Int):Prop:= ∀j,0<j->j<l.length-> ¬P l[j]! l[par j]!
section
variable {P : Int -> Int -> Prop} {S : Int -> Prop}
theorem SO.asym (o:SO P S) {a b:Int} (ha:S a) (hb:S b) (h:P a b): ¬P b a:=fun k=>o.irr a ha (o.tr a b a ha hb ha h k)
theorem SO.ntr (o:SO P S) {a b c:Int} (ha:S a) (hb:S b) (hc:S c) (h1: ¬P a b) (h2: ¬P b c): ¬P a c:=fun h=>by
 by_cases e:b=c
 · exact h1 (e▸h)
 · rcases o.tot b c hb hc e with k|k
   · exact h2 k
   · exact h1 (o.tr a c b ha hc hb h k)
theorem SO.up (o:SO P S) {a b c:Int} (ha:S a) (hb:S b) (hc:S c) (h1:P b c) (h2: ¬P a c): ¬P a b:=fun h=>h2 (o.tr a b c ha hb hc h h1)
end
noncomputable def rW (P:Int->Int->Prop):List Int->Int
 | []=>0
 |x::r=>r.foldl (fun t y=>if P y t then y else t) x
noncomputable def rZ (bit:Int->Nat->Nat) (l:List Int) (top:Int) (d b:Nat):List Int:=l.filter fun x=>decide (x≠top/\bit x d=b)
noncomputable def iV (P:Int->Int->Prop) (bit:Int->Nat->Nat):Nat->List Int->Int->Nat->List (Int×Int)
 |0,_,_,_=>[]
 |_+1,[],_,_=>[]
 |n+1,x::r,u,d=>(rW P (x::r),u)::(iV P bit n (rZ bit (x::r) (rW P (x::r)) d 0) (rW P (x::r)) (d+1)++iV P bit n (rZ bit (x::r) (rW P (x::r)) d 1) (rW P (x::r)) (d+1))
section
variable {P : Int -> Int -> Prop} {S : Int -> Prop} {bit : Int -> Nat -> Nat}
theorem OL (o : SO P S) : ∀ (r : List Int) (x : Int), S x -> (∀ y ∈ r, S y) -> (r.foldl (fun t y => if P y t then y else t) x = x \/ r.foldl (fun t y => if P y t then y else t) x ∈ r) /\
    ¬ P x (r.foldl (fun t y => if P y t then y else t) x) /\ ∀ y ∈ r, ¬ P y (r.foldl (fun t y => if P y t then y else t) x)
  | [], x, hx, _ => ⟨.inl rfl, o.irr x hx, fun y h => by cases h⟩
  | z :: r, x, hx, hr => by
    rw [List.foldl_cons]
    have hz := hr z List.mem_cons_self
    have hr' : ∀ y ∈ r, S y := fun y hy => hr y (List.mem_cons_of_mem _ hy)
    by_cases c : P z x
    · rw [if_pos c]
      obtain ⟨a1, a2, a3⟩ := OL o r z hz hr'
      have hT : S (r.foldl (fun t y => if P y t then y else t) z) := by
        rcases a1 with e | e
        · rw [e]; exact hz
        · exact hr' _ e
      refine ⟨.inr (by rcases a1 with e | e; · rw [e]; exact List.mem_cons_self
                       · exact List.mem_cons_of_mem _ e), ?_, fun y hy => ?_⟩
      · exact o.ntr hx hz hT (o.asym hz hx c) a2
      · rcases List.mem_cons.1 hy with rfl | hy
        · exact a2
        · exact a3 y hy
    · rw [if_neg c]
      obtain ⟨a1, a2, a3⟩ := OL o r x hx hr'
      have hT : S (r.foldl (fun t y => if P y t then y else t) x) := by
        rcases a1 with e | e
        · rw [e]; exact hx
        · exact hr' _ e
      refine ⟨a1.imp id (List.mem_cons_of_mem _), a2, fun y hy => ?_⟩
      rcases List.mem_cons.1 hy with rfl | hy
      · exact o.ntr hz hx hT c a2
      · exact a3 y hy
theorem AV (o:SO P S) {l:List Int} (h0:l≠[]) (hS: ∀x∈l,S x):rW P l∈l/\ ∀y∈l,¬P y (rW P l):=by
 cases l with
 |nil=>exact absurd rfl h0
 |cons x r=>
  obtain ⟨a1,a2,a3⟩:=OL o r x (hS x List.mem_cons_self) (fun y hy=>hS y (List.mem_cons_of_mem _ hy))
  refine ⟨?_,fun y hy=>?_⟩
  · rcases a1 with e|e
    · show r.foldl _ x∈_;rw [e];exact List.mem_cons_self
    · exact List.mem_cons_of_mem _ e
  · rcases List.mem_cons.1 hy with rfl|hy
    · exact a2
    · exact a3 y hy
theorem VU (o:SO P S) {l:List Int} (hS: ∀x∈l,S x) {a:Int} (ha:a∈l) (h: ∀y∈l,¬P y a):rW P l=a:=by
 obtain ⟨b1,b2⟩:=AV o (List.ne_nil_of_mem ha) hS;rcases Classical.em (rW P l=a) with e|e
 · exact e
 · rcases o.tot _ _ (hS _ b1) (hS _ ha) e with k|k
   · exact absurd k (h _ b1)
   · exact absurd k (b2 _ ha)
theorem aBg (o:SO P S) {l l':List Int} (hS: ∀x∈l,S x) (p:l.Perm l'):rW P l=rW P l':=by
 by_cases h0:l=[]
 · subst h0;rw [List.nil_perm.1 p]
 · have h0':l'≠[]:=fun e=>by subst e;exact h0 (List.perm_nil.1 p)
   obtain ⟨b1,b2⟩:=AV o h0' (fun x hx=>hS x (p.mem_iff.2 hx))
   exact VU o hS (p.mem_iff.2 b1) fun y hy=>b2 y (p.mem_iff.1 hy)
theorem mB {l:List Int} {top:Int} {d b:Nat} {x:Int}:x∈rZ bit l top d b↔x∈l/\x≠top/\bit x d=b:=by
 unfold rZ;rw [List.mem_filter,decide_eq_true_iff]
theorem J3 {l:List Int} {top:Int} (h:top∈l) (d b:Nat):(rZ bit l top d b).length<l.length:=by
 unfold rZ;refine List.length_filter_lt_length_iff_exists.2 ⟨top,h,?_⟩;simp
theorem yS {l:List Int} (h:l.Nodup) (top:Int) (d b:Nat):(rZ bit l top d b).Nodup:=h.filter _
theorem GR (o:SO P S): ∀(n:Nat) (l l':List Int) (u:Int) (d:Nat),(∀x∈l,S x)->l.Perm l'->iV P bit n l u d=iV P bit n l' u d
 |0,_,_,_,_,_,_=>by simp only [iV]
 |n+1,[],l',u,d,_,p=>by rw [List.nil_perm.1 p]
 |n+1,x::r,[],u,d,_,p=>by have:=p.length_eq;simp at this
 |n+1,x::r,y::q,u,d,hS,p=>by
  have e:=aBg o hS p;simp only [iV];rw [<- e];have sp: ∀b,(rZ bit (x::r) (rW P (x::r)) d b).Perm (rZ bit (y::q) (rW P (x::r)) d b):=fun b=>p.filter _
  rw [GR o n _ _ (rW P (x::r)) (d+1) (fun z hz=>hS z (mB.1 hz).1) (sp 0),GR o n _ _ (rW P (x::r)) (d+1) (fun z hz=>hS z (mB.1 hz).1) (sp 1)]
theorem OM {α:Type} [BEq α] [LawfulBEq α]: ∀{a b:List α},a.Nodup->(∀x∈a,x∈b)->a.length<=b.length
 | [],_,_,_=>Nat.zero_le _
 |x::a,b,hd,h=>by
  rw [List.nodup_cons] at hd;have hx:=h x List.mem_cons_self
  have:=OM (a:=a) (b:=b.erase x) hd.2 (fun y hy=>by
   rw [List.mem_erase_of_ne (fun e=>hd.1 (by rw [<- e];exact hy))]
   exact h y (List.mem_cons_of_mem _ hy))
  rw [List.length_erase_of_mem hx] at this
  have:=List.length_pos_of_mem hx
  rw [List.length_cons];omega
theorem GS (o:SO P S) (hb: ∀x d,bit x d<2): ∀(n:Nat) (l:List Int) (u:Int) (d:Nat),(∀x∈l,S x)->l.Nodup->l.length<=n->((iV P bit n l u d).map fun e=>e.1).Perm l/\ ∀e∈iV P bit n l u d,e.2=u\/(e.2∈l/\P e.2 e.1)
 |0,l,u,d,_,_,h=>by
  have:l=[]:=List.length_eq_zero_iff.1 (by omega)
  subst this;exact ⟨List.Perm.refl _,fun e he=>by simp only [iV] at he;cases he⟩
 |n+1,[],u,d,_,_,_=>⟨List.Perm.refl _,fun e he=>by simp only [iV] at he;cases he⟩
 |n+1,x::r,u,d,hS,nd,h=>by
  obtain ⟨t1,t2⟩:=AV o (List.cons_ne_nil x r) hS;have ih: ∀b,_:=fun b=>GS o hb n (rZ bit (x::r) (rW P (x::r)) d b) (rW P (x::r)) (d+1) (fun z hz=>hS z (mB.1 hz).1) (yS nd _ d b) (by have:=J3 (bit:=bit) t1 d b;omega)
  have pb: ∀b,∀e∈iV P bit n (rZ bit (x::r) (rW P (x::r)) d b) (rW P (x::r)) (d+1),e.2∈x::r/\P e.2 e.1:=fun b e he=>by
   have k:e.1∈rZ bit (x::r) (rW P (x::r)) d b:=(ih b).1.mem_iff.1 (List.mem_map.2 ⟨e,he,rfl⟩);rcases (ih b).2 e he with q|⟨q1,q2⟩
   · rw [q]
     refine ⟨t1,?_⟩;obtain ⟨k1,k2,_⟩:=mB.1 k;rcases o.tot _ _ (hS _ t1) (hS _ k1) (fun e=>k2 e.symm) with w|w
     · exact w
     · exact absurd w (t2 _ k1)
   · exact ⟨(mB.1 q1).1,q2⟩
  refine ⟨?_,fun e he=>?_⟩
  · simp only [iV,List.map_cons,List.map_append]
    refine (List.Perm.cons _ ((ih 0).1.append (ih 1).1)).trans ?_;refine tF (List.nodup_cons.2 ⟨fun hm=>?_,List.nodup_append.2 ⟨yS nd _ d 0,yS nd _ d 1,fun a ha b hb' e=>?_⟩⟩) (fun y hy=>?_) ?_
    · rcases List.mem_append.1 hm with hm|hm<;>exact (mB.1 hm).2.1 rfl
    · have w1:=(mB.1 ha).2.2
      have w2:=(mB.1 hb').2.2;rw [e,w2] at w1;omega
    · rcases List.mem_cons.1 hy with rfl|hy
      · exact t1
      · rcases List.mem_append.1 hy with hy|hy<;>exact (mB.1 hy).1
    · have sub:(x::r).length<=(rW P (x::r)::(rZ bit (x::r) (rW P (x::r)) d 0++rZ bit (x::r) (rW P (x::r)) d 1)).length:=OM nd fun y hy=>by
       by_cases c:y=rW P (x::r)
       · rw [c];exact List.mem_cons_self
       · refine List.mem_cons_of_mem _ (List.mem_append.2 ?_)
         have:=hb y d
         by_cases z:bit y d=0
         · exact .inl (mB.2 ⟨hy,c,z⟩)
         · exact .inr (mB.2 ⟨hy,c,by omega⟩)
      exact sub
  · simp only [iV] at he
    rcases List.mem_cons.1 he with rfl|he
    · exact .inl rfl
    · rcases List.mem_append.1 he with he|he
      · exact .inr (pb 0 e he)
      · exact .inr (pb 1 e he)
end
theorem aDq {f:List Pt} (fok:bD f) (k:Nat):bD (f.eraseIdx k):=by
 refine ⟨Nat.le_trans (List.length_eraseIdx_le f k) fok.1,fun p hp=>fok.2.1 p (List.mem_of_mem_eraseIdx hp),?_⟩
 have h:=fok.2.2;intro i hi;have hl:=List.length_eraseIdx_le f k
 by_cases hk:k<f.length
 · have:=SA hk
   rw [B7,B7];split<;>split<;>exact gS h (by omega) (by omega)
 · rw [List.eraseIdx_of_length_le (by omega)] at hi ⊢
   exact h i hi
theorem KV {f:List Pt} (fok:bD f) {k:Nat} (hk:k<f.length):kM ⟨f⟩ (f[k]!).1=some ((k:Int),0):=by
 have h1:=fok.1;have hc:dV ⟨f⟩=some 0:=by rw [gN];exact congrArg some (eD.2 fok)
 have bs:=yR f (f[k]!).1 (by omega) (fun i j=>gS fok.2.2)
 unfold kM kV;rw [ID];simp only [hc,aB,show ((0:Int) !=0)=false from rfl,cond_false,bs.1 k hk rfl,Bool.not_true]
theorem FU {f:List Pt} (fok:bD f) {id:Int} (h: ¬mS f id):kM ⟨f⟩ id=some (0,6):=by
 have h1:=fok.1;have hc:dV ⟨f⟩=some 0:=by rw [gN];exact congrArg some (eD.2 fok)
 have bs:=yR f id (by omega) (fun i j=>gS fok.2.2)
 obtain ⟨m,_,_,_,e⟩:=bs.2 (fun k hk he=>h ⟨k,hk,he⟩)
 unfold kM kV;rw [ID];simp only [hc,aB,show ((0:Int) !=0)=false from rfl,cond_false,e,Bool.not_false,cond_true]
theorem SF:kY=cU:=rfl
theorem YA {f:List Pt} (fok:bD f) {k:Nat} (hk:k<f.length):kZ ⟨f⟩ (f[k]!).1=some (⟨f.eraseIdx k⟩,0)/\pY ⟨f⟩ (f[k]!).1=some (⟨f.eraseIdx k⟩,0):=by
 have f1:=fok.1;constructor
 · obtain ⟨L,d1,d2⟩:=DW f k hk
   unfold kZ;rw [KV fok hk,aB,bJ rfl,cond_false,bB (show f.length<=1048576 by omega),aB,aV (show k<1000000000 by omega),SF,d1,aB]
   show some (Field.mk (L.take (f.length-1)),(0:Int))=_;rw [d2]
 · have hc:iC ⟨f⟩=some 0:=by rw [oE];exact congrArg some (eD.2 fok)
   unfold pY;rw [hc,aB,bJ rfl,cond_false,AO fok.2.2 (by omega) hk rfl,aB,aJ (by omega),cond_false]
   unfold FK;generalize hn:(f[k]!).1=n;have key:=bY (body:=jK) (fun i=>(n,(i:Int),f,(f.take i).filter (fun x=>x.1 !=n))) f.length (fun i hi=>by
    have nx:(f.take (i+1)).filter (fun x=>x.1 !=n)=(f.take i).filter (fun x=>x.1 !=n)++(if (f[i]!).1 !=n then [f[i]!] else []):=by
     rw [cP hi,List.filter_append,List.filter_cons,List.filter_nil]
    have fl:((f.take i).filter (fun x=>x.1 !=n)).length<=200:=Nat.le_trans (List.length_filter_le _ _) (by rw [List.length_take];omega)
    unfold jK;simp only [aF,aO (show (i:Int)<(f.length:Int) by omega),cond_true,aD f i hi,aB,aV (show i<1000000000 by omega),nx]
    by_cases h:(f[i]!).1=n
    · rw [bJ h];simp
    · rw [dA h]
      simp only [cond_true,if_true,bT (show ((f.take i).filter (fun x=>x.1 !=n)).length+[f[i]!].length<=1048576 by simp only [List.length_cons,List.length_nil];omega),aB])
   have fin:aG jK (n,(f.length:Int),f,(f.take f.length).filter (fun x=>x.1 !=n))=some ⟨f.eraseIdx k⟩:=aK (by
    unfold jK;simp only [aF,aJ (show¬(f.length:Int)<(f.length:Int) by omega),cond_false,List.take_length]
    rw [IF hk (fun i j=>gS fok.2.2) hn])
   rw [show aG jK (n,0,f,[])=_ from key,fin,aB]
theorem SG {f:List Pt} (fok:bD f) {id:Int} (h: ¬mS f id):kZ ⟨f⟩ id=some (⟨[]⟩,6)/\pY ⟨f⟩ id=some (⟨[]⟩,6):=by
 constructor
 · unfold kZ
   rw [FU fok h];rfl
 · have hc:iC ⟨f⟩=some 0:=by rw [oE];exact congrArg some (eD.2 fok)
   unfold pY;rw [hc,aB,bJ rfl,cond_false,J0 fok h];rfl
def D3 (f:List Pt) (m:Nat) (p:Pt):List Pt:=f.take m++p::f.drop m
structure aAc (f:List Pt) (p:Pt) (m:Nat):Prop where
 le:m<=f.length
 lo: ∀i,i<m->(f[i]!).1<p.1
 hi: ∀i,m<=i->i<f.length->p.1<(f[i]!).1
theorem VV {f:List Pt} {m:Nat} (h:m<=f.length) (p:Pt):(D3 f m p).length=f.length+1:=by
 unfold D3;rw [List.length_append,List.length_cons,List.length_take,List.length_drop];omega
theorem QD {f:List Pt} {m:Nat} (h:m<=f.length) (p:Pt) (i:Nat):(D3 f m p)[i]! =if i<m then f[i]! else if i=m then p else f[i-1]!:=by
 have ht:(f.take m).length=m:=by rw [List.length_take];omega
 unfold D3;simp only [List.getElem!_eq_getElem?_getD]
 by_cases h1:i<m
 · rw [if_pos h1,List.getElem?_append_left (by omega),List.getElem?_take_of_lt h1]
 · rw [if_neg h1,List.getElem?_append_right (by omega),ht]
   by_cases h2:i=m
   · rw [if_pos h2,h2,Nat.sub_self];rfl
   · rw [if_neg h2,show i-m=(i-1-m)+1 by omega,List.getElem?_cons_succ,List.getElem?_drop,show m+(i-1-m)=i-1 by omega]
theorem aJt {f:List Pt} (fok:bD f) {p:Pt} (po:gV p) {m:Nat} (h:aAc f p m) (hl:f.length<64):bD (D3 f m p):=by
 refine ⟨by rw [VV h.le];omega,fun q hq=>?_,fun i hi=>?_⟩
 · rcases List.mem_append.1 hq with hq|hq
   · exact fok.2.1 q (List.mem_of_mem_take hq)
   · rcases List.mem_cons.1 hq with rfl|hq
     · exact po
     · exact fok.2.1 q (List.mem_of_mem_drop hq)
 · rw [VV h.le] at hi
   rw [QD h.le,QD h.le];rcases Nat.lt_trichotomy (i+1) m with c|c|c
   · rw [if_pos (by omega),if_pos c];exact gS fok.2.2 (by omega) (by have:=h.le;omega)
   · rw [if_pos (by omega),if_neg (by omega),if_pos c];exact h.lo i (by omega)
   · rw [if_neg (show¬i+1<m by omega),if_neg (show¬i+1=m by omega),Nat.add_sub_cancel]
     by_cases d:i=m
     · rw [if_neg (by omega),if_pos d];exact h.hi i (by omega) (by omega)
     · rw [if_neg (by omega),if_neg d];exact gS fok.2.2 (by omega) (by omega)
theorem YB {f:List Pt} (fok:bD f) {p:Pt} (h: ¬mS f p.1): ∃m,aAc f p m/\kV ⟨f⟩ p.1=some ((m:Int),false):=by
 have h1:=fok.1;obtain ⟨m,a,b,c,e⟩:=(yR f p.1 (by omega) (fun i j=>gS fok.2.2)).2 (fun k hk he=>h ⟨k,hk,he⟩)
 refine ⟨m,⟨a,b,c⟩,?_⟩;unfold kV;rw [ID,e];rfl
theorem YC {f:List Pt} (fok:bD f) {id:Int} (h:mS f id): ∃k,k<f.length/\(f[k]!).1=id/\kV ⟨f⟩ id=some ((k:Int),true):=by
 have h1:=fok.1;obtain ⟨k,hk,he⟩:=h;refine ⟨k,hk,he,?_⟩;unfold kV;rw [ID,(yR f id (by omega) (fun i j=>gS fok.2.2)).1 k hk he];rfl
theorem aJu {f:List Pt} (_:bD f) {p:Pt} {m:Nat} (h:aAc f p m) (hl:f.length<64):aG fP (false,0,f,p.1,p.2.1,p.2.2,[])=some (⟨D3 f m p⟩,0):=by
 have hle:=h.le;have tl: ∀i,(f.take i).length<=64:=fun i=>by rw [List.length_take];omega
 have k1:=bY (body:=fP) (fun i=>(false,(i:Int),f,p.1,p.2.1,p.2.2,f.take i)) m (fun i hi=>by
  unfold fP;simp only [aF,aO (show (i:Int)<(f.length:Int) by omega),cond_true,Bool.not_false,aD f i (by omega),aB,aJ (show¬p.1<(f[i]!).1 from Int.not_lt.2 (Int.le_of_lt (h.lo i hi))),cond_false,
   bT (show (f.take i).length+[f[i]!].length<=1048576 by have:=tl i;simp only [List.length_cons,List.length_nil];omega),aV (show i<1000000000 by omega),cP (show i<f.length by omega)])
 refine (show aG fP (false,0,f,p.1,p.2.1,p.2.2,[])=_ from k1).trans ?_;have pe:((p.1,p.2.1,p.2.2):Pt)=p:=rfl;rcases Nat.lt_or_ge m f.length with hm|hm
 · have s1:fP (false,(m:Int),f,p.1,p.2.1,p.2.2,f.take m)=some (.next (true,((m+1:Nat):Int),f,p.1,p.2.1,p.2.2,f.take m++[p]++[f[m]!])):=by
    unfold fP;simp only [aF,aO (show (m:Int)<(f.length:Int) by omega),cond_true,Bool.not_false,aD f m hm,aB,aO (h.hi m (Nat.le_refl _) hm),pe,
     bT (show (f.take m).length+[p].length<=1048576 by have:=tl m;simp only [List.length_cons,List.length_nil];omega),
     bT (show (f.take m++[p]).length+[f[m]!].length<=1048576 by have:=tl m;simp only [List.length_append,List.length_cons,List.length_nil];omega),aV (show m<1000000000 by omega)]
   rw [bC s1];have k2:=bY (body:=fP) (fun i=>(true,((m+1+i:Nat):Int),f,p.1,p.2.1,p.2.2,f.take m++[p]++(f.drop m).take (i+1))) (f.length- (m+1)) (fun i hi=>by
    have ed:(f.drop m).take (i+1+1)=(f.drop m).take (i+1)++[f[m+1+i]!]:=by
     rw [cP (show i+1<(f.drop m).length by rw [List.length_drop];omega),sY];congr 3;omega
    unfold fP;simp only [aF,aO (show ((m+1+i:Nat):Int)<(f.length:Int) by omega),cond_true,Bool.not_true,cond_false,aD f (m+1+i) (by omega),aB,
     bT (show (f.take m++[p]++(f.drop m).take (i+1)).length+[f[m+1+i]!].length<=1048576 by have:=tl m;simp only [List.length_append,List.length_take,List.length_drop,List.length_cons,List.length_nil] at this ⊢;omega),aV (show m+1+i<1000000000 by omega),ed]
    rw [List.append_assoc (f.take m++[p]),show m+1+i+1=m+1+(i+1) by omega])
   have e0:(f.drop m).take (0+1)=[f[m]!]:=by
    have:=UZ hm
    rw [show f.drop m=f[m]!::f.drop (m+1) by rw [getElem!_pos f m hm,List.getElem_cons_drop]];rfl
   rw [e0] at k2;refine (show aG fP (true,((m+1:Nat):Int),f,p.1,p.2.1,p.2.2,f.take m++[p]++[f[m]!])=_ from k2).trans (aK ?_);have ef:(f.drop m).take (f.length- (m+1)+1)=f.drop m:=List.take_of_length_le (by rw [List.length_drop];omega)
   rw [ef,show m+1+(f.length- (m+1))=f.length by omega]
   unfold fP D3;simp only [aF,aJ (show¬(f.length:Int)<(f.length:Int) by omega),cond_false,Bool.not_true,List.append_assoc,List.singleton_append]
 · obtain rfl:m=f.length:=by omega
   refine aK ?_;unfold fP D3;simp only [aF,aJ (show¬(f.length:Int)<(f.length:Int) by omega),cond_false,Bool.not_false,cond_true,pe,List.take_length,
    bT (show f.length+[p].length<=1048576 by simp only [List.length_cons,List.length_nil];omega),aB,List.drop_length]
theorem ON {f:List Pt} (fok:bD f) (p:Pt):
 (∃e:Int,e≠0/\jY ⟨f⟩ p=some (⟨[]⟩,e)/\oQ ⟨f⟩ p=some (⟨[]⟩,e))\/
 (∃m,aAc f p m/\ ¬mS f p.1/\gV p/\f.length<64/\jY ⟨f⟩ p=some (⟨D3 f m p⟩,0)/\oQ ⟨f⟩ p=some (⟨D3 f m p⟩,0)):=by
 have f1:=fok.1;have hc:dV ⟨f⟩=some 0:=by rw [gN];exact congrArg some (eD.2 fok)
 have hc2:iC ⟨f⟩=some 0:=by rw [oE];exact congrArg some (eD.2 fok)
 by_cases po:gV p
 case neg=>
  refine .inl ⟨8,by decide,?_,?_⟩
  · unfold jY;rw [hc,aB,bJ rfl,cond_false,fQ,if_neg po];rfl
  · unfold oQ;rw [hc2,aB,bJ rfl,cond_false,iD,if_neg po];rfl
 by_cases hp:mS f p.1
 · obtain ⟨k,hk,he,e⟩:=YC fok hp
   refine .inl ⟨14,by decide,?_,?_⟩
   · unfold jY;rw [hc,aB,bJ rfl,cond_false,fQ,if_pos po,aB,bJ rfl,cond_false,e];rfl
   · unfold oQ;rw [hc2,aB,bJ rfl,cond_false,iD,if_pos po,aB,bJ rfl,cond_false,AO fok.2.2 (by omega) hk he,aB,aO (show (0:Int)<=(k:Int) by omega)];rfl
 obtain ⟨m,hm,e⟩:=YB fok hp
 by_cases full:f.length=64
 · refine .inl ⟨18,by decide,?_,?_⟩
   · unfold jY;rw [hc,aB,bJ rfl,cond_false,fQ,if_pos po,aB,bJ rfl,cond_false,e,aB,cond_false]
     simp only [aF,full];rfl
   · unfold oQ;rw [hc2,aB,bJ rfl,cond_false,iD,if_pos po,aB,bJ rfl,cond_false,J0 fok hp,aB,aJ (by decide),cond_false]
     simp only [aF,full];rfl
 · have hl:f.length<64:=by omega
   have hf:(Int.ofNat f.length==64)=false:=by simp only [aF,beq_eq_false_iff_ne];omega
   refine .inr ⟨m,hm,hp,po,hl,?_,?_⟩
   · have hi:EC f (m:Int) [p]=some (D3 f m p):=by
      unfold EC;rw [if_pos ⟨by omega,by have:=hm.le;simpa using this,rfl,by omega⟩]
      simp [D3]
     unfold jY;rw [hc,aB,bJ rfl,cond_false,fQ,if_pos po,aB,bJ rfl,cond_false,e,aB,cond_false,hf,cond_false,bB (show f.length<=1048576 by omega),aB,hi,aB]
   · unfold oQ
     rw [hc2,aB,bJ rfl,cond_false,iD,if_pos po,aB,bJ rfl,cond_false,J0 fok hp,aB,aJ (by decide),cond_false,hf,cond_false]
     exact aJu fok hm hl
theorem aPa {f:List Pt} (fok:bD f) {p:Pt} (po:gV p) {k:Nat} (hk:k<f.length) (he:(f[k]!).1=p.1):bD (f.set k p):=by
 refine ⟨by rw [List.length_set];exact fok.1,fun q hq=>?_,fun i hi=>?_⟩
 · rcases List.mem_or_eq_of_mem_set hq with h|rfl
   · exact fok.2.1 q h
   · exact po
 · rw [List.length_set] at hi
   have h:=gS fok.2.2 (show i<i+1 by omega) hi
   have g: ∀j:Nat,((f.set k p)[j]!).1=(f[j]!).1:=fun j=>by
    simp only [List.getElem!_eq_getElem?_getD,List.getElem?_set]
    by_cases c:k=j
    · subst c
      rw [if_pos rfl,if_pos hk];simp only [List.getElem!_eq_getElem?_getD] at he;exact he.symm
    · rw [if_neg c]
   rw [g,g];exact h
theorem IM {f:List Pt} (fok:bD f) (p:Pt):
 (∃e:Int,e≠0/\fN ⟨f⟩ p=some (⟨[]⟩,e)/\kQ ⟨f⟩ p=some (⟨[]⟩,e))\/
 (∃k,k<f.length/\(f[k]!).1=p.1/\gV p/\fN ⟨f⟩ p=some (⟨f.set k p⟩,0)/\kQ ⟨f⟩ p=some (⟨f.set k p⟩,0)):=by
 have f1:=fok.1;have hc:dV ⟨f⟩=some 0:=by rw [gN];exact congrArg some (eD.2 fok)
 have hc2:iC ⟨f⟩=some 0:=by rw [oE];exact congrArg some (eD.2 fok)
 by_cases po:gV p
 case neg=>
  refine .inl ⟨8,by decide,?_,?_⟩
  · unfold fN;rw [hc,aB,bJ rfl,cond_false,fQ,if_neg po];rfl
  · unfold kQ;rw [hc2,aB,bJ rfl,cond_false,iD,if_neg po];rfl
 by_cases hp:mS f p.1
 case neg=>
  refine .inl ⟨6,by decide,?_,?_⟩
  · unfold fN;rw [hc,aB,bJ rfl,cond_false,fQ,if_pos po,aB,bJ rfl,cond_false,FU fok hp];rfl
  · unfold kQ;rw [hc2,aB,bJ rfl,cond_false,iD,if_pos po,aB,bJ rfl,cond_false,J0 fok hp];rfl
 obtain ⟨k,hk,he⟩:=hp;have pl:=KV fok hk;rw [he] at pl;refine .inr ⟨k,hk,he,po,?_,?_⟩
 · unfold fN
   rw [hc,aB,bJ rfl,cond_false,fQ,if_pos po,aB,bJ rfl,cond_false,pl,aB,bJ rfl,cond_false,bB (show f.length<=1048576 by omega),aB,aD f k hk,aB,pF]
 · unfold kQ sS
   rw [hc2,aB,bJ rfl,cond_false,iD,if_pos po,aB,bJ rfl,cond_false,AO fok.2.2 (by omega) hk he,aB,aJ (by omega),cond_false,bB (show f.length<=1048576 by omega),aB,aB,aD f k hk,aB,pF]
noncomputable def mT (f:List Pt) (es:List (Int×Int)):Int:=if¬(∀x∈es,fY x) then 8 else if¬es.Nodup then 14 else if¬(∀x∈es,lD f x) then 6 else 0
def rP (c:aP) (f:List Pt) (es:List (Int×Int)) (i:Nat):=
 (es,es,(es.length:Int),(i:Int),c.now.1,c.now.2,c.field.points,c.certs.next_,c.certs.list,c.agenda.slots.uses,c.agenda.slots.used,c.agenda.slots.free,c.agenda.heap,c.agenda.where_,c.due,f,(0:Int),(0:Int),(0:Int))
theorem D4 {c:aP} (ok:bG c) {f:List Pt} (fok:bD f) {es:List (Int×Int)} (hl:es.length<=1000) {r:aP×Int} (hr:mT f es=0->nY c ⟨f⟩ es=some r):
 nZ c ⟨f⟩ es=some (if mT f es=0 then r else (eA,mT f es)):=by
 have bd:=ok.bd;have ab:=ok.agd.bd;have sl:=ok.agd.so.fl;have sn:=ok.agd.so.n2;have su:=ok.agd.so.ul;have el:decide ((es.length:Int)<(es.length:Int))=false:=aJ (by omega)
 have hc:gU c=some 0:=by rw [oH ok.fit,if_pos ok]
 have hf:dV ⟨f⟩=some 0:=by rw [gN];exact congrArg some (eD.2 fok)
 have tw:wZ (aP.mk (c.now.1,c.now.2) (Field.mk c.field.points) (aZ.mk c.certs.next_ c.certs.list) (aI.mk (aT.mk c.agenda.slots.uses c.agenda.slots.used c.agenda.slots.free) c.agenda.heap c.agenda.where_) c.due)=some c:=by
  unfold wZ;simp only [bB (show c.field.points.length<=1048576 by omega),bB (show c.certs.list.length<=1048576 by omega),bB (show c.due.length<=1048576 by omega),bB (show c.agenda.heap.length<=1048576 by omega),bB (show c.agenda.where_.length<=1048576 by omega),
   bB (show c.agenda.slots.uses.length<=1048576 by omega),bB (show c.agenda.slots.used.length<=1048576 by omega),bB (show c.agenda.slots.free.length<=1048576 by omega),aB]
 have k3: ∀e2:aP×Int,aG eK (rP c f es 0)=some (.done e2)->aG eL (rP c f es 0)=some (if∀i,i<es.length->fY es[i]! then e2 else (eA,8)):=by
  intro e2 h2;refine J1 (body:=eL) (fun i=>rP c f es i) es.length (fun i=>fY es[i]!) (r:=(eA,8)) (e:=e2) (fun i hi=>?_) ?_
  · have e1:decide ((i:Int)<(es.length:Int))=true:=aO (by omega)
    unfold eL rP fY;simp only [e1,cond_true,aD es i hi,aB,aV (show i<1000000000 by omega)]
    generalize es[i]! =x
    by_cases a1:x.1<0
    · rw [aO a1];exact ⟨fun _=>rfl,fun h=>by omega⟩
    rw [aJ a1]
    by_cases a2:x.2<0
    · rw [aO a2];exact ⟨fun _=>rfl,fun h=>by omega⟩
    rw [aJ a2]
    by_cases a3:65535<x.1
    · rw [aO a3];exact ⟨fun _=>rfl,fun h=>by omega⟩
    rw [aJ a3]
    by_cases a4:65535<x.2
    · rw [aO a4];exact ⟨fun _=>rfl,fun h=>by omega⟩
    rw [aJ a4]
    by_cases a5:x.1=x.2
    · rw [gC a5];exact ⟨fun _=>rfl,fun h=>absurd a5 h.2.2.2.2⟩
    · rw [eQ a5];exact ⟨fun h=>absurd ⟨by omega,by omega,by omega,by omega,a5⟩ h,fun _=>rfl⟩
  · unfold eL rP
    simp only [aF,el,cond_false];exact h2
 have k2: ∀e1:aP×Int,aG fH (rP c f es 0)=some (.done (.done e1))->aG eK (rP c f es 0)=some (.done (if∀i,i<es.length->es[i]!∉es.take i then e1 else (eA,14))):=by
  intro e0 h2
  have:=J1 (body:=eK) (fun i=>rP c f es i) es.length (fun i=>es[i]!∉es.take i) (r:= .done (eA,14)) (e:= .done e0) (fun i hi=>by
   have e1:decide ((i:Int)<(es.length:Int))=true:=aO (by omega)
   unfold eK rP;simp only [e1,cond_true,aD es i hi,oS es i (by omega),aB,pH _ _ (show (es.take i).length<=1000000 by rw [List.length_take];omega),aV (show i<1000000000 by omega)]
   by_cases h:es[i]!∈es.take i
   · rw [aO h];exact ⟨fun _=>rfl,fun k=>absurd h k⟩
   · rw [aJ h];exact ⟨fun k=>absurd h k,fun _=>rfl⟩) (by
   unfold eK rP;simp only [aF,el,cond_false];exact h2)
  refine this.trans ?_
  by_cases hb: ∀i,i<es.length->es[i]!∉es.take i
  · rw [if_pos hb,if_pos hb]
  · rw [if_neg hb,if_neg hb]
 have step1: ∀i,i<es.length->(¬lD f es[i]!->fH (rP c f es i)=some (.done (.done (.done (eA,6)))))/\(lD f es[i]!->fH (rP c f es i)=some (.next (rP c f es (i+1)))):=by
  intro i hi;have e1:decide ((i:Int)<(es.length:Int))=true:=aO (by omega)
  obtain ⟨p,e,a1,a2⟩:=FT fok (es[i]!).1;obtain ⟨q,g,b1,b2⟩:=FT fok (es[i]!).2;unfold fH rP lD;simp only [e1,cond_true,aD es i hi,aB,a1,b1,aV (show i<1000000000 by omega)]
  by_cases h1:mS f (es[i]!).1
  · rw [bJ (a2.2 h1)]
    by_cases h2:mS f (es[i]!).2
    · rw [bJ (b2.2 h2)]
      exact ⟨fun h=>absurd ⟨h1,h2⟩ h,fun _=>rfl⟩
    · rw [dA (fun h=>h2 (b2.1 h))]
      exact ⟨fun _=>rfl,fun h=>absurd h.2 h2⟩
  · rw [dA (fun h=>h1 (a2.1 h))]
    exact ⟨fun _=>rfl,fun h=>absurd h.1 h1⟩
 have start:nZ c ⟨f⟩ es=aG eL (rP c f es 0):=by
  unfold nZ;simp only [hc,aB,show ((0:Int) !=0)=false from rfl,cond_false,hf];rfl
 rw [start]
 by_cases h1: ∀x∈es,fY x
 case neg=>
  have er:mT f es=8:=by unfold mT;rw [if_pos h1]
  rw [er,if_neg (by omega)]
  have:=dD (body:=eL) (fun i=>rP c f es i) es.length (fun i=> ¬fY es[i]!) (r:=(eA,8)) (e:=r)
  have k3':=k3;rw [IL (P:=fY)] at h1;obtain ⟨i,h⟩:=Classical.not_forall.1 h1;obtain ⟨hi,hx⟩:=Classical.not_imp.1 h;obtain ⟨m,m1,m2,m3⟩:=KK (c:=fun i=> ¬fY es[i]!) ⟨i,hi,hx⟩
  have go: ∀j,j<es.length->(¬fY es[j]!->eL (rP c f es j)=some (.done (eA,8)))/\(fY es[j]!->eL (rP c f es j)=some (.next (rP c f es (j+1)))):=by
   intro j hj;have e1:decide ((j:Int)<(es.length:Int))=true:=aO (by omega)
   unfold eL rP fY;simp only [e1,cond_true,aD es j hj,aB,aV (show j<1000000000 by omega)]
   generalize es[j]! =x
   by_cases a1:x.1<0
   · rw [aO a1];exact ⟨fun _=>rfl,fun h=>by omega⟩
   rw [aJ a1]
   by_cases a2:x.2<0
   · rw [aO a2];exact ⟨fun _=>rfl,fun h=>by omega⟩
   rw [aJ a2]
   by_cases a3:65535<x.1
   · rw [aO a3];exact ⟨fun _=>rfl,fun h=>by omega⟩
   rw [aJ a3]
   by_cases a4:65535<x.2
   · rw [aO a4];exact ⟨fun _=>rfl,fun h=>by omega⟩
   rw [aJ a4]
   by_cases a5:x.1=x.2
   · rw [gC a5];exact ⟨fun _=>rfl,fun h=>absurd a5 h.2.2.2.2⟩
   · rw [eQ a5];exact ⟨fun h=>absurd ⟨by omega,by omega,by omega,by omega,a5⟩ h,fun _=>rfl⟩
  rw [bY (body:=eL) (fun i=>rP c f es i) m fun j hj=>(go j (by omega)).2 (Classical.not_not.1 (m3 j hj))]
  exact aK ((go m m1).1 m2)
 have h1':=(IL (P:=fY)).1 h1
 by_cases h2:es.Nodup
 case neg=>
  have er:mT f es=14:=by unfold mT;rw [if_neg (Classical.not_not.2 h1),if_pos h2]
  rw [er,if_neg (by omega)]
  have h2':=h2;rw [OK] at h2';obtain ⟨i,h⟩:=Classical.not_forall.1 h2';obtain ⟨hi,hx⟩:=Classical.not_imp.1 h;obtain ⟨m,m1,m2,m3⟩:=KK (c:=fun i=> ¬es[i]!∉es.take i) ⟨i,hi,hx⟩
  have go: ∀j,j<es.length->(es[j]!∈es.take j->eK (rP c f es j)=some (.done (.done (eA,14))))/\(es[j]!∉es.take j->eK (rP c f es j)=some (.next (rP c f es (j+1)))):=by
   intro j hj;have e1:decide ((j:Int)<(es.length:Int))=true:=aO (by omega)
   unfold eK rP;simp only [e1,cond_true,aD es j hj,oS es j (by omega),aB,pH _ _ (show (es.take j).length<=1000000 by rw [List.length_take];omega),aV (show j<1000000000 by omega)]
   by_cases h:es[j]!∈es.take j
   · rw [aO h];exact ⟨fun _=>rfl,fun k=>absurd h k⟩
   · rw [aJ h];exact ⟨fun k=>absurd k h,fun _=>rfl⟩
  have l2:aG eK (rP c f es 0)=some (.done (eA,14)):=by
   rw [bY (body:=eK) (fun i=>rP c f es i) m fun j hj=>(go j (by omega)).2 (Classical.not_not.1 (m3 j hj))]
   exact aK ((go m m1).1 (Classical.not_not.1 m2))
  rw [k3 _ l2,if_pos h1']
 have h2':=OK.1 h2
 by_cases h3: ∀x∈es,lD f x
 case neg=>
  have er:mT f es=6:=by unfold mT;rw [if_neg (Classical.not_not.2 h1),if_neg (Classical.not_not.2 h2),if_pos h3]
  rw [er,if_neg (by omega)]
  have h3':=h3;rw [IL (P:=lD f)] at h3';obtain ⟨i,h⟩:=Classical.not_forall.1 h3';obtain ⟨hi,hx⟩:=Classical.not_imp.1 h;obtain ⟨m,m1,m2,m3⟩:=KK (c:=fun i=> ¬lD f es[i]!) ⟨i,hi,hx⟩
  have l1:aG fH (rP c f es 0)=some (.done (.done (eA,6))):=by
   rw [bY (body:=fH) (fun i=>rP c f es i) m fun j hj=>(step1 j (by omega)).2 (Classical.not_not.1 (m3 j hj))]
   exact aK ((step1 m m1).1 m2)
  rw [k3 _ (k2 _ l1),if_pos h1',if_pos h2']
 have h3':=(IL (P:=lD f)).1 h3;have er:mT f es=0:=by unfold mT;rw [if_neg (Classical.not_not.2 h1),if_neg (Classical.not_not.2 h2),if_neg (Classical.not_not.2 h3)]
 rw [er,if_pos rfl];have l1:aG fH (rP c f es 0)=some (.done (.done r)):=by
  rw [bY (body:=fH) (fun i=>rP c f es i) es.length fun j hj=>(step1 j hj).2 (h3' j hj)]
  refine aK ?_;unfold fH rP;simp only [el,cond_false,tw,aB,hr er]
 rw [k3 _ (k2 _ l1),if_pos h1',if_pos h2']
theorem tk {l:List Int} {m:Nat} {x:Int} (h:l.length=m):(l++[x]).take m=l:=by rw [<- h,List.take_left]
section
variable {k : FJ} {f : List Pt} {m n0 : Nat} {x : Int}
end
section
variable {k : FJ} {P : Pt} {f : List Pt} {m : Nat}
end
end Go.Proofs.YtbncnimfgdelaaaGreat
namespace Go.Proofs.YtbncnimfgdelaaaGreat
abbrev Nd:=Int×Int×Int
structure VW (P:Nat->Nat->Prop) (a b i:Nat):Prop where
 lo:a<=i
 hi:i<b
 top: ∀j,a<=j->j<b->j≠i->P i j
inductive rU (P:Nat->Nat->Prop) (N:List Nd):Nat->Nat->Int->Prop
 |nil {a b:Nat} (h:b<=a):rU P N a b (-1)
 |node {a b i:Nat} (h:VW P a b i) (l:rU P N a i (N[i]!).2.1) (r:rU P N (i+1) b (N[i]!).2.2):rU P N a b (i:Int)
structure aJv (P:Nat->Nat->Prop) (n:Nat):Prop where
 tr: ∀i j k,i<n->j<n->k<n->P i j->P j k->P i k
 asy: ∀i j,i<n->j<n->P i j-> ¬P j i
 tot: ∀i j,i<n->j<n->i≠j-> ¬P i j->P j i
theorem VW.one {P:Nat->Nat->Prop} {n a b i j:Nat} (o:aJv P n) (hb:b<=n) (h:VW P a b i) (k:VW P a b j):i=j:=by
 refine Classical.byContradiction fun hne=>?_
 have:=h.hi;have:=k.hi
 exact o.asy i j (by omega) (by omega) (h.top j k.lo k.hi (fun e=>hne e.symm)) (k.top i h.lo h.hi hne)
theorem rU.link {P:Nat->Nat->Prop} {N:List Nd} {a b:Nat} {r:Int} (h:rU P N a b r):(b<=a/\r= -1)\/(∃i:Nat,r=(i:Int)/\a<=i/\i<b):=by
 cases h with
 |nil h=>exact .inl ⟨h,rfl⟩
 |node h l r=>exact .inr ⟨_,rfl,h.lo,h.hi⟩
theorem rU.unique {P:Nat->Nat->Prop} {n:Nat} (o:aJv P n) {N N':List Nd} {a b:Nat} {r:Int} (h:rU P N a b r): ∀{r':Int},b<=n->rU P N' a b r'->r=r'/\ ∀k,a<=k->k<b->(N[k]!).2=(N'[k]!).2:=by
 induction h with
 |nil h=>
  intro r' hb h';cases h' with
  |nil _=>exact ⟨rfl,fun k h1 h2=>by omega⟩
  |node t _ _=>have:=t.lo;have:=t.hi;omega
 | @node a b i h l r ihl ihr=>
  intro r' hb h';have lo:=h.lo;have hi:=h.hi;cases h' with
  |nil q=>omega
  | @node _ _ j t l' r'=>
   have e:=h.one o hb t;subst e;obtain ⟨e1,f1⟩:=ihl (by omega) l'
   obtain ⟨e2,f2⟩:=ihr hb r';refine ⟨rfl,fun k h1 h2=>?_⟩
   rcases Nat.lt_trichotomy k i with q|q|q
   · exact f1 k h1 q
   · subst q;exact Prod.ext e1 e2
   · exact f2 k (by omega) h2
theorem rU.other {P Q:Nat->Nat->Prop} {n:Nat} (o:aJv Q n) {N:List Nd} {a b:Nat} {r:Int} (h:rU P N a b r):b<=n->(∀k j:Nat,a<=k->k<b->a<=j->j<b->((N[k]!).2.1=(j:Int)\/(N[k]!).2.2=(j:Int))->Q k j)->rU Q N a b r:=by
 induction h with
 |nil h=>exact fun _ _=> .nil h
 | @node a b i h l r ihl ihr=>
  intro hb q;have lo:=h.lo;have hi:=h.hi;have tl:=ihl (by omega) fun k j h1 h2 h3 h4=>q k j h1 (by omega) h3 (by omega)
  have tr:=ihr hb fun k j h1 h2 h3 h4=>q k j (by omega) h2 (by omega) h4
  refine .node ⟨lo,hi,fun j h1 h2 hne=>?_⟩ tl tr
  rcases Nat.lt_or_ge j i with hj|hj
  · generalize hr:(N[i]!).2.1=s at tl
    cases tl with
    |nil q=>omega
    | @node _ _ m t _ _=>
     have t1:=t.lo;have t2:=t.hi;have qm:=q i m lo hi t1 (by omega) (.inl hr)
     by_cases e:j=m
     · rw [e];exact qm
     · exact o.tr i m j (by omega) (by omega) (by omega) qm (t.top j h1 hj e)
  · generalize hr:(N[i]!).2.2=s at tr
    cases tr with
    |nil q=>omega
    | @node _ _ m t _ _=>
     have t1:=t.lo;have t2:=t.hi;have qm:=q i m lo hi (by omega) t2 (.inr hr)
     by_cases e:j=m
     · rw [e];exact qm
     · exact o.tr i m j (by omega) (by omega) (by omega) qm (t.top j (by omega) h2 e)
theorem rU.kids {P:Nat->Nat->Prop} {N:List Nd} {a b:Nat} {r:Int} (h:rU P N a b r): ∀k,a<=k->k<b-> ∀c:Int,((N[k]!).2.1=c\/(N[k]!).2.2=c)->c= -1\/ ∃j:Nat,c=(j:Int)/\a<=j/\j<b/\j≠k/\P k j/\r≠c:=by
 induction h with
 |nil h=>intro k h1 h2;omega
 | @node a b i h l r ihl ihr=>
  have lo:=h.lo;have hi:=h.hi;intro k h1 h2 c hc;rcases Nat.lt_trichotomy k i with q|q|q
  · rcases ihl k h1 q c hc with e|⟨j,e,j1,j2,j3,j4,_⟩
    · exact .inl e
    · exact .inr ⟨j,e,j1,by omega,j3,j4,by rw [e];omega⟩
  · subst q
    rcases hc with hc|hc
    · rcases l.link with ⟨_,e⟩|⟨j,e,j1,j2⟩
      · exact .inl (hc▸e)
      · exact .inr ⟨j,hc▸e,j1,by omega,by omega,h.top j j1 (by omega) (by omega),by rw [<- hc,e];omega⟩
    · rcases r.link with ⟨_,e⟩|⟨j,e,j1,j2⟩
      · exact .inl (hc▸e)
      · exact .inr ⟨j,hc▸e,by omega,j2,by omega,h.top j (by omega) j2 (by omega),by rw [<- hc,e];omega⟩
  · rcases ihr k (by omega) h2 c hc with e|⟨j,e,j1,j2,j3,j4,_⟩
    · exact .inl e
    · exact .inr ⟨j,e,by omega,j2,j3,j4,by rw [e];omega⟩
theorem rU.up {P:Nat->Nat->Prop} {N:List Nd} {a b:Nat} {r:Int} (h:rU P N a b r): ∀k:Nat,a<=k->k<b->(k:Int)≠r-> ∃j,a<=j/\j<b/\((N[j]!).2.1=(k:Int)\/(N[j]!).2.2=(k:Int))/\ ∀m,a<=m->m<b->((N[m]!).2.1=(k:Int)\/(N[m]!).2.2=(k:Int))->m=j:=by
 induction h with
 |nil h=>intro k h1 h2;omega
 | @node a b i h l r ihl ihr=>
  have lo:=h.lo;have hi:=h.hi;have lk:=l.kids;have rk:=r.kids;intro k h1 h2 hne;have hki:k≠i:=fun e=>hne (by rw [e])
  rcases Nat.lt_or_ge k i with q|q
  · by_cases er:(k:Int)=(N[i]!).2.1
    · refine ⟨i,lo,hi,.inl er.symm,fun m m1 m2 hm=>?_⟩
      rcases Nat.lt_trichotomy m i with w|w|w
      · rcases lk m m1 w _ hm with e|⟨j,e,_,_,_,_,hr⟩
        · omega
        · exact absurd er.symm hr
      · exact w
      · rcases rk m (by omega) m2 _ hm with e|⟨j,e,j1,_⟩<;>omega
    · obtain ⟨j,j1,j2,j3,j4⟩:=ihl k h1 q er
      refine ⟨j,j1,by omega,j3,fun m m1 m2 hm=>?_⟩
      rcases Nat.lt_trichotomy m i with w|w|w
      · exact j4 m m1 w hm
      · subst w
        rcases hm with hm|hm
        · exact absurd hm.symm er
        · rcases r.link with ⟨_,e⟩|⟨p,e,p1,p2⟩<;>omega
      · rcases rk m (by omega) m2 _ hm with e|⟨p,e,p1,_⟩<;>omega
  · by_cases er:(k:Int)=(N[i]!).2.2
    · refine ⟨i,lo,hi,.inr er.symm,fun m m1 m2 hm=>?_⟩
      rcases Nat.lt_trichotomy m i with w|w|w
      · rcases lk m m1 w _ hm with e|⟨j,e,_,j2,_⟩<;>omega
      · exact w
      · rcases rk m (by omega) m2 _ hm with e|⟨j,e,_,_,_,_,hr⟩
        · omega
        · exact absurd er.symm hr
    · obtain ⟨j,j1,j2,j3,j4⟩:=ihr k (by omega) h2 er
      refine ⟨j,by omega,j2,j3,fun m m1 m2 hm=>?_⟩
      rcases Nat.lt_trichotomy m i with w|w|w
      · rcases lk m m1 w _ hm with e|⟨p,e,_,p2,_⟩<;>omega
      · subst w
        rcases hm with hm|hm
        · rcases l.link with ⟨_,e⟩|⟨p,e,p1,p2⟩<;>omega
        · exact absurd hm.symm er
      · exact j4 m (by omega) m2 hm
inductive OO (P:Nat->Nat->Prop) (N:List Nd):Nat->Nat->Int->List Nat->Prop
 |nil {a b:Nat} (h:b<=a):OO P N a b (-1) []
 |cons {a b k:Nat} {es:List Nat} (h:VW P a b k) (l:rU P N a k (N[k]!).2.1) (r:OO P N (k+1) b (N[k]!).2.2 es):OO P N a b (k:Int) (k::es)
theorem OO.tree {P:Nat->Nat->Prop} {N:List Nd} {a b:Nat} {r:Int} {es:List Nat} (h:OO P N a b r es):rU P N a b r:=by
 induction h with
 |nil h=>exact .nil h
 |cons h l r ih=>exact .node h l ih
theorem OO.mem {P:Nat->Nat->Prop} {N:List Nd} {a b:Nat} {r:Int} {es:List Nat} (h:OO P N a b r es): ∀e∈es,a<=e/\e<b:=by
 induction h with
 |nil h=>intro e he;cases he
 |cons h l r ih=>
  intro e he;have lo:=h.lo;have hi:=h.hi;rcases List.mem_cons.1 he with rfl|he
  · exact ⟨lo,hi⟩
  · have:=ih e he;omega
end Go.Proofs.YtbncnimfgdelaaaGreat
namespace Go.Proofs.YtbncnimfgdelaaaGreat
open Go.Vm Classical
def YD (f:List Pt) (t:Int×Int) (i j:Nat):Prop:=dF f[i]! f[j]! t
theorem yT {p q:Pt} {t:Int×Int} (h:dF p q t): ¬dF q p t:=by
 unfold dF at*;rw [SD] at*;generalize p.2.1*t.2+p.2.2*t.1=a at*;generalize q.2.1*t.2+q.2.2*t.1=b at*;omega
theorem LK {f:List Pt} (h:fJ f) (t:Int×Int):aJv (YD f t) f.length where
 tr:=fun _ _ _ _ _ _ h1 h2=>KU h1 h2
 asy:=fun _ _ _ _ h=>yT h
 tot:=fun _ _ hi hj hne hn=>D2 t (fun e=>hne (xJ h hi hj e)) hn
structure D5 (f:List Pt) (t:Int×Int) (N:List Nd) (r:Int):Prop where
 len:N.length=f.length
 ids: ∀k,k<f.length->(N[k]!).1=(f[k]!).1
 tree:rU (YD f t) N 0 f.length r
theorem D5.same {f:List Pt} (h:fJ f) {t:Int×Int} {N N':List Nd} {r r':Int} (a:D5 f t N r) (b:D5 f t N' r'):N=N'/\r=r':=by
 obtain ⟨e1,e2⟩:=a.tree.unique (LK h t) (Nat.le_refl _) b.tree;refine ⟨rR (by rw [a.len,b.len]) fun k hk=>?_,e1⟩
 have hk:k<f.length:=by rw [<- a.len];exact hk
 exact Prod.ext (by rw [a.ids k hk,b.ids k hk]) (e2 k (Nat.zero_le _) hk)
def Below (N:List Nd) (k j:Nat):Prop:=(N[j]!).2.1=(k:Int)\/(N[j]!).2.2=(k:Int)
noncomputable def K8 (N:List Nd) (k:Nat):Nat:=if h: ∃j,j<N.length/\Below N k j then h.choose else N.length
noncomputable def aRp (N:List Nd) (k:Nat):List (Int×Int):=if K8 N k<N.length then [((N[k]!).1,(N[K8 N k]!).1)] else []
noncomputable def aDr (N:List Nd):Nat->List (Int×Int)
 |0=>[]
 |k+1=>aDr N k++aRp N k
section
variable {f : List Pt} {t : Int × Int} {N : List Nd} {r : Int}
theorem D5.par (h:D5 f t N r) {k:Nat} (hk:k<f.length):((k:Int)=r->K8 N k=N.length)/\((k:Int)≠r->K8 N k<N.length/\Below N k (K8 N k)/\K8 N k≠k/\YD f t (K8 N k) k)/\ ∀m,m<N.length->Below N k m->m=K8 N k:=by
 have ln:=h.len
 by_cases hr:(k:Int)=r
 · have none: ¬ ∃j,j<N.length/\Below N k j:=by
    rintro ⟨j,hj,hb⟩;rcases h.tree.kids j (Nat.zero_le _) (by omega) (k:Int) hb with e|⟨_,_,_,_,_,_,e⟩
    · omega
    · exact e hr.symm
   have e:K8 N k=N.length:=by unfold K8;rw [dif_neg none]
   exact ⟨fun _=>e,fun q=>absurd hr q,fun m hm hb=>absurd ⟨m,hm,hb⟩ none⟩
 · obtain ⟨j,_,j2,j3,j4⟩:=h.tree.up k (Nat.zero_le _) hk hr
   have ex: ∃j,j<N.length/\Below N k j:=⟨j,by omega,j3⟩
   have e:K8 N k=j:=by
    unfold K8;rw [dif_pos ex]
    have:=ex.choose_spec
    exact j4 _ (Nat.zero_le _) (by omega) this.2
   refine ⟨fun q=>absurd q hr,fun _=>?_,fun m hm hb=>by rw [e];exact j4 m (Nat.zero_le _) (by omega) hb⟩
   rw [e];refine ⟨by omega,j3,?_,?_⟩
   · rcases h.tree.kids j (Nat.zero_le _) j2 (k:Int) j3 with q|⟨i,q,_,_,q2,_⟩
     · omega
     · intro w;omega
   · rcases h.tree.kids j (Nat.zero_le _) j2 (k:Int) j3 with q|⟨i,q,_,_,_,q2,_⟩
     · omega
     · have:i=k:=by omega
       rw [<- this];exact q2
end
def o1 (f:List Pt) (t:Int×Int) (e c:Nat) (i:Nat) (root:Int) (N:List Nd) (E:List Int) (left:Int):=
 (e,c,(i:Int),f,(f.length:Int),(i:Int),f,t.1,t.2,(0:Int),root,N,E,(f[i]!).1,(f[i]!).2.1,(f[i]!).2.2,(f[i]!).1,left,(-1:Int))
section
variable {f : List Pt} {t : Int × Int} {N : List Nd} {r : Int}
theorem D5.link (h:D5 f t N r) {j:Nat} (hj:j<f.length) {c:Int} (hc:(N[j]!).2.1=c\/(N[j]!).2.2=c):c= -1\/(0<=c/\c<N.length):=by
 have ln:=h.len;rcases h.tree.kids j (Nat.zero_le _) hj c hc with e|⟨k,e,_,k2,_⟩
 · exact .inl e
 · exact .inr ⟨by omega,by omega⟩
end
structure aDs (k:RW):Prop where
 clk:bG k.clock
 tree:D5 k.clock.field.points k.clock.now k.tree.nodes k.tree.root
 cert:(k.clock.certs.list.map fun x=>x.2).Perm (aDr k.tree.nodes k.clock.field.points.length)
theorem OP {α:Type} [BEq α] [LawfulBEq α]: ∀{a b:List α},a.Nodup->(∀x∈a,x∈b)->a.length<=b.length
 | [],_,_,_=>Nat.zero_le _
 |x::a,b,hd,h=>by
  rw [List.nodup_cons] at hd;have hx:=h x List.mem_cons_self
  have:=OP (a:=a) (b:=b.erase x) hd.2 (fun y hy=>by
   rw [List.mem_erase_of_ne (fun e=>hd.1 (by rw [<- e];exact hy))]
   exact h y (List.mem_cons_of_mem _ hy))
  rw [List.length_erase_of_mem hx] at this
  have:=List.length_pos_of_mem hx
  rw [List.length_cons];omega
theorem VX {α:Type} [BEq α] [LawfulBEq α] {a b:List α} (ha:a.Nodup) (hb:b.Nodup) (h1: ∀x∈a,x∈b) (h2: ∀x∈b,x∈a):a.Perm b:=tF ha h1 (OP hb h2)
structure aDt (R:RW) (F:List Pt) (t:Int×Int):Prop where
 ok:aDs R
 fld:R.clock.field.points=F
 now:R.clock.now=t
theorem aDt.nums {R:RW} {F:List Pt} {t:Int×Int} (h:aDt R F t):xN R.clock:=h.ok.clk.fit
theorem aDt.same {R S:RW} {F:List Pt} {t:Int×Int} (h:aDt R F t) (k:aDt S F t):R.tree=S.tree:=by
 have a:=h.ok.tree;rw [h.fld,h.now] at a;have b:=k.ok.tree;rw [k.fld,k.now] at b;obtain ⟨e1,e2⟩:=a.same (by rw [<- h.fld];exact h.ok.clk.fld.2.2) b
 obtain ⟨_,⟨r,N⟩⟩:=R;obtain ⟨_,⟨r',N'⟩⟩:=S;simp only at e1 e2;subst e1 e2;rfl
theorem OQ {f:List Pt} (hs:fJ f) {q:Pt} (h:q∈f):fU f q.1=q:=by
 obtain ⟨i,hi,rfl⟩:=aY.1 h;exact wG hs hi rfl
theorem LL {f:List Pt} (hs:fJ f) {x:Int} (h:mS f x):fU f x∈f/\(fU f x).1=x:=by
 obtain ⟨i,hi,rfl⟩:=h;rw [OQ hs (bH hi)];exact ⟨bH hi,rfl⟩
theorem IN {f:List Pt} (hs:fJ f) (t:Int×Int):SO (fun a b=>dF (fU f a) (fU f b) t) (mS f) where
 irr:=fun a _ h=>yT h h
 tr:=fun _ _ _ _ _ _ h k=>KU h k
 tot:=fun a b ha hb hne=>by
  rcases Classical.em (dF (fU f a) (fU f b) t) with h|h
  · exact .inl h
  · exact .inr (D2 t (by rw [(LL hs ha).2,(LL hs hb).2];exact hne) h)
abbrev jV (f:List Pt) (t:Int×Int) (a b:Int):Prop:=dF (fU f a) (fU f b) t
theorem QE {f:List Pt} (hs:fJ f) {t:Int×Int} {l:List Int} (hp: ∀x∈l,mS f x) (nd:l.Nodup):(∀e∈D0 l,dF (fU f e.2) (fU f e.1) t)↔Hp (jV f t) l:=by
 constructor
 · intro h j h1 h2 c
   have hm:(l[j]!,l[par j]!)∈D0 l:=by
    refine aY.2 ⟨j-1,by rw [GQ];omega,?_⟩
    rw [KT l (show j-1<l.length-1 by omega),show j-1+1=j by omega]
   exact yT c (h _ hm)
 · intro h e he
   obtain ⟨i,hi,rfl⟩:=aY.1 he;rw [GQ] at hi;rw [KT l hi]
   have:=h (i+1) (by omega) (by omega)
   have pe:par (i+1)=i / 2:=by simp only [par];omega
   rw [pe] at this;refine D2 t ?_ this;rw [(LL hs (hp _ (bH (by omega)))).2,(LL hs (hp _ (bH (by omega)))).2]
   exact fun e=>fC.1 nd (i / 2) (i+1) (by omega) (by omega) e.symm
structure aS3 (R:FJ) (F:List Pt) (t:Int×Int):Prop where
 ok:xP R
 fld:R.clock.field.points=F
 now:R.clock.now=t
theorem xP.len {k:FJ} (h:xP k):k.heap.length=k.clock.field.points.length:=by rw [<- h.perm.length_eq];exact List.length_map ..
theorem xP.bd {k:FJ} (h:xP k):k.heap.length<=64:=by have:=h.len;have:=h.clk.fld.1;omega
theorem xP.has {k:FJ} (h:xP k): ∀x∈k.heap,mS k.clock.field.points x:=fun _ hx=>nM.1 (h.perm.mem_iff.2 hx)
theorem xP.nd {k:FJ} (h:xP k):k.heap.Nodup:=h.perm.nodup_iff.1 (oT h.clk.fld.2.2)
theorem xP.hp {k:FJ} (h:xP k):Hp (jV k.clock.field.points k.clock.now) k.heap:=(QE h.clk.fld.2.2 h.has h.nd).1 h.lead
theorem F0s.heap {c:aP} {f:List Pt} (fok:bD f) {l:List Int} (pm:(pI f).Perm l) {R:FJ} (e:R.heap=l) (q:F0s c f (D0 l) R.clock) (h:Hp (jV f c.now) l):aS3 R f c.now:=by
 have nd:=pm.nodup_iff.1 (oT fok.2.2);refine ⟨⟨q.ok,by rw [q.fld,e];exact pm,?_,?_⟩,q.fld,q.now⟩
 · rw [e]
   exact VX (D1 q.ok.crt) (VT nd) (fun x hx=>by obtain ⟨y,hy,rfl⟩:=List.mem_map.1 hx;exact q.sub y hy) (fun x hx=>AU.1 (q.has x hx))
 · rw [e,q.fld,q.now]
   exact (QE fok.2.2 (fun x hx=>nM.1 (pm.mem_iff.2 hx)) nd).2 h
theorem VY {α:Type} (z:α): ∀(l:List (Int×α)) (k:Int) (a:α) (j:Int),lE z (nL l k a) j=if j=k then a else lE z l j
 | [],k,a,j=>by
  simp only [nL,lE]
  by_cases h:j=k
  · rw [if_pos h,gC h];rfl
  · rw [if_neg h,eQ h];rfl
 |p::l,k,a,j=>by
  simp only [nL]
  by_cases h:k=p.1
  · rw [gC h,cond_true]
    simp only [lE]
    by_cases c:j=k
    · rw [if_pos c,gC c];rfl
    · rw [if_neg c,eQ c,cond_false,eQ (by rw [<- h];exact c),cond_false]
  · rw [eQ h,cond_false]
    simp only [lE];rw [VY z l k a j]
    by_cases c:j=p.1
    · rw [gC c,cond_true,cond_true,if_neg (by rw [c];exact fun e=>h e.symm)]
    · rw [eQ c,cond_false,cond_false]
def kS (m:List (Int×Int)) (l:List (Int×Int)):List (Int×Int):=l.foldl (fun m e=>nL m e.1 e.2) m
theorem KW (m l l':List (Int×Int)):kS m (l++l')=kS (kS m l) l':=List.foldl_append ..
theorem VZ: ∀(l m:List (Int×Int)) (j:Int),(l.map fun e=>e.1).Nodup->lE 0 (kS m l) j=if j∈l.map fun e=>e.1 then lE 0 l j else lE 0 m j
 | [],m,j,_=>by simp only [kS,List.foldl_nil,List.map_nil,List.not_mem_nil,if_false]
 |e::l,m,j,nd=>by
  obtain ⟨h1,h2⟩:=List.nodup_cons.1 (by simpa using nd:(e.1::l.map fun e=>e.1).Nodup)
  show lE 0 (kS (nL m e.1 e.2) l) j=_;rw [VZ l _ j h2,VY];simp only [List.map_cons,List.mem_cons,lE]
  by_cases c:j=e.1
  · rw [if_neg (by rw [c];exact h1),if_pos c,if_pos (.inl c),gC c];rfl
  · rw [if_neg c,eQ c,cond_false]
    by_cases d:j∈l.map fun e=>e.1
    · rw [if_pos d,if_pos (.inr d)]
    · rw [if_neg d,if_neg (fun h=>h.elim c d)]
theorem OR: ∀{l:List (Int×Int)} {j v:Int},(l.map fun e=>e.1).Nodup->(j,v)∈l->lE 0 l j=v
 |e::l,j,v,nd,h=>by
  obtain ⟨h1,h2⟩:=List.nodup_cons.1 (by simpa using nd:(e.1::l.map fun e=>e.1).Nodup)
  simp only [lE];rcases List.mem_cons.1 h with rfl|h
  · rw [gC rfl];rfl
  · have:j≠e.1:=fun c=>h1 (by rw [<- c];exact List.mem_map.2 ⟨_,h,rfl⟩)
    rw [eQ this,cond_false];exact OR h2 h
def nB (x:Int) (d:Nat):Nat:=x.toNat / 2^(min d 64)%2
theorem LM (x:Int) (d:Nat):nB x d<2:=Nat.mod_lt _ (by omega)
noncomputable def oX (f:List Pt) (t:Int×Int):List (Int×Int):=iV (jV f t) nB f.length (pI f) (-1) 0
noncomputable def pU (f:List Pt) (t:Int×Int):List Int:=f.map fun p=>lE 0 (oX f t) p.1
def dU (f:List Pt) (U:List Int):Nat->List (Int×Int)
 |0=>[]
 |i+1=>dU f U i++(if 0<=U[i]! then [((f[i]!).1,U[i]!)] else [])
section
variable {f : List Pt} {t : Int × Int}
theorem IP (fok:bD f):((oX f t).map fun e=>e.1).Perm (pI f)/\ ∀e∈oX f t,e.2= -1\/(e.2∈pI f/\jV f t e.2 e.1):=
 GS (IN fok.2.2 t) LM f.length (pI f) (-1) 0 (fun x hx=>nM.1 hx) (oT fok.2.2) (by unfold pI;rw [List.length_map];exact Nat.le_refl _)
theorem EZ (f:List Pt) (t:Int×Int):(pU f t).length=f.length:=List.length_map ..
theorem YE {i:Nat} (hi:i<f.length):(pU f t)[i]! =lE 0 (oX f t) (f[i]!).1:=by
 unfold pU;rw [getElem!_pos _ i (by rw [List.length_map];exact hi),List.getElem_map,getElem!_pos f i hi]
theorem aJw (fok:bD f) {i:Nat} (hi:i<f.length):((f[i]!).1,(pU f t)[i]!)∈oX f t:=by
 obtain ⟨h1,_⟩:=IP (t:=t) fok;obtain ⟨e,he,h2⟩:=List.mem_map.1 (h1.mem_iff.2 (nM.2 ⟨i,hi,rfl⟩));have nd:=h1.nodup_iff.2 (oT fok.2.2);rw [YE hi,<- h2,OR nd (show (e.1,e.2)∈oX f t from he)];exact he
theorem aPb (fok:bD f) {i:Nat} (hi:i<f.length):(pU f t)[i]! = -1\/(0<=(pU f t)[i]!/\mS f (pU f t)[i]!/\(pU f t)[i]!≠(f[i]!).1/\dF (fU f (pU f t)[i]!) f[i]! t):=by
 rcases (IP (t:=t) fok).2 _ (aJw fok hi) with h|⟨h1,h2⟩
 · exact .inl h
 · have hp:=nM.1 h1
   have hp:mS f (pU f t)[i]!:=hp;have pk:=jA fok hp;have h2:dF (fU f (pU f t)[i]!) (fU f (f[i]!).1) t:=h2;rw [wG fok.2.2 hi rfl] at h2;refine .inr ⟨?_,hp,fun e=>?_,h2⟩
   · have:=pk.1.1
     rw [pk.2] at this;exact this
   · have:fU f (pU f t)[i]! =f[i]!:=by rw [e,wG fok.2.2 hi rfl]
     rw [this] at h2;exact yT h2 h2
theorem GT {U:List Int}: ∀{n:Nat} {e:Int×Int},e∈dU f U n↔ ∃i,i<n/\0<=U[i]!/\e=((f[i]!).1,U[i]!)
 |0,e=>by
  constructor
  · intro h;cases h
  · rintro ⟨i,h,_⟩;omega
 |n+1,e=>by
  rw [dU,List.mem_append,GT];constructor
  · rintro (⟨i,h1,h2,h3⟩|h)
    · exact ⟨i,by omega,h2,h3⟩
    · split at h
      · rename_i hc;exact ⟨n,by omega,hc,List.mem_singleton.1 h⟩
      · cases h
  · rintro ⟨i,h1,h2,h3⟩
    by_cases c:i=n
    · subst c;rw [if_pos h2];exact .inr (List.mem_singleton.2 h3)
    · exact .inl ⟨i,by omega,h2,h3⟩
theorem pZ (U:List Int): ∀n,(dU f U n).length<=n
 |0=>Nat.le_refl _
 |n+1=>by
  have:=pZ U n
  rw [dU,List.length_append];split
  · rw [List.length_singleton];omega
  · rw [List.length_nil];omega
theorem IQ (hs:fJ f) (U:List Int): ∀n,n<=f.length->(dU f U n).Nodup
 |0,_=>List.nodup_nil
 |n+1,h=>by
  rw [dU];refine List.nodup_append.2 ⟨IQ hs U n (by omega),by split<;>simp,fun a ha b hb e=>?_⟩
  obtain ⟨i,h1,_,h3⟩:=GT.1 ha;split at hb
  · have hb:=List.mem_singleton.1 hb
    rw [hb] at e;rw [h3] at e
    have:(f[i]!).1=(f[n]!).1:=by injection e
    have:=gS hs h1 h
    omega
  · cases hb
theorem E0 (fok:bD f):IK f (dU f (pU f t) f.length)/\(dU f (pU f t) f.length).Nodup/\ ∀e∈dU f (pU f t) f.length,dF (fU f e.2) (fU f e.1) t:=by
 have f1:=fok.1;have el:=pZ (f:=f) (pU f t) f.length;have key: ∀e∈dU f (pU f t) f.length,lD f e/\e.1≠e.2/\dF (fU f e.2) (fU f e.1) t:=fun e he=>by
  obtain ⟨i,hi,h0,rfl⟩:=GT.1 he;rcases aPb (t:=t) fok hi with h|⟨_,h2,h3,h4⟩
  · omega
  · exact ⟨⟨⟨i,hi,rfl⟩,h2⟩,fun e=>h3 e.symm,by rw [wG fok.2.2 hi rfl];exact h4⟩
 refine ⟨⟨by omega,fun e he=>?_,fun e he=>(key e he).1⟩,IQ fok.2.2 _ _ (Nat.le_refl _),fun e he=>(key e he).2.2⟩
 obtain ⟨hb,ne,_⟩:=key e he;obtain ⟨⟨p1,p2⟩,q1,q2⟩:=And.intro (jA fok hb.1) (jA fok hb.2);unfold gV at p1 q1;unfold fY;omega
end
theorem aDu {x:Int} (h0:0<=x) (d:Nat):kD .i64 x (d:Int)=((x.toNat / 2^(min d 64):Nat):Int):=by
 unfold kD;rw [show (IntKind.bits .i64)=64 from rfl,Int.toNat_natCast,Int.fdiv_eq_ediv_of_nonneg _ (Int.le_of_lt (Int.pow_pos (by decide)))]
 obtain ⟨n,rfl⟩: ∃n:Nat,x=(n:Int):=⟨x.toNat,by omega⟩
 rw [Int.toNat_natCast]
 norm_cast
theorem aJx {n:Nat} (h:n<9223372036854775808):sG .i64 (n:Int) 1=((n%2:Nat):Int):=by
 unfold sG;have e:(BitVec.ofInt (IntKind.bits .i64) (n:Int)&&&BitVec.ofInt (IntKind.bits .i64) 1).toNat=n%2:=by
  rw [BitVec.toNat_and,BitVec.toNat_ofInt,BitVec.toNat_ofInt];rw [show (IntKind.bits .i64)=64 from rfl];have e64:((2^64:Nat):Int)=18446744073709551616:=rfl;have e1:((n:Int)%((2^64:Nat):Int)).toNat=n:=by rw [e64];omega
  have e2:((1:Int)%((2^64:Nat):Int)).toNat=1:=by rw [e64];rfl
  rw [e1,e2,Nat.and_one_is_mod]
 rw [e]
 have:=Nat.mod_lt n (show 0<2 by decide)
 have c:n%2=0\/n%2=1:=by omega
 rcases c with c|c<;>rw [c]<;>rfl
theorem aAd {x:Int} (h0:0<=x) (h1:x<=65535) (d:Nat):sG .i64 (kD .i64 x (d:Int)) 1=(nB x d:Int):=by
 rw [aDu h0,aJx]
 · rfl
 · have:=Nat.div_le_self x.toNat (2^(min d 64));omega
theorem aJy {x:Int} (h0:0<=x) (d:Nat):Int.tmod (kD .i64 x (d:Int)) 2=(nB x d:Int):=by
 rw [aDu h0];show Int.tmod _ ((2:Nat):Int)=_;rw [<- Int.ofNat_tmod];rfl
section
variable {f : List Pt} {t : Int × Int}
noncomputable def fT (t:Int×Int) (r:List Pt) (x:Pt):Pt:=r.foldl (fun a p=>if dF p a t then p else a) x
theorem LN (fok:bD f): ∀(r:List Pt) (x:Pt),x∈f->(∀p∈r,p∈f)->(fT t r x).1=(r.map fun p=>p.1).foldl (fun a y=>if jV f t y a then y else a) x.1/\fT t r x∈f
 | [],x,hx,_=>⟨rfl,hx⟩
 |p::r,x,hx,hr=>by
  have hp:=hr p List.mem_cons_self;have e:jV f t p.1 x.1↔dF p x t:=by show dF (fU f p.1) (fU f x.1) t↔_;rw [OQ fok.2.2 hp,OQ fok.2.2 hx]
  show (fT t r (if dF p x t then p else x)).1=_/\fT t r (if dF p x t then p else x)∈f
  rw [List.map_cons,List.foldl_cons]
  by_cases c:dF p x t
  · rw [if_pos c,if_pos (e.2 c)];exact LN fok r p hp fun q hq=>hr q (List.mem_cons_of_mem _ hq)
  · rw [if_neg c,if_neg (fun k=>c (e.1 k))];exact LN fok r x hx fun q hq=>hr q (List.mem_cons_of_mem _ hq)
def dZ (l:List Pt) (top:Int) (d b:Nat):List Pt:=l.filter fun p=>decide (p.1≠top)&&decide (nB p.1 d=b)
theorem tG (l:List Pt) (top:Int) (d b:Nat):(dZ l top d b).map (fun p=>p.1)=rZ nB (l.map fun p=>p.1) top d b:=by
 unfold dZ rZ
 induction l with
 |nil=>rfl
 |cons p l ih=>
  rw [List.filter_cons,List.map_cons,List.filter_cons]
  by_cases c:p.1≠top/\nB p.1 d=b
  · rw [if_pos (by simpa using c),if_pos (by simpa using c),List.map_cons,ih]
  · rw [if_neg (by simpa using c),if_neg (by simpa using c),ih]
theorem aBh {l:List Pt} {top:Int} {d b:Nat} {p:Pt} (h:p∈dZ l top d b):p∈l:=(List.mem_filter.1 h).1
theorem AW (l:List Pt) (top:Int) (d b:Nat):(dZ l top d b).length<=l.length:=List.length_filter_le ..
theorem CA (l:List Pt) (p:Pt) (top:Int) (d b:Nat):dZ (l++[p]) top d b=dZ l top d b++(if p.1≠top/\nB p.1 d=b then [p] else []):=by
 unfold dZ;rw [List.filter_append]
 congr 1
 by_cases c:p.1≠top/\nB p.1 d=b
 · rw [if_pos c,List.filter_cons,if_pos (by simpa using c)];rfl
 · rw [if_neg c,List.filter_cons,if_neg (by simpa using c)];rfl
theorem aDv (fok:bD f) (r:bQ t) (r64:pR t) {p q:Pt} (hp:p∈f) (hq:q∈f) (hne:p.1≠q.1):mL p q (t.1,t.2)=some (decide (dF p q t),0):=by
 rcases K7 (fok.2.1 _ hp) (fok.2.1 _ hq) r64 r with h|⟨h,_⟩
 · rw [show ((t.1,t.2):Int×Int)=t from rfl,h,if_neg hne]
 · exact absurd h hne
theorem V0 {l:List Pt} {x:Pt} (i:Nat) (hi:i<l.length):fT t (l.take (i+1)) x=if dF l[i]! (fT t (l.take i) x) t then l[i]! else fT t (l.take i) x:=by
 rw [cP hi];unfold fT;rw [List.foldl_append];rfl
structure LOK (f:List Pt) (l:List Pt):Prop where
 sub: ∀p∈l,p∈f
 nd:(l.map fun p=>p.1).Nodup
 len:l.length<=64
theorem LOK.side {l:List Pt} (h:LOK f l) (top:Int) (d b:Nat):LOK f (dZ l top d b) where
 sub:=fun p hp=>h.sub p (aBh hp)
 nd:=by rw [tG];exact yS h.nd _ _ _
 len:=Nat.le_trans (AW ..) h.len
theorem LOK.bits (fok:bD f) {l:List Pt} (h:LOK f l) {p:Pt} (hp:p∈l):0<=p.1/\p.1<=65535:=by
 have:=fok.2.1 p (h.sub p hp)
 unfold gV at this;omega
theorem LOK.ne {l:List Pt} (h:LOK f l) {i j:Nat} (hi:i<l.length) (hj:j<l.length) (hne:i≠j):(l[i]!).1≠(l[j]!).1:=by
 have ll:(l.map fun p=>p.1).length=l.length:=List.length_map ..
 have b: ∀k,k<l.length->(l.map fun p=>p.1)[k]! =(l[k]!).1:=fun k hk=>by
  rw [getElem!_pos _ k (by rw [ll];exact hk),List.getElem_map,getElem!_pos l k hk]
 intro e;rcases Nat.lt_trichotomy i j with c|c|c
 · exact fC.1 h.nd i j c (by omega) (by rw [b i hi,b j hj];exact e)
 · exact hne c
 · exact fC.1 h.nd j i c (by omega) (by rw [b i hi,b j hj];exact e.symm)
theorem D6 (t:Int×Int): ∀(r:List Pt) (x:Pt),fT t r x=x\/fT t r x∈r
 | [],_=> .inl rfl
 |p::r,x=>by
  show fT t r (if dF p x t then p else x)=x\/fT t r (if dF p x t then p else x)∈_
  by_cases c:dF p x t
  · rw [if_pos c]
    rcases D6 t r p with e|e
    · rw [e];exact .inr List.mem_cons_self
    · exact .inr (List.mem_cons_of_mem _ e)
  · rw [if_neg c]
    exact (D6 t r x).imp id (List.mem_cons_of_mem _)
theorem aDw {l:List Pt} (h:LOK f l) {i:Nat} (hi:i+1<l.length):(l[i+1]!).1≠(fT t ((l.drop 1).take i) l[0]!).1:=by
 rcases D6 t ((l.drop 1).take i) l[0]! with e|e
 · rw [e];exact h.ne hi (by omega) (by omega)
 · obtain ⟨j,hj,ej⟩:=aY.1 e
   rw [List.length_take,List.length_drop] at hj
   have:((l.drop 1).take i)[j]! =l[1+j]!:=by
    rw [List.getElem!_eq_getElem?_getD,List.getElem?_take_of_lt (by omega),List.getElem?_drop,<- List.getElem!_eq_getElem?_getD]
   rw [<- ej,this];exact h.ne hi (by omega) (by omega)
theorem IR {l:List Pt} {i:Nat} (_:i+1<l.length):(l.drop 1)[i]! =l[i+1]!:=by
 rw [List.getElem!_eq_getElem?_getD,List.getElem?_drop,<- List.getElem!_eq_getElem?_getD,Nat.add_comm 1 i]
def g1S (t:Int×Int) (l:List Pt) (M:List (Int×Int)) (d:Nat) (top:Pt) (s0 s1:List Pt) (i:Nat):=
 ((d:Int),(l.length:Int),(i:Int),l,M,t.1,t.2,top.1,top.2.1,top.2.2,s0,s1)
def g2S (t:Int×Int) (l:List Pt) (M:List (Int×Int)) (u:Int) (d:Nat) (top:Pt) (i:Nat):=
 (u,(d:Int),(1:Nat),l.length-1,l.length-1,((l.length-1:Nat):Int),(i:Int),l,M,t.1,t.2,top)
theorem aPc (fok:bD f) {l:List Pt} (h:LOK f l) {d:Nat} (hd:d<=1000) {top:Pt} {M:List (Int×Int)} {u:Int} {c0:_} {c1:_} (hc:c1.2.2.2.2.1.length=l.length)
 {M2 M3:List (Int×Int)} (r1:c0 (t.1,t.2,top.1,((d+1:Nat):Int),dZ l top.1 d 0,M)=some (dZ l top.1 d 0,M2)) (r2:c0 (t.1,t.2,top.1,((d+1:Nat):Int),dZ l top.1 d 1,M2)=some (dZ l top.1 d 1,M3)):
 aG (hZ c0 c1) (g1S t l M d top [] [] 0)=some (.done (l,M3)):=by
 have hl:=h.len;have st:=bY (body:=hZ c0 c1) (fun i=>g1S t l M d top (dZ (l.take i) top.1 d 0) (dZ (l.take i) top.1 d 1) i) l.length (fun i hi=>by
  have pm:=bH hi;obtain ⟨b0,b1⟩:=h.bits fok pm;have bt:=aAd b0 b1 d;have lt:=LM (l[i]!).1 d;have s0:=CA (l.take i) l[i]! top.1 d 0;have s1:=CA (l.take i) l[i]! top.1 d 1;rw [<- cP hi] at s0 s1;have l0:(dZ (l.take i) top.1 d 0).length<=64:=Nat.le_trans (AW ..) (by rw [List.length_take];omega)
  have l1:(dZ (l.take i) top.1 d 1).length<=64:=Nat.le_trans (AW ..) (by rw [List.length_take];omega)
  have a0:bI (dZ (l.take i) top.1 d 0) [l[i]!]=some (dZ (l.take i) top.1 d 0++[l[i]!]):=bT (by rw [List.length_singleton];omega)
  have a1:bI (dZ (l.take i) top.1 d 1) [l[i]!]=some (dZ (l.take i) top.1 d 1++[l[i]!]):=bT (by rw [List.length_singleton];omega)
  rw [s0,s1];unfold hZ g1S;simp only [aO (show (i:Int)<(l.length:Int) by omega),cond_true,aD l i hi,aB,aV (show i<1000000000 by omega),aJ (show¬(d:Int)<0 by omega),cond_false,bt,a0,a1]
  by_cases c:(l[i]!).1=top.1
  · rw [bJ (show (l[i]!).1=top.1 from c),cond_false,if_neg (fun k=>k.1 c),if_neg (fun k=>k.1 c),List.append_nil,List.append_nil]
  · rw [dA c,cond_true]
    by_cases e:nB (l[i]!).1 d=0
    · rw [e,if_pos ⟨c,rfl⟩,if_neg (fun k=>by omega),List.append_nil];rfl
    · have e1:nB (l[i]!).1 d=1:=by omega
      rw [e1,if_neg (fun k=>by omega),if_pos ⟨c,rfl⟩,List.append_nil];rfl)
 rw [List.take_length] at st;refine (show _=_ from st).trans (aK ?_);unfold hZ g1S;simp only [aJ (show¬(l.length:Int)<(l.length:Int) by omega),cond_false,aV (show d<1000000000 by omega),r1,r2,aB,hc,beq_self_eq_true,cond_true]
theorem aKg {l:List Pt} (h0:l≠[]):aN l 0=some l[0]!:=aD l 0 (List.length_pos_iff.2 h0)
theorem aRq (fok:bD f) (r:bQ t) (r64:pR t) {l:List Pt} (h:LOK f l) (h0:l≠[]) {d:Nat} (hd:d<=1000) {M:List (Int×Int)} {u:Int} {c0:_}
 {M2 M3:List (Int×Int)} (r1:c0 (t.1,t.2,(fT t (l.drop 1) l[0]!).1,((d+1:Nat):Int),dZ l (fT t (l.drop 1) l[0]!).1 d 0,nL M (fT t (l.drop 1) l[0]!).1 u)=some (dZ l (fT t (l.drop 1) l[0]!).1 d 0,M2))
 (r2:c0 (t.1,t.2,(fT t (l.drop 1) l[0]!).1,((d+1:Nat):Int),dZ l (fT t (l.drop 1) l[0]!).1 d 1,M2)=some (dZ l (fT t (l.drop 1) l[0]!).1 d 1,M3)):
 oW c0 (t.1,t.2,u,(d:Int),l,M)=some (l,M3):=by
 have hl:=h.len;have hp:=List.length_pos_iff.2 h0;have ld:(l.drop 1).length=l.length-1:=List.length_drop;have dt:(l.drop 1).take (l.length-1)=l.drop 1:=List.take_of_length_le (by omega)
 have st:=bY (body:=kH c0 (t.1,t.2,u,(d:Int),l,M)) (fun i=>g2S t l M u d (fT t ((l.drop 1).take i) l[0]!) i) (l.length-1) (fun i hi=>by
  have q:=aD (l.drop 1) i (by omega)
  rw [IR (by omega)] at q
  have ne:=aDw (t:=t) h (i:=i) (by omega)
  have m1:=h.sub _ (bH (l:=l) (i:=i+1) (by omega))
  have m2:fT t ((l.drop 1).take i) l[0]!∈f:=by
   rcases D6 t ((l.drop 1).take i) l[0]! with e|e
   · rw [e];exact h.sub _ (bH hp)
   · exact h.sub _ (List.mem_of_mem_drop (List.mem_of_mem_take e))
  have A:=aDv fok r r64 m1 m2 ne;have tt:=V0 (t:=t) (l:=l.drop 1) (x:=l[0]!) i (by omega)
  rw [IR (by omega)] at tt
  rw [tt];unfold kH g2S;simp only [aO (show (i:Int)<((l.length-1:Nat):Int) by omega),cond_true,dt,q,aB,A,aV (show i<1000000000 by omega)]
  by_cases c:dF l[i+1]! (fT t ((l.drop 1).take i) l[0]!) t
  · rw [decide_eq_true c,cond_true,if_pos c]
  · rw [decide_eq_false c,cond_false,if_neg c])
 rw [List.take_of_length_le (l:=l.drop 1) (i:=l.length-1) (by omega)] at st
 have ol:=aPc fok h hd (c0:=c0) (c1:=(t.1,t.2,u,(d:Int),l,M)) rfl (u:=u) r1 r2;have e1:((Int.ofNat l.length).toNat) -1=l.length-1:=rfl;unfold oW;have en:((Int.ofNat l.length)==0)=false:=eQ (by show¬(l.length:Int)=0;omega)
 have e2:(((decide ((0:Nat)<=1))&&(decide ((1:Int)<=(Int.ofNat l.length))))&&(decide ((Int.ofNat l.length)<=(Int.ofNat l.length))))=true:=by
  rw [aO (show (1:Int)<=Int.ofNat l.length by show (1:Int)<=(l.length:Int);omega),aO (Int.le_refl _)];rfl
 simp only [en,cond_false,aKg h0,aB];rw [show (((decide ((0:Nat)<=1))&&(decide ((1:Int)<=(Int.ofNat l.length))))&&(decide ((Int.ofNat l.length)<=(Int.ofNat l.length))))=true from e2,cond_true];refine (show _=_ from st).trans (aK ?_);unfold kH g2S;simp only [aJ (Int.lt_irrefl _),cond_false];exact ol
theorem aAf (fok:bD f) (r:bQ t) (r64:pR t): ∀(k n:Nat) (l:List Pt) (u:Int) (d:Nat) (M:List (Int×Int)),LOK f l->l.length<=k->k+1<=n->d+k<=1000->
 gQ n (t.1,t.2,u,(d:Int),l,M)=some (l,kS M (iV (jV f t) nB k (l.map fun p=>p.1) u d))
 |k,0,l,u,d,M,_,_,hn,_=>absurd hn (by omega)
 |k,n+1,[],u,d,M,_,_,_,_=>by cases k<;>rfl
 |0,n+1,x::l,u,d,M,_,hk,_,_=>absurd hk (by rw [List.length_cons];omega)
 |k+1,n+1,x::l,u,d,M,h,hk,hn,hd=>by
  have ti:=LN (t:=t) fok l x (h.sub x List.mem_cons_self) (fun p hp=>h.sub p (List.mem_cons_of_mem _ hp))
  have tl:rW (jV f t) ((x::l).map fun p=>p.1)=(fT t l x).1:=ti.1.symm
  have so:=IN fok.2.2 t;have sl: ∀b,(dZ (x::l) (fT t l x).1 d b).length<=k:=fun b=>by
   have hS: ∀y∈((x::l).map fun p=>p.1),mS f y:=fun y hy=>by
    obtain ⟨p,hp,e⟩:=List.mem_map.1 hy;exact nM.1 (List.mem_map.2 ⟨p,h.sub p hp,e⟩)
   have t1:=(AV so (l:=(x::l).map fun p=>p.1) (by simp) hS).1
   rw [tl] at t1
   have:=J3 (bit:=nB) t1 d b
   rw [<- tG,List.length_map,List.length_map] at this;omega
  have A:=aAf fok r r64 k n (dZ (x::l) (fT t l x).1 d 0) (fT t l x).1 (d+1) (nL M (fT t l x).1 u) (h.side _ _ _) (sl 0) (by omega) (by omega)
  have B:=aAf fok r r64 k n (dZ (x::l) (fT t l x).1 d 1) (fT t l x).1 (d+1) (kS (nL M (fT t l x).1 u) (iV (jV f t) nB k ((dZ (x::l) (fT t l x).1 d 0).map fun p=>p.1) (fT t l x).1 (d+1))) (h.side _ _ _) (sl 1) (by omega) (by omega)
  have C:=aRq fok r r64 h (List.cons_ne_nil x l) (d:=d) (by omega) (u:=u) (M:=M) (c0:=gQ n) A B
  refine (show _=_ from C).trans ?_;rw [tG,tG,<- KW];refine congrArg some (Prod.ext rfl ?_);show kS (nL M (fT t l x).1 u) _=kS M (iV (jV f t) nB (k+1) (x.1::l.map fun p=>p.1) u d)
  simp only [iV];rw [<- show rW (jV f t) (x.1::l.map fun p=>p.1)=(fT t l x).1 from tl]
  rfl
end
section
variable {f : List Pt} {t : Int × Int}
def h1S (t:Int×Int) (l:List Pt) (M:List (Int×Int)) (d:Nat) (top:Pt) (s0 s1:List Pt) (i:Nat):=
 ((d:Int),l,(l.length:Int),(i:Int),M,t.1,t.2,top.1,top.2.1,top.2.2,s0,s1)
def h2S (t:Int×Int) (l:List Pt) (M:List (Int×Int)) (u:Int) (d:Nat) (top:Pt) (i:Nat):=
 (l,u,(d:Int),l.drop 1,((l.drop 1).length:Int),(i:Int),M,t.1,t.2,top)
theorem aPd (fok:bD f) {l:List Pt} (h:LOK f l) {d:Nat} (hd:d<=1000) {top:Pt} {M:List (Int×Int)}
 {M2 M3:List (Int×Int)} (r1:gH (t.1,t.2,top.1,((d+1:Nat):Int),dZ l top.1 d 0,M)=some (dZ l top.1 d 0,M2)) (r2:gH (t.1,t.2,top.1,((d+1:Nat):Int),dZ l top.1 d 1,M2)=some (dZ l top.1 d 1,M3)):
 aG iA (h1S t l M d top [] [] 0)=some (.done M3):=by
 have hl:=h.len;have st:=bY (body:=iA) (fun i=>h1S t l M d top (dZ (l.take i) top.1 d 0) (dZ (l.take i) top.1 d 1) i) l.length (fun i hi=>by
  have pm:=bH hi;obtain ⟨b0,b1⟩:=h.bits fok pm;have bt:=aAd b0 b1 d;have lt:=LM (l[i]!).1 d;have s0:=CA (l.take i) l[i]! top.1 d 0;have s1:=CA (l.take i) l[i]! top.1 d 1;rw [<- cP hi] at s0 s1;have l0:(dZ (l.take i) top.1 d 0).length<=64:=Nat.le_trans (AW ..) (by rw [List.length_take];omega)
  have l1:(dZ (l.take i) top.1 d 1).length<=64:=Nat.le_trans (AW ..) (by rw [List.length_take];omega)
  have a0:bI (dZ (l.take i) top.1 d 0) [l[i]!]=some (dZ (l.take i) top.1 d 0++[l[i]!]):=bT (by rw [List.length_singleton];omega)
  have a1:bI (dZ (l.take i) top.1 d 1) [l[i]!]=some (dZ (l.take i) top.1 d 1++[l[i]!]):=bT (by rw [List.length_singleton];omega)
  rw [s0,s1];unfold iA h1S;simp only [aO (show (i:Int)<(l.length:Int) by omega),cond_true,aD l i hi,aB,aV (show i<1000000000 by omega),aJ (show¬(d:Int)<0 by omega),cond_false,bt,a0,a1]
  by_cases c:(l[i]!).1=top.1
  · rw [bJ (show (l[i]!).1=top.1 from c),cond_false,if_neg (fun k=>k.1 c),if_neg (fun k=>k.1 c),List.append_nil,List.append_nil]
  · rw [dA c,cond_true]
    by_cases e:nB (l[i]!).1 d=0
    · rw [e,if_pos ⟨c,rfl⟩,if_neg (fun k=>by omega),List.append_nil];rfl
    · have e1:nB (l[i]!).1 d=1:=by omega
      rw [e1,if_neg (fun k=>by omega),if_pos ⟨c,rfl⟩,List.append_nil];rfl)
 rw [List.take_length] at st;refine (show _=_ from st).trans (aK ?_);unfold iA h1S;simp only [aJ (show¬(l.length:Int)<(l.length:Int) by omega),cond_false,aV (show d<1000000000 by omega),r1,r2,aB]
theorem aRr (fok:bD f) (r:bQ t) (r64:pR t) {l:List Pt} (h:LOK f l) (h0:l≠[]) {d:Nat} (hd:d<=1000) {M:List (Int×Int)} {u:Int} {c0:_}
 {M2 M3:List (Int×Int)} (r1:gH (t.1,t.2,(fT t (l.drop 1) l[0]!).1,((d+1:Nat):Int),dZ l (fT t (l.drop 1) l[0]!).1 d 0,nL M (fT t (l.drop 1) l[0]!).1 u)=some (dZ l (fT t (l.drop 1) l[0]!).1 d 0,M2))
 (r2:gH (t.1,t.2,(fT t (l.drop 1) l[0]!).1,((d+1:Nat):Int),dZ l (fT t (l.drop 1) l[0]!).1 d 1,M2)=some (dZ l (fT t (l.drop 1) l[0]!).1 d 1,M3)):
 lG c0 (l,t.1,t.2,u,(d:Int),M)=some M3:=by
 have hl:=h.len;have hp:=List.length_pos_iff.2 h0;have ld:(l.drop 1).length=l.length-1:=List.length_drop;have st:=bY (body:=kI) (fun i=>h2S t l M u d (fT t ((l.drop 1).take i) l[0]!) i) (l.drop 1).length (fun i hi=>by
  have q:=aD (l.drop 1) i hi;rw [IR (by omega)] at q
  have ne:=aDw (t:=t) h (i:=i) (by omega)
  have m1:=h.sub _ (bH (l:=l) (i:=i+1) (by omega))
  have m2:fT t ((l.drop 1).take i) l[0]!∈f:=by
   rcases D6 t ((l.drop 1).take i) l[0]! with e|e
   · rw [e];exact h.sub _ (bH hp)
   · exact h.sub _ (List.mem_of_mem_drop (List.mem_of_mem_take e))
  have A:=aDv fok r r64 m1 m2 ne;have tt:=V0 (t:=t) (l:=l.drop 1) (x:=l[0]!) i hi;rw [IR (by omega)] at tt
  rw [tt];unfold kI h2S;simp only [aO (show (i:Int)<((l.drop 1).length:Int) by omega),cond_true,q,aB,A,aV (show i<1000000000 by omega)]
  by_cases c:dF l[i+1]! (fT t ((l.drop 1).take i) l[0]!) t
  · rw [decide_eq_true c,cond_true,if_pos c]
  · rw [decide_eq_false c,cond_false,if_neg c])
 rw [List.take_length] at st;have ol:=aPd (t:=t) fok h hd r1 r2;have e1:iN l 1 (Int.ofNat l.length)=some (l.drop 1):=by
  unfold iN;rw [if_pos (by refine ⟨by decide,?_,Int.le_refl _⟩;show (1:Int)<=(l.length:Int);omega)]
  refine congrArg some ?_;show (l.drop 1).take _=_;exact List.take_of_length_le (by rw [ld];exact Nat.le_refl _)
 unfold lG;have en:((Int.ofNat l.length)==0)=false:=eQ (by show¬(l.length:Int)=0;omega)
 simp only [en,cond_false,aKg h0,aB,e1];refine (show _=_ from st).trans (aK ?_);unfold kI h2S;simp only [aJ (Int.lt_irrefl _),cond_false];exact ol
theorem aJz (fok:bD f) (r:bQ t) (r64:pR t):rC (f,t.1,t.2,-1,0,[])=some (kS [] (oX f t)):=by
 have h:LOK f f:=⟨fun p hp=>hp,oT fok.2.2,fok.1⟩
 have f1:=fok.1;unfold oX;show lG (gR 999999) _=_;cases hf:f with
 |nil=>rfl
 |cons x l=>
  rw [<- hf];have fl:f.length=l.length+1:=by rw [hf];rfl
  have d1:f.drop 1=l:=by rw [hf];rfl
  have g0:f[0]! =x:=by rw [hf];rfl
  have ti:=LN (t:=t) fok l x (by rw [hf];exact List.mem_cons_self) (fun p hp=>by rw [hf];exact List.mem_cons_of_mem _ hp)
  have ei:pI f=x.1::l.map fun p=>p.1:=by unfold pI;rw [hf];rfl
  have tl:rW (jV f t) (pI f)=(fT t l x).1:=by rw [ei];exact ti.1.symm
  have so:=IN fok.2.2 t;have sl: ∀b,(dZ f (fT t l x).1 0 b).length<=l.length:=fun b=>by
   have hS: ∀y∈pI f,mS f y:=fun y hy=>nM.1 hy
   have t1:=(AV so (l:=pI f) (by unfold pI;rw [hf];simp) hS).1
   rw [tl] at t1
   have:=J3 (bit:=nB) t1 0 b
   unfold pI at this;rw [<- tG,List.length_map,List.length_map] at this;omega
  have A:=aAf fok r r64 l.length 1000000 (dZ f (fT t l x).1 0 0) (fT t l x).1 1 (nL [] (fT t l x).1 (-1)) (h.side _ _ _) (sl 0) (by omega) (by omega)
  have B:=aAf fok r r64 l.length 1000000 (dZ f (fT t l x).1 0 1) (fT t l x).1 1 (kS (nL [] (fT t l x).1 (-1)) (iV (jV f t) nB l.length ((dZ f (fT t l x).1 0 0).map fun p=>p.1) (fT t l x).1 1)) (h.side _ _ _) (sl 1) (by omega) (by omega)
  have C:=aRr fok r r64 h (by rw [hf];exact List.cons_ne_nil x l) (d:=0) (by omega) (u:= -1) (M:=[]) (c0:=gR 999999) (M2:=kS (nL [] (fT t l x).1 (-1)) (iV (jV f t) nB l.length ((dZ f (fT t l x).1 0 0).map fun p=>p.1) (fT t l x).1 1)) (M3:=kS (kS (nL [] (fT t l x).1 (-1)) (iV (jV f t) nB l.length ((dZ f (fT t l x).1 0 0).map fun p=>p.1) (fT t l x).1 1)) (iV (jV f t) nB l.length ((dZ f (fT t l x).1 0 1).map fun p=>p.1) (fT t l x).1 1)) (by rw [d1,g0];exact A) (by rw [d1,g0];exact B)
  refine (show _=_ from C).trans (congrArg some ?_);rw [tG,tG,<- KW,fl];rw [show (f.map fun p=>p.1)=pI f from rfl,<- tl]
  generalize jV f t=P;rw [ei];simp only [iV];rfl
end
def hP (c:aP) (r:Int) (N:List Nd) (to:Int×Int) (out:List (Int×Int)):=
 (c.now.1,c.now.2,c.field.points,c.certs.next_,c.certs.list,c.agenda.slots.uses,c.agenda.slots.used,c.agenda.slots.free,c.agenda.heap,c.agenda.where_,c.due,r,N,to.1,to.2,(0:Int),(0:Int),(0:Int),(0:Int),out)
def zQ:aT:=⟨List.replicate 200 0,List.replicate 200 false,(List.range 200).map fun j:Nat=>(199:Int) - (j:Int)⟩
def LO:aI:=⟨zQ,[],List.replicate 200 (-1)⟩
def GU (f:Field) (t:Int×Int):aP:=⟨t,f,⟨0,[]⟩,LO,[]⟩
theorem V1:HQ 200=some (zQ,0):=
 (by kernel_rfl:HQ 200=aG KJ (200,200,0,List.replicate 200 0,List.replicate 200 false,List.replicate 200 0)).trans (uZ.2 ⟨300,by kernel_rfl⟩)
theorem aBi:kF [-1] 200=some (List.replicate 200 (-1)):=by
 unfold kF zB;have m:gT (aA .u64 (Int.ofNat ([-1]:List Int).length)) (aA .u64 200)=some (0,200):=by
  rw [show aA .u64 (Int.ofNat ([-1]:List Int).length)=1 from by kernel_rfl,show aA .u64 200=200 from by kernel_rfl,HV ⟨by decide,by decide⟩ ⟨by decide,by decide⟩]
  rfl
 rw [m];exact (by kernel_rfl:_=aG nV (1,-1::List.replicate 199 0)).trans (uZ.2 ⟨20,by kernel_rfl⟩)
theorem O0:BN 200=some (LO,0):=by
 unfold BN;rw [V1,aB,bJ rfl,cond_false,aBi];rfl
theorem SH (f:Field) {t:Int×Int} (r64:pR t):EJ f t=some (if oD f.points≠0 then (eA,oD f.points) else if bQ t then (GU f t,0) else (eA,8)):=by
 unfold EJ;rw [gN,aB]
 by_cases h:oD f.points=0
 · have fok:=eD.1 h
   have f1:=fok.1;rw [bJ h,cond_false,gL r64,aB,if_neg (show¬oD f.points≠0 from fun k=>k h)]
   by_cases rt:bQ t
   · rw [if_pos rt,if_pos rt,bJ rfl,cond_false,O0,aB,bB (show f.points.length<=1048576 by omega),aB]
     rfl
   · rw [if_neg rt,if_neg rt,dA (by decide),cond_true]
 · rw [dA h,cond_true,if_pos h]
theorem AX {α:Type} [Inhabited α] {n i:Nat} (a:α) (h:i<n):(List.replicate n a)[i]! =a:=by
 rw [getElem!_pos _ i (by rw [List.length_replicate];exact h),List.getElem_replicate]
theorem aJA {i:Nat} (hi:i<200):(i:Int)∈zQ.free:=by
 refine List.mem_map.2 ⟨199-i,List.mem_range.2 (by omega),?_⟩
 show (199:Int) - ((199-i:Nat):Int)=(i:Int);omega
theorem oI:zQ.uses.length=200:=List.length_replicate ..
set_option maxRecDepth 100000 in
theorem aDx:zQ.free.length=200:=by
 unfold zQ;exact (List.length_map _).trans List.length_range
theorem aBj:eW zQ where
 n1:=by rw [oI];omega
 n2:=by rw [oI];omega
 ul:=by rw [oI];exact List.length_replicate ..
 fr:=fun x hx=>by
  obtain ⟨j,hj,rfl⟩:=List.mem_map.1 hx
  have:=List.mem_range.1 hj
  rw [oI];omega
 fd:=by
  refine xO List.nodup_range fun i hi j hj h=>?_
  have h:(199:Int) - (i:Int)=199- (j:Int):=h;omega
 uf:=fun i hi=>by
  rw [oI] at hi;rw [show zQ.used[i]! =false from AX false hi];constructor
  · intro h;cases h
  · intro h;exact absurd (aJA hi) h
 us:=fun i hi=>by
  rw [oI] at hi;rw [show zQ.uses[i]! =0 from AX 0 hi,show zQ.used[i]! =false from AX false hi];exact ⟨by decide,by decide,fun h=>by cases h⟩
set_option maxRecDepth 100000 in
theorem YF:eZ LO where
 so:=aBj
 wl:=(List.length_replicate (n:=200) (a:=(-1:Int))).trans oI.symm
 hl:=((Nat.zero_add _).trans aDx).trans oI.symm
 fwd:=fun i hi h=>by
  rw [show LO.slots.used[i]! =false from AX false (by rw [<- oI];exact hi)] at h
  cases h
 un:=fun i hi _=>AX (-1) (by rw [<- oI];exact hi)
 ev:=fun w hw=>absurd hw (Nat.not_lt_zero w)
 nd:=fun v w _ hw=>absurd hw (Nat.not_lt_zero w)
 ord:=fun k _ hk=>absurd hk (Nat.not_lt_zero k)
theorem aBk {f:Field} (fok:bD f.points) {t:Int×Int} (r:bQ t) (r64:pR t):bG (GU f t) where
 nowv:=r
 now64:=r64
 fld:=fok
 crt:=(⟨by decide,by decide,by decide,fun i hi=>absurd hi (Nat.not_lt_zero i),fun i hi=>absurd hi (Nat.not_lt_zero i),fun i j _ hj=>absurd hj (Nat.not_lt_zero j),fun i j _ hj=>absurd hj (Nat.not_lt_zero j)⟩:eX ⟨0,[]⟩)
 agd:=YF
 w200:=List.length_replicate ..
 hd:=rfl
 known:=fun i hi=>absurd hi (Nat.not_lt_zero i)
 fol:=rfl
theorem SI (f:Field) (t:Int×Int):KS (GU f t) 0:=by
 refine ⟨Nat.le_refl _,Int.le_refl _,fun j hj=>?_⟩
 rw [show (GU f t).agenda.slots.uses[j]! =0 from AX 0 (by rw [<- oI];exact hj)]
 decide
noncomputable def QF (f:List Pt) (t:Int×Int) (k:Nat):Nat->Nat
 |0=>0
 |j+1=>QF f t k j+(if j≠k/\YD f t j k then 1 else 0)
theorem J4 (f:List Pt) (t:Int×Int) (k:Nat): ∀j,QF f t k j<=j/\(k<j->QF f t k j+1<=j)
 |0=>⟨Nat.le_refl _,fun h=>by omega⟩
 |j+1=>by
  obtain ⟨h1,h2⟩:=J4 f t k j;rw [QF]
  by_cases c:j≠k/\YD f t j k
  · rw [if_pos c]
    exact ⟨by omega,fun h=>by have:=h2 (by omega);omega⟩
  · rw [if_neg c]
    exact ⟨by omega,fun h=>by omega⟩
theorem aBl {f:List Pt} (fok:bD f) {t:Int×Int} (r64:pR t) {k:Nat} (hk:k<f.length):wD ⟨f⟩ f[k]! t=some (QF f t k f.length:Int):=by
 have f1:=fok.1;have key:=bY (body:=mZ) (fun j=>((QF f t k j:Int),(j:Int),f,(f[k]!).1,(f[k]!).2.1,(f[k]!).2.2,t)) f.length (fun j hj=>by
  have g:=aD f j hj;have le:=(J4 f t k j).1;have ld:=NU (fok.2.1 _ (bH hj)) (fok.2.1 _ (bH hk)) r64;have peta:((f[k]!).1,(f[k]!).2.1,(f[k]!).2.2)=f[k]!:=rfl;unfold mZ;rw [QF]
  by_cases q:j=k
  · subst q
    simp only [aF,aO (show (j:Int)<(f.length:Int) by omega),cond_true,g,aB,bJ rfl,cond_false,aV (show j<1000000000 by omega),if_neg (show¬(j≠j/\YD f t j j) from fun w=>w.1 rfl),Nat.add_zero]
  · have ne:(f[j]!).1≠(f[k]!).1:=fun h=>q (xJ fok.2.2 hj hk h)
    by_cases c:YD f t j k
    · rw [show decide (dF f[j]! f[k]! t)=true from aO c] at ld
      simp only [aF,aO (show (j:Int)<(f.length:Int) by omega),cond_true,g,aB,dA ne,peta,ld,aV (show j<1000000000 by omega),aV (show QF f t k j<1000000000 by omega),if_pos (show j≠k/\YD f t j k from ⟨q,c⟩)]
    · rw [show decide (dF f[j]! f[k]! t)=false from aJ c] at ld
      simp only [aF,aO (show (j:Int)<(f.length:Int) by omega),cond_true,g,aB,dA ne,peta,ld,cond_false,aV (show j<1000000000 by omega),if_neg (show¬(j≠k/\YD f t j k) from fun w=>c w.2),Nat.add_zero])
 unfold wD;rw [show aG mZ (0,0,f,(f[k]!).1,(f[k]!).2.1,(f[k]!).2.2,t)=_ from key];refine aK ?_;unfold mZ;simp only [aF,aJ (show¬(f.length:Int)<(f.length:Int) by omega),cond_false]
noncomputable def E3 (f:List Pt) (t:Int×Int):Nat->List Int
 |0=>List.replicate f.length 0
 |i+1=>(E3 f t i).set (QF f t i f.length) (f[i]!).1
theorem vC (f:List Pt) (t:Int×Int): ∀i,(E3 f t i).length=f.length
 |0=>List.length_replicate ..
 |i+1=>by rw [E3,List.length_set,vC f t i]
theorem YG {f:List Pt} (fok:bD f) {t:Int×Int} (r64:pR t):tU ⟨f⟩ t=some (E3 f t f.length):=by
 have f1:=fok.1;have mk:wQ (f.length:Int) (0:Int)=some (List.replicate f.length 0):=by
  unfold wQ;rw [if_pos ⟨by omega,by omega⟩,Int.toNat_natCast]
 have key:=bY (body:=lX) (fun i=>((i:Int),f,t.1,t.2,E3 f t i)) f.length (fun i hi=>by
  have g:=aD f i hi;have le:=(J4 f t i f.length).2 hi;have go:=aD (E3 f t i) (QF f t i f.length) (by rw [vC];omega)
  unfold lX;simp only [aF,aO (show (i:Int)<(f.length:Int) by omega),cond_true,g,aB,show ((t.1,t.2):Int×Int)=t from rfl,aBl fok r64 hi,go,pF,aV (show i<1000000000 by omega)]
  rfl)
 unfold tU;simp only [aF,beq_self_eq_true,cond_true,mk,aB];rw [show aG lX (0,f,t.1,t.2,List.replicate f.length 0)=_ from key];refine aK ?_;unfold lX;simp only [aF,aJ (show¬(f.length:Int)<(f.length:Int) by omega),cond_false]
theorem SJ {f : List Pt} (h : fJ f) {t : Int × Int} {i k : Nat} (hi : i < f.length) (hk : k < f.length) (a : YD f t i k) : ∀ j, j <= f.length -> QF f t i j + (if i < j then 1 else 0) <= QF f t k j
  | 0, _ => by rw [if_neg (by omega)]; exact Nat.le_refl _
  | j + 1, hj => by
    have o := LK h t
    have ih := SJ h hi hk a j (by omega)
    have ik : i ≠ k := fun e => by subst e; exact o.asy i i hi hi a a
    rw [QF, QF]
    by_cases e : j = i
    · subst e
      rw [if_neg (show ¬ (j ≠ j /\ _) from fun w => w.1 rfl), if_pos (show j ≠ k /\ YD f t j k from ⟨ik, a⟩), if_pos (by omega)]
      rw [if_neg (by omega)] at ih
      omega
    · have e2 : (if i < j + 1 then 1 else 0) = (if i < j then 1 else 0) := by
        by_cases c : i < j
        · rw [if_pos c, if_pos (by omega)]
        · rw [if_neg c, if_neg (by omega)]
      rw [e2]
      by_cases c : j ≠ i /\ YD f t j i
      · have c2 : j ≠ k /\ YD f t j k := by
          have q := o.tr j i k (by omega) hi hk c.2 a
          exact ⟨fun z => by subst z; exact o.asy j j (by omega) (by omega) q q, q⟩
        rw [if_pos c, if_pos c2]; omega
      · rw [if_neg c]; omega
theorem aJB {f:List Pt} (h:fJ f) {t:Int×Int} {i k:Nat} (hi:i<f.length) (hk:k<f.length) (ne:i≠k):QF f t i f.length≠QF f t k f.length:=by
 have o:=LK h t;intro e
 by_cases a:YD f t i k
 · have:=SJ h hi hk a f.length (Nat.le_refl _)
   rw [if_pos hi] at this;omega
 · have:=SJ h hk hi (o.tot i k hi hk ne a) f.length (Nat.le_refl _)
   rw [if_pos hk] at this;omega
theorem SK {f:List Pt} (h:fJ f) {t:Int×Int} {i:Nat}: ∀j,j<=f.length->i<j->(E3 f t j)[QF f t i f.length]! =(f[i]!).1
 |0,_,hi=>by omega
 |j+1,hj,hi=>by
  rw [E3,bF];have hr:=(J4 f t i f.length).2 (by omega)
  by_cases q:i=j
  · subst q
    rw [if_pos ⟨rfl,by rw [vC];omega⟩]
  · rw [if_neg (fun w=>aJB h (by omega) (by omega) q w.1)]
    exact SK h j (by omega) (by omega)
theorem QG {f:List Pt} (h:fJ f) (t:Int×Int):(pI f).Perm (E3 f t f.length):=by
 have il:(pI f).length=f.length:=List.length_map ..;refine tF (oT h) (fun x hx=>?_) (by rw [vC,il];exact Nat.le_refl _)
 obtain ⟨i,hi,e⟩:=nM.1 hx;have hr:=(J4 f t i f.length).2 hi;exact aY.2 ⟨QF f t i f.length,by rw [vC];omega,by rw [SK h _ (Nat.le_refl _) hi];exact e⟩
theorem YH {f:List Pt} (h:fJ f) (t:Int×Int) {p q:Nat} (hpq:p<q) (hq:q<f.length):jV f t (E3 f t f.length)[p]! (E3 f t f.length)[q]!:=by
 have pm:=QG h t;have nd:=pm.nodup_iff.1 (oT h);have ol:=vC f t f.length;have o:=LK h t;have at': ∀x,x<f.length-> ∃i,i<f.length/\(E3 f t f.length)[x]! =(f[i]!).1/\QF f t i f.length=x:=fun x hx=>by
  obtain ⟨i,hi,e⟩:=nM.1 (pm.mem_iff.2 (bH (l:=E3 f t f.length) (i:=x) (by omega)))
  have hr:=(J4 f t i f.length).2 hi;have e2:=SK h (t:=t) f.length (Nat.le_refl _) hi;rw [e] at e2;refine ⟨i,hi,e.symm,?_⟩;rcases Nat.lt_trichotomy (QF f t i f.length) x with c|c|c
  · exact absurd e2 (fC.1 nd _ _ c (by omega))
  · exact c
  · exact absurd e2.symm (fC.1 nd _ _ c (by omega))
 obtain ⟨i,hi,e1,r1⟩:=at' p (by omega)
 obtain ⟨k,hk,e2,r2⟩:=at' q hq;rw [e1,e2];show dF (fU f (f[i]!).1) (fU f (f[k]!).1) t;rw [wG h hi rfl,wG h hk rfl]
 by_cases a:YD f t i k
 · exact a
 · have:=SJ h hk hi (o.tot i k hi hk (fun e=>by subst e;omega) a) f.length (Nat.le_refl _)
   rw [if_pos hk] at this;omega
theorem aBm {f:List Pt} (h:fJ f) (t:Int×Int):(E3 f t f.length).Pairwise (jV f t):=by
 refine List.pairwise_iff_getElem.2 fun i j hi hj hij=>?_
 have:=YH h t hij (by rw [<- vC f t f.length];exact hj)
 rw [getElem!_pos _ i hi,getElem!_pos _ j hj] at this;exact this
section
variable {f : List Pt} {t : Int × Int}
theorem aDy {P:Int->Int->Prop} {S:Int->Prop} (o:SO P S) {x:Int} {r:List Int} (hS: ∀y∈x::r,S y) (pw:(x::r).Pairwise P):rW P (x::r)=x:=by
 obtain ⟨p1,_⟩:=List.pairwise_cons.1 pw;refine VU o hS List.mem_cons_self fun y hy=>?_
 rcases List.mem_cons.1 hy with rfl|hy
 · exact o.irr _ (hS _ List.mem_cons_self)
 · exact o.asym (hS _ List.mem_cons_self) (hS _ (List.mem_cons_of_mem _ hy)) (p1 y hy)
def pJ (r:List Int) (d b:Nat):List Int:=r.filter fun x=>decide (nB x d=b)
theorem V2 {P:Int->Int->Prop} {S:Int->Prop} (o:SO P S) {x:Int} {r:List Int} (hS: ∀y∈x::r,S y) (pw:(x::r).Pairwise P) (d b:Nat):rZ nB (x::r) x d b=pJ r d b:=by
 obtain ⟨p1,_⟩:=List.pairwise_cons.1 pw;unfold rZ pJ;rw [List.filter_cons,if_neg (by simp)]
 refine List.filter_congr fun y hy=>?_
 have ne:y≠x:=fun e=>o.irr x (hS x List.mem_cons_self) (by have:=p1 y hy;rwa [e] at this)
 by_cases c:nB y d=b
 · rw [aO (show y≠x/\nB y d=b from ⟨ne,c⟩),aO c]
 · rw [aJ (fun k=>c k.2),aJ c]
theorem YI (r:List Int) (x:Int) (d b:Nat):pJ (r++[x]) d b=pJ r d b++(if nB x d=b then [x] else []):=by
 unfold pJ;rw [List.filter_append]
 congr 1
 by_cases c:nB x d=b
 · rw [if_pos c,List.filter_cons,if_pos (aO c)];rfl
 · rw [if_neg c,List.filter_cons,if_neg (by rw [aJ c];decide)];rfl
theorem aDz {x:Int} {r:List Int} (hr:r.length<=64) (pos: ∀y∈r,0<=y) {d:Nat} (hd:d<=1000) {b:Nat} {out A:List (Int×Int)} {c0:_} (hout:out.length+A.length<=1000) (hb:b<=2) (rec:c0 (pJ r d b,x,((d+1:Nat):Int))=some A):
 aG (pD c0) (x::r,(d:Int),(b:Int),1,out,[])=some (.next (x::r,(d:Int),((b+1:Nat):Int),out++A)):=by
 have st:=bY (body:=pD c0) (fun i=>(x::r,(d:Int),(b:Int),((i+1:Nat):Int),out,pJ (r.take i) d b)) r.length (fun i hi=>by
  have g:=aD (x::r) (i+1) (by rw [List.length_cons];omega)
  have gi:(x::r)[i+1]! =r[i]!:=by
   rw [getElem!_pos _ _ (by rw [List.length_cons];omega),getElem!_pos r i hi];rfl
  rw [gi] at g;have s:=YI (r.take i) r[i]! d b;rw [<- cP hi] at s;have lim:(pJ (r.take i) d b).length<=64:=Nat.le_trans (List.length_filter_le ..) (by rw [List.length_take];omega)
  have ap:bI (pJ (r.take i) d b) [r[i]!]=some (pJ (r.take i) d b++[r[i]!]):=bT (by rw [List.length_singleton];omega)
  have bt:=aJy (pos _ (bH hi)) d;rw [s];unfold pD;simp only [aF,List.length_cons,aO (show ((i+1:Nat):Int)<((r.length+1:Nat):Int) by omega),cond_true,g,aB,aJ (show¬(d:Int)<0 by omega),cond_false,bt,ap,aV (show i+1<1000000000 by omega)]
  by_cases c:nB r[i]! d=b
  · rw [gC (by omega),cond_true,if_pos c]
  · rw [eQ (by omega),cond_false,if_neg c,List.append_nil])
 rw [List.take_length] at st;refine (show _=_ from st).trans (aK ?_);have g0:aN (x::r) 0=some x:=aD (x::r) 0 (by rw [List.length_cons];omega)
 have ap:bI out A=some (out++A):=bT (by omega)
 unfold pD;simp only [aF,List.length_cons,aJ (show¬((r.length+1:Nat):Int)<((r.length+1:Nat):Int) by omega),cond_false,g0,aB,aV (show d<1000000000 by omega),rec,aV (show b<1000000000 by omega)]
 cases hA:A with
 |nil=>rw [List.append_nil];rfl
 |cons a A'=>rw [hA] at ap;rw [show (a::A').isEmpty=false from rfl,cond_false,ap,aB]
theorem aBn {P:Int->Int->Prop} {S:Int->Prop} (o:SO P S) {n:Nat} {l:List Int} {u:Int} {d:Nat} (hS: ∀x∈l,S x) (nd:l.Nodup) (h:l.length<=n):(iV P nB n l u d).length=l.length:=by
 have:=(GS o LM n l u d hS nd h).1.length_eq
 rw [List.length_map] at this;exact this
theorem aJC {P:Int->Int->Prop} {S:Int->Prop} (o:SO P S) {l:List Int} (hS: ∀x∈l,S x) (pw:l.Pairwise P):l.Nodup:=by
 induction l with
 |nil=>exact List.nodup_nil
 |cons x l ih=>
  obtain ⟨p1,p2⟩:=List.pairwise_cons.1 pw;exact List.nodup_cons.2 ⟨fun h=>o.irr x (hS x List.mem_cons_self) (p1 x h),ih (fun y hy=>hS y (List.mem_cons_of_mem _ hy)) p2⟩
theorem aKh (fok:bD f): ∀(k n:Nat) (l:List Int) (u:Int) (d:Nat),(∀x∈l,mS f x)->l.Pairwise (jV f t)->l.length<=k->k<=64->k+1<=n->d+k<=1000->
 hO n (l,u,(d:Int))=some (iV (jV f t) nB k l u d)
 |k,0,l,u,d,_,_,_,_,hn,_=>absurd hn (by omega)
 |k,n+1,[],u,d,_,_,_,_,_,_=>by cases k<;>rfl
 |0,n+1,x::r,u,d,_,_,hk,_,_,_=>absurd hk (by rw [List.length_cons];omega)
 |k+1,n+1,x::r,u,d,hS,pw,hk,h64,hn,hd=>by
  have o:=IN fok.2.2 t;have th:=aDy o hS pw;rw [List.length_cons] at hk;have hr: ∀b,(∀y∈pJ r d b,mS f y)/\(pJ r d b).Pairwise (jV f t)/\(pJ r d b).length<=k:=fun b=>
   ⟨fun y hy=>hS y (List.mem_cons_of_mem _ (List.mem_filter.1 hy).1),(List.pairwise_cons.1 pw).2.filter _,Nat.le_trans (List.length_filter_le ..) (by omega)⟩
  have pos: ∀y∈r,0<=y:=fun y hy=>by
   have p0:=jA fok (hS y (List.mem_cons_of_mem _ hy));have p1:=p0.1.1;rw [p0.2] at p1;exact p1
  have rc: ∀b,hO n (pJ r d b,x,((d+1:Nat):Int))=some (iV (jV f t) nB k (pJ r d b) x (d+1)):=fun b=>aKh fok k n _ x (d+1) (hr b).1 (hr b).2.1 (hr b).2.2 (by omega) (by omega) (by omega)
  have ln: ∀b,(iV (jV f t) nB k (pJ r d b) x (d+1)).length<=64:=fun b=>by
   rw [aBn o (hr b).1 (aJC o (hr b).1 (hr b).2.1) (hr b).2.2];have:=(hr b).2.2;omega
  have l0:=ln 0;have l1:=ln 1;have A:=aDz (x:=x) (r:=r) (by omega) pos (d:=d) (by omega) (b:=0) (out:=[(x,u)]) (by rw [List.length_singleton];omega) (by omega) (rc 0)
  have B:=aDz (x:=x) (r:=r) (by omega) pos (d:=d) (by omega) (b:=1) (out:=[(x,u)]++iV (jV f t) nB k (pJ r d 0) x (d+1)) (by rw [List.length_append,List.length_singleton];omega) (by omega) (rc 1)
  show BU (hO n) (x::r,u,(d:Int))=_;have g0:aN (x::r) 0=some x:=aD (x::r) 0 (by rw [List.length_cons];omega)
  have en:((Int.ofNat (x::r).length)==0)=false:=eQ (by show¬((x::r).length:Int)=0;rw [List.length_cons];omega)
  unfold BU;simp only [en,cond_false,g0,aB];have s1:tV (hO n) (x::r,(d:Int),0,[(x,u)])=some (.next (x::r,(d:Int),((0+1:Nat):Int),[(x,u)]++iV (jV f t) nB k (pJ r d 0) x (d+1))):=A
  have s2:tV (hO n) (x::r,(d:Int),((0+1:Nat):Int),[(x,u)]++iV (jV f t) nB k (pJ r d 0) x (d+1))=some (.next (x::r,(d:Int),((1+1:Nat):Int),([(x,u)]++iV (jV f t) nB k (pJ r d 0) x (d+1))++iV (jV f t) nB k (pJ r d 1) x (d+1))):=B
  rw [bC s1,bC s2];refine (aK (show tV (hO n) (x::r,(d:Int),((1+1:Nat):Int),_)=some (.done _) from rfl)).trans ?_;simp only [iV];rw [th,V2 o hS pw,V2 o hS pw];rfl
theorem V3 (fok:bD f):GK (E3 f t f.length) (-1) 0=some (oX f t):=by
 have f1:=fok.1;have pm:=QG fok.2.2 t;have h:=aKh (t:=t) fok f.length 1000000 (E3 f t f.length) (-1) 0 (fun x hx=>nM.1 (pm.mem_iff.2 hx)) (aBm fok.2.2 t) (by rw [vC];exact Nat.le_refl _) f1 (by omega) (by omega)
 refine (show _=_ from h).trans (congrArg some ?_);exact (GR (IN fok.2.2 t) f.length _ _ (-1) 0 (fun x hx=>nM.1 hx) pm).symm
theorem QH (fok:bD f) (r64:pR t):AJ ⟨f⟩ t=some (pU f t):=by
 have f1:=fok.1;obtain ⟨k1,k2⟩:=IP (t:=t) fok;have nd:=k1.nodup_iff.2 (oT fok.2.2);have ll:(oX f t).length=f.length:=by have:=k1.length_eq;rw [List.length_map] at this;rw [this];exact List.length_map ..
 have mk:wQ (f.length:Int) (0:Int)=some (List.replicate f.length 0):=by
  unfold wQ;rw [if_pos ⟨by omega,by omega⟩,Int.toNat_natCast]
 let U:Nat->List Int:=fun j=>f.map fun p=>if p.1∈((oX f t).take j).map (fun e=>e.1) then lE 0 (oX f t) p.1 else 0
 have Ul: ∀j,(U j).length=f.length:=fun j=>List.length_map ..
 have Ua: ∀j i,i<f.length->(U j)[i]! =if (f[i]!).1∈((oX f t).take j).map (fun e=>e.1) then lE 0 (oX f t) (f[i]!).1 else 0:=fun j i hi=>by
  rw [getElem!_pos _ i (by rw [Ul];exact hi),List.getElem_map,getElem!_pos f i hi]
 have st:=bY (body:=yK) (fun j=>(oX f t,(j:Int),f,U j)) (oX f t).length (fun j hj=>by
  have g:=aD (oX f t) j hj;have hm:=bH hj;have hp:mS f ((oX f t)[j]!).1:=nM.1 (k1.mem_iff.1 (List.mem_map.2 ⟨_,hm,rfl⟩));obtain ⟨i,hi,ei⟩:=hp;have ga:=AO fok.2.2 (by omega) hi ei
  have gu:=aD (U j) i (by rw [Ul];exact hi)
  unfold yK;simp only [aF,aO (show (j:Int)<((oX f t).length:Int) by omega),cond_true,g,aB,ga,gu,pF,aV (show j<1000000000 by omega)]
  have eU:(U j).set i ((oX f t)[j]!).2=U (j+1):=by
   refine rR (by rw [List.length_set,Ul,Ul]) fun k hk=>?_
   rw [List.length_set,Ul] at hk;have mm:(f[k]!).1∈((oX f t).take (j+1)).map (fun e=>e.1)↔(f[k]!).1∈((oX f t).take j).map (fun e=>e.1)\/(f[k]!).1∈[(oX f t)[j]!].map (fun e=>e.1):=by rw [cP hj,List.map_append,List.mem_append]
   rw [bF,Ul,Ua _ k hk,Ua _ k hk]
   by_cases c:k=i
   · subst c
     rw [if_pos ⟨rfl,hi⟩,if_pos (mm.2 (.inr (by rw [ei];exact List.mem_singleton.2 rfl))),ei]
     exact (OR nd (show (((oX f t)[j]!).1,((oX f t)[j]!).2)∈oX f t from hm)).symm
   · rw [if_neg (fun w=>c w.1)]
     have ne: ¬(f[k]!).1∈[(oX f t)[j]!].map fun e=>e.1:=fun w=>c (xJ fok.2.2 hk hi ((List.mem_singleton.1 w).trans ei.symm))
     by_cases q:(f[k]!).1∈((oX f t).take j).map fun e=>e.1
     · rw [if_pos q,if_pos (mm.2 (.inl q))]
     · rw [if_neg q,if_neg (fun w=>(mm.1 w).elim q ne)]
  rw [eU])
 have U0:U 0=List.replicate f.length 0:=by
  refine rR (by rw [Ul,List.length_replicate]) fun k hk=>?_
  rw [Ul] at hk;rw [Ua 0 k hk,List.take_zero,List.map_nil,if_neg List.not_mem_nil,getElem!_pos _ k (by rw [List.length_replicate];exact hk),List.getElem_replicate]
 have Un:U (oX f t).length=pU f t:=by
  refine rR (by rw [Ul,EZ]) fun k hk=>?_
  rw [Ul] at hk;rw [Ua _ k hk,List.take_length,if_pos (k1.mem_iff.2 (nM.2 ⟨k,hk,rfl⟩)),YE hk]
 unfold AJ;rw [YG fok r64,aB,V3 fok,aB];simp only [aF,beq_self_eq_true,cond_true,mk,aB];rw [<- U0];refine (show _=_ from st).trans (aK ?_);unfold yK;simp only [aF,aJ (show¬((oX f t).length:Int)<((oX f t).length:Int) by omega),cond_false]
 rw [Un]
theorem KX (U:List Int) (i:Nat):dU f U (i+1)=dU f U i++(if 0<=U[i]! then [((f[i]!).1,U[i]!)] else []):=rfl
theorem QI {U:List Int} (hU:U.length=f.length) (hf:f.length<=1000):AL ⟨f⟩ U=some (dU f U f.length):=by
 have st:=bY (body:=yL) (fun i=>(U,(i:Int),f,dU f U i)) f.length (fun i hi=>by
  have gu:=aD U i (by omega)
  have gf:=aD f i hi;have el:=pZ (f:=f) U i;have ap:bI (dU f U i) [((f[i]!).1,U[i]!)]=some (dU f U i++[((f[i]!).1,U[i]!)]):=bT (by rw [List.length_singleton];omega)
  rw [KX];unfold yL;simp only [aF,aO (show (i:Int)<(U.length:Int) by omega),cond_true,gu,gf,aB,ap,aV (show i<1000000000 by omega)]
  by_cases c:0<=U[i]!
  · rw [aO c,cond_true,if_pos c]
  · rw [aJ c,cond_false,if_neg c,List.append_nil])
 unfold AL;refine (show _=_ from st).trans (aK ?_);unfold yL;simp only [aF,aJ (show¬(f.length:Int)<(U.length:Int) by omega),cond_false]
theorem SL (fok:bD f) (r:bQ t) (r64:pR t):mH ⟨f⟩ t=some (pU f t,dU f (pU f t) f.length):=by
 have f1:=fok.1;obtain ⟨k1,_⟩:=IP (t:=t) fok;have nd:=k1.nodup_iff.2 (oT fok.2.2);have ul:=EZ f t;have st:=bY (body:=rD) (fun i=>(f,(f.length:Int),(i:Int),kS [] (oX f t),(pU f t).take i,dU f (pU f t) i)) f.length (fun i hi=>by
  have gf:=aD f i hi;have gm:lE 0 (kS [] (oX f t)) (f[i]!).1=(pU f t)[i]!:=by
   rw [VZ _ _ _ nd,if_pos (k1.mem_iff.2 (nM.2 ⟨i,hi,rfl⟩)),YE hi]
  have el:=pZ (f:=f) (pU f t) i;have a1:bI ((pU f t).take i) [(pU f t)[i]!]=some ((pU f t).take (i+1)):=by
   rw [cP (by omega)];exact bT (by rw [List.length_take,List.length_singleton];omega)
  have a2:bI (dU f (pU f t) i) [((f[i]!).1,(pU f t)[i]!)]=some (dU f (pU f t) i++[((f[i]!).1,(pU f t)[i]!)]):=bT (by rw [List.length_singleton];omega)
  rw [KX];unfold rD;simp only [aO (show (i:Int)<(f.length:Int) by omega),cond_true,gf,aB,gm,a1,a2,aV (show i<1000000000 by omega)]
  by_cases c:0<=(pU f t)[i]!
  · rw [aO c,cond_true,if_pos c]
  · rw [aJ c,cond_false,if_neg c,List.append_nil])
 have en:(pU f t).take f.length=pU f t:=List.take_of_length_le (by omega)
 unfold mH;rw [aJz fok r r64,aB];refine (show _=_ from st).trans (aK ?_);unfold rD;simp only [aJ (show¬(f.length:Int)<(f.length:Int) by omega),cond_false,en]
end
theorem YJ (a b:List Int) (hl:a.length<=1000000):oN a b=some (decide (a=b)):=by
 unfold oN;simp only [aF]
 by_cases h:a.length=b.length
 case neg=>rw [dA (by omega),aJ (fun k=>h (by rw [k]))];rfl
 rw [bJ (by omega)]
 simp only [cond_false];have key:=J1 (body:=lI) (fun i=>(a,b,(a.length:Int),(i:Int))) a.length (fun i=>a[i]! =b[i]!) (r:=false) (e:=true) (fun i hi=>by
  unfold lI;simp only [aO (show (i:Int)<(a.length:Int) by omega),cond_true,aD a i hi,aD b i (by omega),aB,aV (show i<1000000000 by omega)]
  constructor
  · intro h;rw [dA h];rfl
  · intro h;rw [bJ h];rfl) (by
  unfold lI;simp only [aJ (show¬(a.length:Int)<(a.length:Int) by omega),cond_false])
 refine (show _=_ from key).trans ?_
 by_cases q:a=b
 · rw [if_pos (fun i _=>by rw [q]),aO q]
 · rw [if_neg (fun w=>q (rR h w)),aJ q]
theorem V4 (a b:List Int) (hl:a.length<=1000000):fI a b=some (decide (a=b)):=by
 unfold fI;simp only [aF]
 by_cases h:a.length=b.length
 case neg=>rw [dA (by omega),aJ (fun k=>h (by rw [k]))];rfl
 rw [bJ (by omega)]
 simp only [cond_false];have key:=J1 (body:=oO) (fun i=>(a,b,(i:Int))) a.length (fun i=>a[i]! =b[i]!) (r:=false) (e:=true) (fun i hi=>by
  unfold oO;simp only [aF,aO (show (i:Int)<(a.length:Int) by omega),cond_true,aD a i hi,aD b i (by omega),aB,aV (show i<1000000000 by omega)]
  constructor
  · intro h;rw [dA h];rfl
  · intro h;rw [bJ h];rfl) (by
  unfold oO;simp only [aF,aJ (show¬(a.length:Int)<(a.length:Int) by omega),cond_false])
 refine (show _=_ from key).trans ?_
 by_cases q:a=b
 · rw [if_pos (fun i _=>by rw [q]),aO q]
 · rw [if_neg (fun w=>q (rR h w)),aJ q]
structure iW (k:bA):Prop where
 clk:bG k.clock
 up:pU k.clock.field.points k.clock.now=k.up
 cert:(k.clock.certs.list.map fun x=>x.2).Perm (dU k.clock.field.points k.up k.clock.field.points.length)
theorem O1 {c:aP} (ok:bG c) (E:List (Int×Int)):
 (E.length=c.certs.list.length/\ ∀i,i<c.certs.list.length->(c.certs.list[i]!).2∈E)↔(c.certs.list.map fun x=>x.2).Perm E:=by
 have cl:(c.certs.list.map fun x=>x.2).length=c.certs.list.length:=List.length_map ..
 constructor
 · rintro ⟨h1,h2⟩
   refine tF (D1 ok.crt) (fun x hx=>?_) (by omega)
   obtain ⟨i,hi,rfl⟩:=AU.2 hx;exact h2 i hi
 · intro h
   exact ⟨by rw [<- h.length_eq,cl],fun i hi=>h.mem_iff.1 (AU.1 ⟨i,hi,rfl⟩)⟩
theorem SM {c:aP} {E:List (Int×Int)} (nd:E.Nodup) (ld: ∀e∈E,dF (fU c.field.points e.2) (fU c.field.points e.1) c.now):
 (c.certs.list.length=E.length/\ ∀i,i<E.length->xL c.certs.list E[i]!/\dF (fU c.field.points (E[i]!).2) (fU c.field.points (E[i]!).1) c.now)↔(c.certs.list.map fun x=>x.2).Perm E:=by
 have cl:(c.certs.list.map fun x=>x.2).length=c.certs.list.length:=List.length_map ..
 constructor
 · rintro ⟨h1,h2⟩
   refine (tF nd (fun x hx=>?_) (by omega)).symm
   obtain ⟨i,hi,rfl⟩:=aY.1 hx;exact AU.1 (h2 i hi).1
 · intro h
   exact ⟨by rw [<- h.length_eq,cl],fun i hi=>⟨AU.2 (h.mem_iff.2 (bH hi)),ld _ (bH hi)⟩⟩
theorem aBo (es:List (Int×Int)) (l:List vD) (h1:es.length<=1000000) (_:l.length<=1000000):
 aG mY (es,l,(l.length:Int),0)=some (if∀i,i<l.length->(l[i]!).2∈es then 0 else 8):=by
 have key:=J1 (body:=mY) (fun i=>(es,l,(l.length:Int),(i:Int))) l.length (fun i=>(l[i]!).2∈es) (r:=8) (e:=0) (fun i hi=>by
  unfold mY;simp only [aO (show (i:Int)<(l.length:Int) by omega),cond_true,aD l i hi,aB,pH es _ h1,aV (show i<1000000000 by omega)]
  refine ⟨fun q=>?_,fun q=>?_⟩
  · rw [aJ q];rfl
  · rw [aO q];rfl) (by
  unfold mY;simp only [aJ (show¬(l.length:Int)<(l.length:Int) by omega),cond_false])
 refine (show _=_ from key).trans ?_
 by_cases q: ∀i,i<l.length->(l[i]!).2∈es
 · rw [if_pos q,if_pos q]
 · rw [if_neg q,if_neg q]
theorem vM {k:bA} (fit:xN k.clock):kN k=some (if iW k then 0 else 8):=by
 unfold kN;rw [oH fit,aB]
 by_cases ok:bG k.clock
 case neg=>rw [if_neg ok,if_neg (fun h=>ok h.clk)];rfl
 rw [if_pos ok,bJ rfl,cond_false];have bd:=ok.bd;have f1:=ok.fld.1;have hh:=SL ok.fld ok.nowv ok.now64;have hh:mH k.clock.field k.clock.now=_:=hh;have ul:=EZ k.clock.field.points k.clock.now;rw [hh,aB,YJ _ _ (show (pU k.clock.field.points k.clock.now).length<=1000000 by omega),aB]
 by_cases hn:pU k.clock.field.points k.clock.now=k.up
 case neg=>rw [aJ hn,if_neg (fun h:iW k=>hn h.up)];rfl
 have el:=pZ (f:=k.clock.field.points) k.up k.clock.field.points.length;have iff:=O1 ok (dU k.clock.field.points k.up k.clock.field.points.length);rw [aO hn,Bool.not_true,cond_false,hn];simp only [aF]
 by_cases hc:(dU k.clock.field.points k.up k.clock.field.points.length).length=k.clock.certs.list.length
 case neg=>rw [dA (by omega),cond_true,if_neg (fun h:iW k=>hc (iff.2 h.cert).1)]
 rw [bJ (by omega),cond_false,aBo _ _ (by omega) (by omega)]
 by_cases hj: ∀i,i<k.clock.certs.list.length->(k.clock.certs.list[i]!).2∈dU k.clock.field.points k.up k.clock.field.points.length
 · rw [if_pos hj,if_pos (show iW k from ⟨ok,hn,iff.1 ⟨hc,hj⟩⟩)]
 · rw [if_neg hj,if_neg (fun h:iW k=>hj (iff.2 h.cert).2)]
theorem oJ {k:bA} (fit:xN k.clock):eN k=some (if iW k then 0 else 8):=by
 unfold eN;rw [OH fit,aB]
 by_cases ok:bG k.clock
 case neg=>rw [if_neg ok,if_neg (fun h=>ok h.clk)];rfl
 rw [if_pos ok,bJ rfl,cond_false];have bd:=ok.bd;have f1:=ok.fld.1;have hu:AJ k.clock.field k.clock.now=_:=QH ok.fld ok.now64;have ul:=EZ k.clock.field.points k.clock.now;rw [hu,aB,V4 _ _ (show (pU k.clock.field.points k.clock.now).length<=1000000 by omega),aB]
 by_cases hn:pU k.clock.field.points k.clock.now=k.up
 case neg=>rw [aJ hn,if_neg (fun h:iW k=>hn h.up)];rfl
 have of:AL k.clock.field (pU k.clock.field.points k.clock.now)=_:=QI (f:=k.clock.field.points) ul (by omega)
 obtain ⟨eok,nd,ld⟩:=E0 (t:=k.clock.now) ok.fld;rw [aO hn,Bool.not_true,cond_false,of,aB,aJs ok _ eok.kn,aB];have iff:=SM (c:=k.clock) nd ld
 by_cases hj:k.clock.certs.list.length=(dU k.clock.field.points (pU k.clock.field.points k.clock.now) k.clock.field.points.length).length/\ ∀i,i<(dU k.clock.field.points (pU k.clock.field.points k.clock.now) k.clock.field.points.length).length->xL k.clock.certs.list (dU k.clock.field.points (pU k.clock.field.points k.clock.now) k.clock.field.points.length)[i]!/\dF (fU k.clock.field.points ((dU k.clock.field.points (pU k.clock.field.points k.clock.now) k.clock.field.points.length)[i]!).2) (fU k.clock.field.points ((dU k.clock.field.points (pU k.clock.field.points k.clock.now) k.clock.field.points.length)[i]!).1) k.clock.now
 · rw [aO hj,if_pos (show iW k from ⟨ok,hn,by rw [<- hn];exact iff.1 hj⟩)];rfl
 · rw [aJ hj,if_neg (fun h:iW k=>hj (iff.2 (by rw [hn];exact h.cert)))];rfl
structure aPe (k:bA):Prop where
 c:aKf k.clock
 n:k.up.length<=1000
theorem SN (k:bA):uR k=some true\/(uR k=some false/\aPe k):=by
 unfold uR
 rcases VS k.clock with e|⟨e,sh⟩
 · rw [e];exact .inl rfl
 rw [e,aB,cond_false,aF]
 by_cases h:70<k.up.length
 · rw [aO (by omega)];exact .inl rfl
 · rw [aJ (by omega)];exact .inr ⟨rfl,sh,by omega⟩
theorem YK {c:aP} (ok:bG c) {f:List Pt} (fok:bD f):
 ∃R:aP×Int,nZ c ⟨f⟩ (dU f (pU f c.now) f.length)=some R/\jG c ⟨f⟩ (dU f (pU f c.now) f.length)=some R/\(R.2=0/\F0s c f (dU f (pU f c.now) f.length) R.1\/R=(eA,18)):=by
 have f1:=fok.1;obtain ⟨eok,nd,_⟩:=E0 (t:=c.now) fok;have el:=pZ (f:=f) (pU f c.now) f.length;obtain ⟨R,r1,r2,r3⟩:=aJp ok fok eok;have ee:mT f (dU f (pU f c.now) f.length)=0:=by
  unfold mT;rw [if_neg (Classical.not_not.2 eok.cv),if_neg (Classical.not_not.2 nd),if_neg (fun h=>h eok.kn)]
 have rn:=D4 ok fok (es:=dU f (pU f c.now) f.length) (by omega) (fun _=>r1)
 rw [if_pos ee] at rn;exact ⟨R,rn,r2,r3⟩
structure aBp (c:aP) (f:List Pt) (R:bA×Int):Prop where
 err:R.2=0
 up:R.1.up=pU f c.now
 ren:F0s c f (dU f (pU f c.now) f.length) R.1.clock
theorem SP {c:aP} (ok:bG c) {f:List Pt} (fok:bD f):
 ∃R:bA×Int,dO c ⟨f⟩=some R/\mP c ⟨f⟩=some R/\(aBp c f R\/R=(⟨eA,[]⟩,18)):=by
 have f1:=fok.1;obtain ⟨R,r1,r2,r3⟩:=YK ok fok;have hh:=SL fok ok.nowv ok.now64;have hu:=QH fok ok.now64;have of:=QI (f:=f) (EZ f c.now) (by omega)
 unfold dO mP;rw [hh,aB,hu,aB,of,aB];rcases r3 with ⟨q0,qq⟩|he
 · refine ⟨(⟨R.1,pU f c.now⟩,0),?_,?_,.inl ⟨rfl,rfl,qq⟩⟩
   · rw [r1,aB,bJ q0,cond_false]
   · rw [r2,aB,bJ q0,cond_false]
 · refine ⟨(⟨eA,[]⟩,18),?_,?_,.inr rfl⟩
   · rw [r1,aB,he];rfl
   · rw [r2,aB,he];rfl
theorem F0s.same {c:aP} {f:List Pt} {es:List (Int×Int)} {r:aP} (h:F0s c f es r) (nd:es.Nodup):(r.certs.list.map fun x=>x.2).Perm es:=by
 refine (List.perm_ext_iff_of_nodup (D1 h.ok.crt) nd).2 fun x=>⟨fun hx=>?_,fun hx=>AU.1 (h.has x hx)⟩
 obtain ⟨y,hy,rfl⟩:=List.mem_map.1 hx;exact h.sub y hy
theorem aBp.ok {c:aP} {f:List Pt} {R:bA×Int} (fok:bD f) (h:aBp c f R):iW R.1 where
 clk:=h.ren.ok
 up:=by rw [h.ren.fld,h.ren.now,h.up]
 cert:=by rw [h.ren.fld,h.up];exact h.ren.same (E0 fok).2.1
structure aRs (c:aP) (l:List Int):Prop where
 ok:bG c
 pm:(pI c.field.points).Perm l
 ct:(c.certs.list.map fun x=>x.2).Perm (D0 l)
theorem aRs.bd {c:aP} {l:List Int} (h:aRs c l):l.length<=64:=by
 have:=h.ok.bd
 have:l.length=c.field.points.length:=by rw [<- h.pm.length_eq];exact List.length_map ..
 omega
abbrev noG:bA:=⟨eA,[]⟩
structure aDA (R:bA) (F:List Pt) (t:Int×Int):Prop where
 ok:iW R
 fld:R.clock.field.points=F
 now:R.clock.now=t
theorem aDA.up {R:bA} {F:List Pt} {t:Int×Int} (h:aDA R F t):R.up=pU F t:=by rw [<- h.ok.up,h.fld,h.now]
theorem aBp.hg {c:aP} {f:List Pt} {R:bA×Int} (fok:bD f) (h:aBp c f R):aDA R.1 f c.now:=⟨h.ok fok,h.ren.fld,h.ren.now⟩
def EdR (t:Int×Int) (r:Field×Int) (R:bA×Int):Prop:=(r.2≠0/\R=(noG,r.2))\/(r.2=0/\bD r.1.points/\(R.2=0/\aDA R.1 r.1.points t\/R=(noG,18)))
theorem SQ {c:aP} (ok:bG c) {r:Field×Int} (r0:r.2=0) (fok:bD r.1.points): ∃R:bA×Int,dO c r.1=some R/\mP c r.1=some R/\EdR c.now r R:=by
 obtain ⟨R,s1,s2,s3⟩:=SP ok fok;refine ⟨R,s1,s2,.inr ⟨r0,fok,?_⟩⟩;rcases s3 with q|e
 · exact .inl ⟨q.err,q.hg fok⟩
 · exact .inr e
theorem aDB {k:bA} (ok:iW k) (p:Pt): ∃(r:Field×Int) (R:bA×Int),jY k.clock.field p=some r/\xE k p=some R/\JP k p=some R/\EdR k.clock.now r R:=by
 have c1:=vM ok.clk.fit;have c2:=oJ ok.clk.fit;rw [if_pos ok] at c1 c2;have fok:=ok.clk.fld;rcases ON fok p with ⟨e,e0,t1,t2⟩|⟨m,hm,hp,po,hlt,t1,t2⟩
 · have t1:jY k.clock.field p=some (⟨[]⟩,e):=t1
   have t2:oQ k.clock.field p=some (⟨[]⟩,e):=t2;refine ⟨(⟨[]⟩,e),(noG,e),t1,?_,?_,.inl ⟨e0,rfl⟩⟩
   · unfold xE fM wF
     simp only [c1,aB,t1,show ((0:Int) !=0)=false from rfl,cond_false,dA e0,cond_true]
   · unfold JP
     simp only [c2,aB,t2,show ((0:Int) !=0)=false from rfl,cond_false,dA e0,cond_true]
 have t1:jY k.clock.field p=some (⟨D3 k.clock.field.points m p⟩,0):=t1;have t2:oQ k.clock.field p=some (⟨D3 k.clock.field.points m p⟩,0):=t2;obtain ⟨R,s1,s2,s3⟩:=SQ ok.clk (r:=(⟨D3 k.clock.field.points m p⟩,0)) rfl (aJt fok po hm hlt);have s1:dO k.clock ⟨D3 k.clock.field.points m p⟩=some R:=s1
 have s2:mP k.clock ⟨D3 k.clock.field.points m p⟩=some R:=s2;refine ⟨_,R,t1,?_,?_,s3⟩
 · unfold xE fM wF
   simp only [c1,aB,t1,show ((0:Int) !=0)=false from rfl,cond_false,s1]
 · unfold JP
   simp only [c2,aB,t2,show ((0:Int) !=0)=false from rfl,cond_false,s2]
theorem V5 {k:bA} (ok:iW k) (p:Pt): ∃(r:Field×Int) (R:bA×Int),fN k.clock.field p=some r/\nG k p=some R/\BZ k p=some R/\EdR k.clock.now r R:=by
 have c1:=vM ok.clk.fit;have c2:=oJ ok.clk.fit;rw [if_pos ok] at c1 c2;have fok:=ok.clk.fld;rcases IM fok p with ⟨e,e0,t1,t2⟩|⟨q,hq,he,po,t1,t2⟩
 · have t1:fN k.clock.field p=some (⟨[]⟩,e):=t1
   have t2:kQ k.clock.field p=some (⟨[]⟩,e):=t2;refine ⟨(⟨[]⟩,e),(noG,e),t1,?_,?_,.inl ⟨e0,rfl⟩⟩
   · unfold nG eI pQ
     simp only [c1,aB,t1,show ((0:Int) !=0)=false from rfl,cond_false,dA e0,cond_true]
   · unfold BZ
     simp only [c2,aB,t2,show ((0:Int) !=0)=false from rfl,cond_false,dA e0,cond_true]
 have t1:fN k.clock.field p=some (⟨k.clock.field.points.set q p⟩,0):=t1;have t2:kQ k.clock.field p=some (⟨k.clock.field.points.set q p⟩,0):=t2;obtain ⟨R,s1,s2,s3⟩:=SQ ok.clk (r:=(⟨k.clock.field.points.set q p⟩,0)) rfl (aPa fok po hq he);have s1:dO k.clock ⟨k.clock.field.points.set q p⟩=some R:=s1
 have s2:mP k.clock ⟨k.clock.field.points.set q p⟩=some R:=s2;refine ⟨_,R,t1,?_,?_,s3⟩
 · unfold nG eI pQ
   simp only [c1,aB,t1,show ((0:Int) !=0)=false from rfl,cond_false,s1]
 · unfold BZ
   simp only [c2,aB,t2,show ((0:Int) !=0)=false from rfl,cond_false,s2]
theorem aBq {k:bA} (ok:iW k) (id:Int): ∃(r:Field×Int) (R:bA×Int),kZ k.clock.field id=some r/\uY k id=some R/\GL k id=some R/\EdR k.clock.now r R:=by
 have c1:=vM ok.clk.fit;have c2:=oJ ok.clk.fit;rw [if_pos ok] at c1 c2;have fok:=ok.clk.fld
 by_cases hid:mS k.clock.field.points id
 case neg=>
  obtain ⟨t1,t2⟩:=SG fok hid;have t1:kZ k.clock.field id=some (⟨[]⟩,6):=t1;have t2:pY k.clock.field id=some (⟨[]⟩,6):=t2;refine ⟨(⟨[]⟩,6),(noG,6),t1,?_,?_,.inl ⟨by decide,rfl⟩⟩
  · unfold uY fD tY;rw [c1,aB,bJ rfl,cond_false,t1];rfl
  · unfold GL;rw [c2,aB,bJ rfl,cond_false,t2];rfl
 obtain ⟨q,hq,rfl⟩:=hid;obtain ⟨t1,t2⟩:=YA fok hq;have t1:kZ k.clock.field (k.clock.field.points[q]!).1=some (⟨k.clock.field.points.eraseIdx q⟩,0):=t1;have t2:pY k.clock.field (k.clock.field.points[q]!).1=some (⟨k.clock.field.points.eraseIdx q⟩,0):=t2;obtain ⟨R,s1,s2,s3⟩:=SQ ok.clk (r:=(⟨k.clock.field.points.eraseIdx q⟩,0)) rfl (aDq fok q)
 have s1:dO k.clock ⟨k.clock.field.points.eraseIdx q⟩=some R:=s1;have s2:mP k.clock ⟨k.clock.field.points.eraseIdx q⟩=some R:=s2;refine ⟨_,R,t1,?_,?_,s3⟩
 · unfold uY fD tY
   simp only [c1,aB,t1,show ((0:Int) !=0)=false from rfl,cond_false,s1]
 · unfold GL
   simp only [c2,aB,t2,show ((0:Int) !=0)=false from rfl,cond_false,s2]
theorem YL {f:Field} (fok:bD f.points) {t:Int×Int} (rt:bQ t) (r64:pR t): ∃k:bA,jD f t=some (k,0)/\aDA k f.points t:=by
 have f1:=fok.1;have cn:=SH f r64;rw [if_neg (fun k=>k (eD.2 fok)),if_pos rt] at cn
 have ok0:=aBk fok rt r64;obtain ⟨eok,nd,_⟩:=E0 (t:=t) fok;have el:=pZ (f:=f.points) (pU f.points t) f.points.length;obtain ⟨r,g1,_,q⟩:=VP ok0 rfl eok (SI f t) (by omega)
 have ee:mT f.points (dU f.points (pU f.points t) f.points.length)=0:=by
  unfold mT;rw [if_neg (Classical.not_not.2 eok.cv),if_neg (Classical.not_not.2 nd),if_neg (fun h=>h eok.kn)]
 have rn:=D4 ok0 fok (es:=dU f.points (pU f.points t) f.points.length) (by omega) (fun _=>g1)
 rw [if_pos ee] at rn;have rn:nZ (GU f t) f (dU f.points (pU f.points t) f.points.length)=some (r,0):=rn;have hh:mH f (GU f t).now=some (pU f.points t,dU f.points (pU f.points t) f.points.length):=SL fok rt r64;refine ⟨⟨r,pU f.points t⟩,?_,aBp.hg (c:=GU f t) (R:=(⟨r,pU f.points t⟩,0)) fok ⟨rfl,rfl,q⟩⟩;unfold jD dO
 rw [cn,aB,bJ rfl,cond_false,hh,aB,rn,aB,bJ rfl,cond_false,aB]
theorem aJD {k:bA} (n:aDp k.clock):AM k=some false\/(AM k=some true/\iW k/\k.clock.field.points.length<=10):=by
 unfold AM;rcases SN k with e|⟨e,sh⟩
 · rw [e];exact .inl rfl
 rw [e,aB];unfold GJ;rw [aB,Bool.not_false,cond_true]
 by_cases hm:10<Int.ofNat k.clock.field.points.length
 · rw [aO hm];exact .inl rfl
 · rw [aJ hm,Bool.not_false,cond_true,oJ ⟨n.now,⟨sh.c.s3,sh.c.h,sh.c.w,n.at64⟩,sh.c.d⟩,aB]
   by_cases ok:iW k
   · rw [if_pos ok];exact .inr ⟨rfl,ok,by rw [aF] at hm;omega⟩
   · rw [if_neg ok];exact .inl rfl
theorem J5 {σ:Type} {t:Int×Int} (rt:bQ t) (r64:pR t) {r:Field×Int} {R:bA×Int} (h:EdR t r R) (nxt:Option (bW σ Bool)):
 (bif r.2 !=0 then (bif R.2 !=r.2 then some (.done false) else nxt)
  else bif R.2==18 then nxt else
   (jD r.1 (t.1,t.2)).bind fun a6=>
   bif R.2 !=0 then some (.done false) else
    bif a6.2 !=0 then some (.done false) else
     (eN R.1).bind fun n7=>
     bif n7 !=0 then some (.done false) else
      (lA R.1.clock.field r.1).bind fun b8=>
      bif !b8 then some (.done false) else
       bif !((R.1.clock.now.1==t.1)&&(R.1.clock.now.2==t.2)) then some (.done false) else
        (fI R.1.up a6.1.up).bind fun b9=>
        bif !b9 then some (.done false) else nxt)=nxt:=by
 rcases h with ⟨r0,e⟩|⟨r0,fok,⟨q0,hg⟩|e⟩
 · rw [dA r0,cond_true,e,bJ rfl,cond_false]
 · obtain ⟨k,b1,b2⟩:=YL fok rt r64
   have hf:R.1.clock.field=r.1:=by
    have:=hg.fld
    cases hx:R.1.clock.field;cases hy:r.1;rw [hx,hy] at this;simpa using this
   have f1:=fok.1;have ul:=EZ r.1.points t;rw [bJ r0,cond_false,eQ (by omega),cond_false,show ((t.1,t.2):Int×Int)=t from rfl,b1,aB,bJ q0,cond_false,bJ rfl,cond_false,oJ hg.ok.clk.fit,if_pos hg.ok,aB,bJ rfl,cond_false,
    hf,show lA r.1 r.1=_ from DZ r.1.points r.1.points (by omega),aB,aO rfl,Bool.not_true,cond_false,hg.now,gC rfl,gC rfl,Bool.and_self,Bool.not_true,cond_false,hg.up,b2.up,V4 _ _ (by omega),aB,aO rfl,Bool.not_true,cond_false]
 · rw [bJ r0,cond_false,e,gC rfl,cond_true]
theorem CB (k:bA) (p:Pt) (id:Int) (n:aDp k.clock):rN k p id=some true:=by
 unfold rN;rw [aB];rcases aJD n with e|⟨e,ok,h10⟩
 · rw [e];rfl
 rw [e,aB,Bool.not_true,cond_false,cond_false];have rt:=ok.clk.nowv;have r64:=ok.clk.now64;obtain ⟨r1,R1,a1,a2,_,a3⟩:=aDB ok p;obtain ⟨r2,R2,b1,b2,_,b3⟩:=aBq ok id;obtain ⟨r3,R3,c1,c2,_,c3⟩:=V5 ok p
 have keta:bA.mk (aP.mk (k.clock.now.1,k.clock.now.2) (Field.mk k.clock.field.points) (aZ.mk k.clock.certs.next_ k.clock.certs.list) (aI.mk (aT.mk k.clock.agenda.slots.uses k.clock.agenda.slots.used k.clock.agenda.slots.free) k.clock.agenda.heap k.clock.agenda.where_) k.clock.due) k.up=k:=rfl;have feta:Field.mk k.clock.field.points=k.clock.field:=rfl
 have st:=bY (body:=kO) (fun i=>(id,true,(i:Int),k.clock.now.1,k.clock.now.2,k.clock.field.points,k.clock.certs.next_,k.clock.certs.list,k.clock.agenda.slots.uses,k.clock.agenda.slots.used,k.clock.agenda.slots.free,k.clock.agenda.heap,k.clock.agenda.where_,k.clock.due,k.up,p)) 3 (fun i hi=>by
  have ci:i=0\/i=1\/i=2:=by omega
  unfold kO;rcases ci with rfl|rfl|rfl
  · have t:=J5 rt r64 a3 (some (bW.next (ρ:=Bool) (id,true,((0+1:Nat):Int),k.clock.now.1,k.clock.now.2,k.clock.field.points,k.clock.certs.next_,k.clock.certs.list,k.clock.agenda.slots.uses,k.clock.agenda.slots.used,k.clock.agenda.slots.free,k.clock.agenda.heap,k.clock.agenda.where_,k.clock.due,k.up,p)))
    simp only [keta,feta,a1,a2,aB,show (((0:Nat):Int)==1)=false from rfl,show (((0:Nat):Int)==2)=false from rfl,cond_false,aV (show 0<1000000000 by omega),aO (show ((0:Nat):Int)<3 by decide),cond_true]
    exact t
  · have t:=J5 rt r64 b3 (some (bW.next (ρ:=Bool) (id,true,((1+1:Nat):Int),k.clock.now.1,k.clock.now.2,k.clock.field.points,k.clock.certs.next_,k.clock.certs.list,k.clock.agenda.slots.uses,k.clock.agenda.slots.used,k.clock.agenda.slots.free,k.clock.agenda.heap,k.clock.agenda.where_,k.clock.due,k.up,p)))
    simp only [keta,feta,a1,a2,b1,b2,aB,show (((1:Nat):Int)==1)=true from rfl,show (((1:Nat):Int)==2)=false from rfl,cond_false,aV (show 1<1000000000 by omega),aO (show ((1:Nat):Int)<3 by decide),cond_true]
    exact t
  · have t:=J5 rt r64 c3 (some (bW.next (ρ:=Bool) (id,true,((2+1:Nat):Int),k.clock.now.1,k.clock.now.2,k.clock.field.points,k.clock.certs.next_,k.clock.certs.list,k.clock.agenda.slots.uses,k.clock.agenda.slots.used,k.clock.agenda.slots.free,k.clock.agenda.heap,k.clock.agenda.where_,k.clock.due,k.up,p)))
    simp only [keta,feta,a1,a2,c1,c2,aB,show (((2:Nat):Int)==1)=false from rfl,show (((2:Nat):Int)==2)=true from rfl,cond_false,aV (show 2<1000000000 by omega),aO (show ((2:Nat):Int)<3 by decide),cond_true]
    exact t)
 refine (show _=_ from st).trans (aK ?_);unfold kO;simp only [aJ (show¬((3:Nat):Int)<3 by decide),cond_false]
theorem aDp.of {c:aP} (h1:RT.wf [.i .i64,.i .i64] c.now) (h2: ∀a∈c.agenda.heap,RT.wf [.i .i64,.i .i64,.i .i64,.i .i64,.i .i64] a):aDp c where
 now:=⟨RE h1.1,RE h1.2⟩
 at64 w hw:=by
  have:=h2 (c.agenda.heap[w]!) (by rw [getElem!_pos c.agenda.heap w hw];exact List.getElem_mem hw)
  exact ⟨RE this.1,RE this.2.1⟩
end Go.Proofs.YtbncnimfgdelaaaGreat
