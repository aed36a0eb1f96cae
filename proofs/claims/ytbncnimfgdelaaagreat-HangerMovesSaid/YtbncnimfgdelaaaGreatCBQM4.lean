/- Plain laws (4). -/
import Derived.Test.YtbncnimfgdelaaaGreatCBQM3
import Derived.Test.YtbncnimfgdelaaaGreatCBQS2
import Derived.Test.YtbncnimfgdelaaaGreatCBVm3
namespace Go.Proofs.YtbncnimfgdelaaaGreat
open Go.Vm Classical
theorem ZU (l:List (Int×Int)) (hl:l.length<=1048576):qV l l=some true:=by
 unfold qV;rw [bI rfl,cond_false]
 have:=bP (body:=nO) (fun i=>(l,l,(i:Int))) l.length (fun i hi=>by
  unfold nO;simp only [aF,aO (show (i:Int)<(l.length:Int) by omega),cond_true,aE l i hi,aB,fR rfl,Bool.and_self,Bool.not_true,cond_false,aU (show i<1000000000 by omega)])
 rw [show (l,l,(0:Int))=(l,l,((0:Nat):Int)) from rfl,this];refine aK ?_;unfold nO;simp only [aF,aL (show¬(l.length:Int)<(l.length:Int) by omega),cond_false]
theorem TQ (p q:Pt) (t:Int×Int):OQ p q t=(p.2.1*t.2+p.2.2*t.1) - (q.2.1*t.2+q.2.2*t.1):=by
 rw [JK,Int.sub_mul,Int.sub_mul];omega
theorem LX {p q r:Pt} {t:Int×Int} (h1:cJ p q t) (h2:cJ q r t):cJ p r t:=by
 unfold cJ at*;rw [TQ] at*;generalize p.2.1*t.2+p.2.2*t.1=a at*;generalize q.2.1*t.2+q.2.2*t.1=b at*;generalize r.2.1*t.2+r.2.2*t.1=c at*;omega
theorem AI {p q:Pt} (t:Int×Int) (h:p.1≠q.1) (hn: ¬cJ p q t):cJ q p t:=by
 unfold cJ at*;rw [TQ] at*;generalize p.2.1*t.2+p.2.2*t.1=a at*;generalize q.2.1*t.2+q.2.2*t.1=b at*;omega
structure SO (P:Int->Int->Prop) (S:Int->Prop):Prop where
 irr: ∀a,S a-> ¬P a a
 tr: ∀a b c,S a->S b->S c->P a b->P b c->P a c
 tot: ∀a b,S a->S b->a≠b->P a b\/P b a
abbrev par (j:Nat):Nat:=(j-1) / 2
def Hp (P:Int->Int->Prop) (l:List Int):Prop:= ∀j,0<j->j<l.length-> ¬P l[j]! l[par j]!
section
variable {P : Int -> Int -> Prop} {S : Int -> Prop}
theorem SO.asym (o:SO P S) {a b:Int} (ha:S a) (hb:S b) (h:P a b): ¬P b a:=fun k=>o.irr a ha (o.tr a b a ha hb ha h k)
theorem SO.ntr (o:SO P S) {a b c:Int} (ha:S a) (hb:S b) (hc:S c) (h1: ¬P a b) (h2: ¬P b c): ¬P a c:=fun h=>by
 by_cases e:b=c
 · exact h1 (e▸h)
 · rcases o.tot b c hb hc e with k|k
   · exact h2 k
   · exact h1 (o.tr a c b ha hc hb h k)
theorem SO.up (o:SO P S) {a b c:Int} (ha:S a) (hb:S b) (hc:S c) (h1:P b c) (h2: ¬P a c): ¬P a b:=fun h=>h2 (o.tr a b c ha hb hc h h1)
end
noncomputable def gT (P:Int->Int->Prop):List Int->Int
 | []=>0
 |x::r=>r.foldl (fun t y=>if P y t then y else t) x
noncomputable def kF (bit:Int->Nat->Nat) (l:List Int) (top:Int) (d b:Nat):List Int:=l.filter fun x=>decide (x≠top/\bit x d=b)
noncomputable def fH (P:Int->Int->Prop) (bit:Int->Nat->Nat):Nat->List Int->Int->Nat->List (Int×Int)
 |0,_,_,_=>[]
 |_+1,[],_,_=>[]
 |n+1,x::r,u,d=>(gT P (x::r),u)::(fH P bit n (kF bit (x::r) (gT P (x::r)) d 0) (gT P (x::r)) (d+1)++fH P bit n (kF bit (x::r) (gT P (x::r)) d 1) (gT P (x::r)) (d+1))
section
variable {P : Int -> Int -> Prop} {S : Int -> Prop} {bit : Int -> Nat -> Nat}
theorem PJ (o : SO P S) : ∀ (r : List Int) (x : Int), S x -> (∀ y ∈ r, S y) -> (r.foldl (fun t y => if P y t then y else t) x = x \/ r.foldl (fun t y => if P y t then y else t) x ∈ r) /\
    ¬ P x (r.foldl (fun t y => if P y t then y else t) x) /\ ∀ y ∈ r, ¬ P y (r.foldl (fun t y => if P y t then y else t) x)
  | [], x, hx, _ => ⟨.inl rfl, o.irr x hx, fun y h => by cases h⟩
  | z :: r, x, hx, hr => by
    rw [List.foldl_cons]
    have hz := hr z List.mem_cons_self
    have hr' : ∀ y ∈ r, S y := fun y hy => hr y (List.mem_cons_of_mem _ hy)
    by_cases c : P z x
    · rw [if_pos c]
      obtain ⟨a1, a2, a3⟩ := PJ o r z hz hr'
      have hT : S (r.foldl (fun t y => if P y t then y else t) z) := by
        rcases a1 with e | e
        · rw [e]; exact hz
        · exact hr' _ e
      refine ⟨.inr (by rcases a1 with e | e; · rw [e]; exact List.mem_cons_self
                       · exact List.mem_cons_of_mem _ e), ?_, fun y hy => ?_⟩
      · exact o.ntr hx hz hT (o.asym hz hx c) a2
      · rcases List.mem_cons.1 hy with rfl | hy
        · exact a2
        · exact a3 y hy
    · rw [if_neg c]
      obtain ⟨a1, a2, a3⟩ := PJ o r x hx hr'
      have hT : S (r.foldl (fun t y => if P y t then y else t) x) := by
        rcases a1 with e | e
        · rw [e]; exact hx
        · exact hr' _ e
      refine ⟨a1.imp id (List.mem_cons_of_mem _), a2, fun y hy => ?_⟩
      rcases List.mem_cons.1 hy with rfl | hy
      · exact o.ntr hz hx hT c a2
      · exact a3 y hy
theorem uL (o:SO P S) {l:List Int} (h0:l≠[]) (hS: ∀x∈l,S x):gT P l∈l/\ ∀y∈l,¬P y (gT P l):=by
 cases l with
 |nil=>exact absurd rfl h0
 |cons x r=>
  obtain ⟨a1,a2,a3⟩:=PJ o r x (hS x List.mem_cons_self) (fun y hy=>hS y (List.mem_cons_of_mem _ hy))
  refine ⟨?_,fun y hy=>?_⟩
  · rcases a1 with e|e
    · show r.foldl _ x∈_;rw [e];exact List.mem_cons_self
    · exact List.mem_cons_of_mem _ e
  · rcases List.mem_cons.1 hy with rfl|hy
    · exact a2
    · exact a3 y hy
theorem PK (o:SO P S) {l:List Int} (hS: ∀x∈l,S x) {a:Int} (ha:a∈l) (h: ∀y∈l,¬P y a):gT P l=a:=by
 obtain ⟨b1,b2⟩:=uL o (List.ne_nil_of_mem ha) hS;rcases Classical.em (gT P l=a) with e|e
 · exact e
 · rcases o.tot _ _ (hS _ b1) (hS _ ha) e with k|k
   · exact absurd k (h _ b1)
   · exact absurd k (b2 _ ha)
theorem aCt (o:SO P S) {l l':List Int} (hS: ∀x∈l,S x) (p:l.Perm l'):gT P l=gT P l':=by
 by_cases h0:l=[]
 · subst h0;rw [List.nil_perm.1 p]
 · have h0':l'≠[]:=fun e=>by subst e;exact h0 (List.perm_nil.1 p)
   obtain ⟨b1,b2⟩:=uL o h0' (fun x hx=>hS x (p.mem_iff.2 hx))
   exact PK o hS (p.mem_iff.2 b1) fun y hy=>b2 y (p.mem_iff.1 hy)
theorem gE {l:List Int} {top:Int} {d b:Nat} {x:Int}:x∈kF bit l top d b↔x∈l/\x≠top/\bit x d=b:=by
 unfold kF;rw [List.mem_filter,decide_eq_true_iff]
theorem xY {l:List Int} {top:Int} (h:top∈l) (d b:Nat):(kF bit l top d b).length<l.length:=by
 unfold kF;refine List.length_filter_lt_length_iff_exists.2 ⟨top,h,?_⟩;simp
theorem sA {l:List Int} (h:l.Nodup) (top:Int) (d b:Nat):(kF bit l top d b).Nodup:=h.filter _
theorem HP (o:SO P S): ∀(n:Nat) (l l':List Int) (u:Int) (d:Nat),(∀x∈l,S x)->l.Perm l'->fH P bit n l u d=fH P bit n l' u d
 |0,_,_,_,_,_,_=>by simp only [fH]
 |n+1,[],l',u,d,_,p=>by rw [List.nil_perm.1 p]
 |n+1,x::r,[],u,d,_,p=>by have:=p.length_eq;simp at this
 |n+1,x::r,y::q,u,d,hS,p=>by
  have e:=aCt o hS p;simp only [fH];rw [<- e];have sp: ∀b,(kF bit (x::r) (gT P (x::r)) d b).Perm (kF bit (y::q) (gT P (x::r)) d b):=fun b=>p.filter _
  rw [HP o n _ _ (gT P (x::r)) (d+1) (fun z hz=>hS z (gE.1 hz).1) (sp 0),HP o n _ _ (gT P (x::r)) (d+1) (fun z hz=>hS z (gE.1 hz).1) (sp 1)]
theorem PL {α:Type} [BEq α] [LawfulBEq α]: ∀{a b:List α},a.Nodup->(∀x∈a,x∈b)->a.length<=b.length
 | [],_,_,_=>Nat.zero_le _
 |x::a,b,hd,h=>by
  rw [List.nodup_cons] at hd;have hx:=h x List.mem_cons_self
  have:=PL (a:=a) (b:=b.erase x) hd.2 (fun y hy=>by
   rw [List.mem_erase_of_ne (fun e=>hd.1 (by rw [<- e];exact hy))]
   exact h y (List.mem_cons_of_mem _ hy))
  rw [List.length_erase_of_mem hx] at this
  have:=List.length_pos_of_mem hx
  rw [List.length_cons];omega
theorem DA (o:SO P S) (hb: ∀x d,bit x d<2): ∀(n:Nat) (l:List Int) (u:Int) (d:Nat),(∀x∈l,S x)->l.Nodup->l.length<=n->((fH P bit n l u d).map fun e=>e.1).Perm l/\ ∀e∈fH P bit n l u d,e.2=u\/(e.2∈l/\P e.2 e.1)
 |0,l,u,d,_,_,h=>by
  have:l=[]:=List.length_eq_zero_iff.1 (by omega)
  subst this;exact ⟨List.Perm.refl _,fun e he=>by simp only [fH] at he;cases he⟩
 |n+1,[],u,d,_,_,_=>⟨List.Perm.refl _,fun e he=>by simp only [fH] at he;cases he⟩
 |n+1,x::r,u,d,hS,nd,h=>by
  obtain ⟨t1,t2⟩:=uL o (List.cons_ne_nil x r) hS;have ih: ∀b,_:=fun b=>DA o hb n (kF bit (x::r) (gT P (x::r)) d b) (gT P (x::r)) (d+1) (fun z hz=>hS z (gE.1 hz).1) (sA nd _ d b) (by have:=xY (bit:=bit) t1 d b;omega)
  have pb: ∀b,∀e∈fH P bit n (kF bit (x::r) (gT P (x::r)) d b) (gT P (x::r)) (d+1),e.2∈x::r/\P e.2 e.1:=fun b e he=>by
   have k:e.1∈kF bit (x::r) (gT P (x::r)) d b:=(ih b).1.mem_iff.1 (List.mem_map.2 ⟨e,he,rfl⟩);rcases (ih b).2 e he with q|⟨q1,q2⟩
   · rw [q]
     refine ⟨t1,?_⟩;obtain ⟨k1,k2,_⟩:=gE.1 k;rcases o.tot _ _ (hS _ t1) (hS _ k1) (fun e=>k2 e.symm) with w|w
     · exact w
     · exact absurd w (t2 _ k1)
   · exact ⟨(gE.1 q1).1,q2⟩
  refine ⟨?_,fun e he=>?_⟩
  · simp only [fH,List.map_cons,List.map_append]
    refine (List.Perm.cons _ ((ih 0).1.append (ih 1).1)).trans ?_;refine uK (List.nodup_cons.2 ⟨fun hm=>?_,List.nodup_append.2 ⟨sA nd _ d 0,sA nd _ d 1,fun a ha b hb' e=>?_⟩⟩) (fun y hy=>?_) ?_
    · rcases List.mem_append.1 hm with hm|hm<;>exact (gE.1 hm).2.1 rfl
    · have w1:=(gE.1 ha).2.2
      have w2:=(gE.1 hb').2.2;rw [e,w2] at w1;omega
    · rcases List.mem_cons.1 hy with rfl|hy
      · exact t1
      · rcases List.mem_append.1 hy with hy|hy<;>exact (gE.1 hy).1
    · have sub:(x::r).length<=(gT P (x::r)::(kF bit (x::r) (gT P (x::r)) d 0++kF bit (x::r) (gT P (x::r)) d 1)).length:=PL nd fun y hy=>by
       by_cases c:y=gT P (x::r)
       · rw [c];exact List.mem_cons_self
       · refine List.mem_cons_of_mem _ (List.mem_append.2 ?_)
         have:=hb y d
         by_cases z:bit y d=0
         · exact .inl (gE.2 ⟨hy,c,z⟩)
         · exact .inr (gE.2 ⟨hy,c,by omega⟩)
      exact sub
  · simp only [fH] at he
    rcases List.mem_cons.1 he with rfl|he
    · exact .inl rfl
    · rcases List.mem_append.1 he with he|he
      · exact .inr (pb 0 e he)
      · exact .inr (pb 1 e he)
theorem LY {Q : Int -> Int -> Prop} (o : SO P S) (q : SO Q S) (hb : ∀ x d, bit x d < 2) : ∀ (n : Nat) (l : List Int) (u : Int) (d : Nat), (∀ x ∈ l, S x) -> l.Nodup -> l.length <= n ->
    (∀ e ∈ fH P bit n l u d, e.2 = u \/ Q e.2 e.1) -> u ∉ l -> fH Q bit n l u d = fH P bit n l u d /\ ∀ y ∈ l, y = gT P l \/ Q (gT P l) y
  | 0, l, u, d, _, _, h, _, _ => by
    have : l = [] := List.length_eq_zero_iff.1 (by omega)
    subst this
    exact ⟨by simp only [fH], fun y hy => by cases hy⟩
  | n + 1, [], u, d, _, _, _, _, _ => ⟨by simp only [fH], fun y hy => by cases hy⟩
  | n + 1, x :: r, u, d, hS, nd, h, hQ, hu => by
    obtain ⟨t1, t2⟩ := uL o (List.cons_ne_nil x r) hS
    simp only [fH] at hQ
    have ne : ∀ b, ∀ e ∈ fH P bit n (kF bit (x :: r) (gT P (x :: r)) d b) (gT P (x :: r)) (d + 1), e.2 ≠ u := fun b e he w => by
      obtain ⟨_, k2⟩ := DA o hb n (kF bit (x :: r) (gT P (x :: r)) d b) (gT P (x :: r)) (d + 1) (fun z hz => hS z (gE.1 hz).1) (sA nd _ d b) (by have := xY (bit := bit) t1 d b; omega)
      rcases k2 e he with k | ⟨k, _⟩
      · exact hu (by rw [<- w, k]; exact t1)
      · exact hu (by rw [<- w]; exact (gE.1 k).1)
    have ih : ∀ b, b = 0 \/ b = 1 -> _ := fun b hb2 => LY o q hb n (kF bit (x :: r) (gT P (x :: r)) d b) (gT P (x :: r)) (d + 1) (fun z hz => hS z (gE.1 hz).1) (sA nd _ d b) (by have := xY (bit := bit) t1 d b; omega)
      (fun e he => by
        have := hQ e (List.mem_cons_of_mem _ (List.mem_append.2 (by rcases hb2 with rfl | rfl; · exact .inl he
                                                                    · exact .inr he)))
        exact .inr (this.resolve_left (ne b e he))) (fun hm => (gE.1 hm).2.1 rfl)
    have ahead : ∀ y ∈ x :: r, y = gT P (x :: r) \/ Q (gT P (x :: r)) y := fun y hy => by
      by_cases c : y = gT P (x :: r)
      · exact .inl c
      · right
        have hbd := hb y d
        have hb2 : bit y d = 0 \/ bit y d = 1 := by omega
        have ym : y ∈ kF bit (x :: r) (gT P (x :: r)) d (bit y d) := gE.2 ⟨hy, c, rfl⟩
        have sm : ∀ z ∈ kF bit (x :: r) (gT P (x :: r)) d (bit y d), S z := fun z hz => hS z (gE.1 hz).1
        have st := (uL o (List.ne_nil_of_mem ym) sm).1
        have top1 : Q (gT P (x :: r)) (gT P (kF bit (x :: r) (gT P (x :: r)) d (bit y d))) := by
          have hm : (gT P (kF bit (x :: r) (gT P (x :: r)) d (bit y d)), gT P (x :: r)) ∈ fH P bit n (kF bit (x :: r) (gT P (x :: r)) d (bit y d)) (gT P (x :: r)) (d + 1) := by
            have hl := xY (bit := bit) t1 d (bit y d)
            generalize hs : kF bit (x :: r) (gT P (x :: r)) d (bit y d) = s at *
            cases s with
            | nil => cases ym
            | cons a s =>
              cases n with
              | zero => simp at h hl; subst h; simp at hl
              | succ n => simp only [fH]; exact List.mem_cons_self
          have hm' : (gT P (kF bit (x :: r) (gT P (x :: r)) d (bit y d)), gT P (x :: r)) ∈ fH P bit n (kF bit (x :: r) (gT P (x :: r)) d 0) (gT P (x :: r)) (d + 1) ++ fH P bit n (kF bit (x :: r) (gT P (x :: r)) d 1) (gT P (x :: r)) (d + 1) := by
            refine List.mem_append.2 ?_
            rcases hb2 with e | e
            · rw [e] at hm ⊢; exact .inl hm
            · rw [e] at hm ⊢; exact .inr hm
          have := hQ _ (List.mem_cons_of_mem _ hm')
          exact this.resolve_left (fun w => hu (by rw [<- w]; exact t1))
        rcases (ih (bit y d) hb2).2 y ym with e | e
        · rw [e]; exact top1
        · exact q.tr _ _ _ (hS _ t1) (sm _ st) (hS _ hy) top1 e
    refine ⟨?_, ahead⟩
    have te : gT Q (x :: r) = gT P (x :: r) := PK q hS t1 fun y hy w => by
      rcases ahead y hy with e | e
      · rw [e] at w; exact q.irr _ (hS _ t1) w
      · exact q.asym (hS _ t1) (hS _ hy) e w
    simp only [fH]
    rw [te, (ih 0 (.inl rfl)).1, (ih 1 (.inr rfl)).1]
end
theorem aEM {f:List Pt} (fok:bD f) (k:Nat):bD (f.eraseIdx k):=by
 refine ⟨Nat.le_trans (List.length_eraseIdx_le f k) fok.1,fun p hp=>fok.2.1 p (List.mem_of_mem_eraseIdx hp),?_⟩
 have h:=fok.2.2;intro i hi;have hl:=List.length_eraseIdx_le f k
 by_cases hk:k<f.length
 · have:=TN hk
   rw [C7,C7];split<;>split<;>exact gY h (by omega) (by omega)
 · rw [List.eraseIdx_of_length_le (by omega)] at hi ⊢
   exact h i hi
theorem LZ {f:List Pt} (fok:bD f) {k:Nat} (hk:k<f.length):lC ⟨f⟩ (f[k]!).1=some ((k:Int),0):=by
 have h1:=fok.1;have hc:eI ⟨f⟩=some 0:=by rw [iP];exact congrArg some (fL.2 fok)
 have bs:=AH f (f[k]!).1 (by omega) (fun i j=>gY fok.2.2)
 unfold lC lI;rw [JD];simp only [hc,aB,show ((0:Int) !=0)=false from rfl,cond_false,bs.1 k hk rfl,Bool.not_true]
theorem GP {f:List Pt} (fok:bD f) {id:Int} (h: ¬mV f id):lC ⟨f⟩ id=some (0,6):=by
 have h1:=fok.1;have hc:eI ⟨f⟩=some 0:=by rw [iP];exact congrArg some (fL.2 fok)
 have bs:=AH f id (by omega) (fun i j=>gY fok.2.2)
 obtain ⟨m,_,_,_,e⟩:=bs.2 (fun k hk he=>h ⟨k,hk,he⟩)
 unfold lC lI;rw [JD];simp only [hc,aB,show ((0:Int) !=0)=false from rfl,cond_false,e,Bool.not_false,cond_true]
theorem TR:lM=cW:=rfl
theorem ZV {f:List Pt} (fok:bD f) {k:Nat} (hk:k<f.length):nP ⟨f⟩ (f[k]!).1=some (⟨f.eraseIdx k⟩,0)/\pE ⟨f⟩ (f[k]!).1=some (⟨f.eraseIdx k⟩,0):=by
 have f1:=fok.1;constructor
 · obtain ⟨L,d1,d2⟩:=EZ f k hk
   unfold nP;rw [LZ fok hk,aB,bI rfl,cond_false,aW (show f.length<=1048576 by omega),aB,aU (show k<1000000000 by omega),TR,d1,aB]
   show some (Field.mk (L.take (f.length-1)),(0:Int))=_;rw [d2]
 · have hc:iM ⟨f⟩=some 0:=by rw [pI];exact congrArg some (fL.2 fok)
   unfold pE;rw [hc,aB,bI rfl,cond_false,BQ fok.2.2 (by omega) hk rfl,aB,aL (by omega),cond_false]
   unfold AV;generalize hn:(f[k]!).1=n;have key:=bP (body:=jS) (fun i=>(n,(i:Int),f,(f.take i).filter (fun x=>x.1 !=n))) f.length (fun i hi=>by
    have nx:(f.take (i+1)).filter (fun x=>x.1 !=n)=(f.take i).filter (fun x=>x.1 !=n)++(if (f[i]!).1 !=n then [f[i]!] else []):=by
     rw [cS hi,List.filter_append,List.filter_cons,List.filter_nil]
    have fl:((f.take i).filter (fun x=>x.1 !=n)).length<=200:=Nat.le_trans (List.length_filter_le _ _) (by rw [List.length_take];omega)
    unfold jS;simp only [aF,aO (show (i:Int)<(f.length:Int) by omega),cond_true,aE f i hi,aB,aU (show i<1000000000 by omega),nx]
    by_cases h:(f[i]!).1=n
    · rw [bI h];simp
    · rw [dQ h]
      simp only [cond_true,if_true,bV (show ((f.take i).filter (fun x=>x.1 !=n)).length+[f[i]!].length<=1048576 by simp only [List.length_cons,List.length_nil];omega),aB])
   have fin:aJ jS (n,(f.length:Int),f,(f.take f.length).filter (fun x=>x.1 !=n))=some ⟨f.eraseIdx k⟩:=aK (by
    unfold jS;simp only [aF,aL (show¬(f.length:Int)<(f.length:Int) by omega),cond_false,List.take_length]
    rw [JF hk (fun i j=>gY fok.2.2) hn])
   rw [show aJ jS (n,0,f,[])=_ from key,fin,aB]
theorem TS {f:List Pt} (fok:bD f) {id:Int} (h: ¬mV f id):nP ⟨f⟩ id=some (⟨[]⟩,6)/\pE ⟨f⟩ id=some (⟨[]⟩,6):=by
 constructor
 · unfold nP
   rw [GP fok h];rfl
 · have hc:iM ⟨f⟩=some 0:=by rw [pI];exact congrArg some (fL.2 fok)
   unfold pE;rw [hc,aB,bI rfl,cond_false,K3 fok h];rfl
def E5 (f:List Pt) (m:Nat) (p:Pt):List Pt:=f.take m++p::f.drop m
structure aBj (f:List Pt) (p:Pt) (m:Nat):Prop where
 le:m<=f.length
 lo: ∀i,i<m->(f[i]!).1<p.1
 hi: ∀i,m<=i->i<f.length->p.1<(f[i]!).1
theorem XB {f:List Pt} {m:Nat} (h:m<=f.length) (p:Pt):(E5 f m p).length=f.length+1:=by
 unfold E5;rw [List.length_append,List.length_cons,List.length_take,List.length_drop];omega
theorem RI {f:List Pt} {m:Nat} (h:m<=f.length) (p:Pt) (i:Nat):(E5 f m p)[i]! =if i<m then f[i]! else if i=m then p else f[i-1]!:=by
 have ht:(f.take m).length=m:=by rw [List.length_take];omega
 unfold E5;simp only [List.getElem!_eq_getElem?_getD]
 by_cases h1:i<m
 · rw [if_pos h1,List.getElem?_append_left (by omega),List.getElem?_take_of_lt h1]
 · rw [if_neg h1,List.getElem?_append_right (by omega),ht]
   by_cases h2:i=m
   · rw [if_pos h2,h2,Nat.sub_self];rfl
   · rw [if_neg h2,show i-m=(i-1-m)+1 by omega,List.getElem?_cons_succ,List.getElem?_drop,show m+(i-1-m)=i-1 by omega]
theorem aLC {f:List Pt} (fok:bD f) {p:Pt} (po:fY p) {m:Nat} (h:aBj f p m) (hl:f.length<64):bD (E5 f m p):=by
 refine ⟨by rw [XB h.le];omega,fun q hq=>?_,fun i hi=>?_⟩
 · rcases List.mem_append.1 hq with hq|hq
   · exact fok.2.1 q (List.mem_of_mem_take hq)
   · rcases List.mem_cons.1 hq with rfl|hq
     · exact po
     · exact fok.2.1 q (List.mem_of_mem_drop hq)
 · rw [XB h.le] at hi
   rw [RI h.le,RI h.le];rcases Nat.lt_trichotomy (i+1) m with c|c|c
   · rw [if_pos (by omega),if_pos c];exact gY fok.2.2 (by omega) (by have:=h.le;omega)
   · rw [if_pos (by omega),if_neg (by omega),if_pos c];exact h.lo i (by omega)
   · rw [if_neg (show¬i+1<m by omega),if_neg (show¬i+1=m by omega),Nat.add_sub_cancel]
     by_cases d:i=m
     · rw [if_neg (by omega),if_pos d];exact h.hi i (by omega) (by omega)
     · rw [if_neg (by omega),if_neg d];exact gY fok.2.2 (by omega) (by omega)
theorem ZW {f:List Pt} (fok:bD f) {p:Pt} (h: ¬mV f p.1): ∃m,aBj f p m/\lI ⟨f⟩ p.1=some ((m:Int),false):=by
 have h1:=fok.1;obtain ⟨m,a,b,c,e⟩:=(AH f p.1 (by omega) (fun i j=>gY fok.2.2)).2 (fun k hk he=>h ⟨k,hk,he⟩)
 refine ⟨m,⟨a,b,c⟩,?_⟩;unfold lI;rw [JD,e];rfl
theorem ZX {f:List Pt} (fok:bD f) {id:Int} (h:mV f id): ∃k,k<f.length/\(f[k]!).1=id/\lI ⟨f⟩ id=some ((k:Int),true):=by
 have h1:=fok.1;obtain ⟨k,hk,he⟩:=h;refine ⟨k,hk,he,?_⟩;unfold lI;rw [JD,(AH f id (by omega) (fun i j=>gY fok.2.2)).1 k hk he];rfl
theorem aLD {f:List Pt} (_:bD f) {p:Pt} {m:Nat} (h:aBj f p m) (hl:f.length<64):aJ fV (false,0,f,p.1,p.2.1,p.2.2,[])=some (⟨E5 f m p⟩,0):=by
 have hle:=h.le;have tl: ∀i,(f.take i).length<=64:=fun i=>by rw [List.length_take];omega
 have k1:=bP (body:=fV) (fun i=>(false,(i:Int),f,p.1,p.2.1,p.2.2,f.take i)) m (fun i hi=>by
  unfold fV;simp only [aF,aO (show (i:Int)<(f.length:Int) by omega),cond_true,Bool.not_false,aE f i (by omega),aB,aL (show¬p.1<(f[i]!).1 from Int.not_lt.2 (Int.le_of_lt (h.lo i hi))),cond_false,
   bV (show (f.take i).length+[f[i]!].length<=1048576 by have:=tl i;simp only [List.length_cons,List.length_nil];omega),aU (show i<1000000000 by omega),cS (show i<f.length by omega)])
 refine (show aJ fV (false,0,f,p.1,p.2.1,p.2.2,[])=_ from k1).trans ?_;have pe:((p.1,p.2.1,p.2.2):Pt)=p:=rfl;rcases Nat.lt_or_ge m f.length with hm|hm
 · have s1:fV (false,(m:Int),f,p.1,p.2.1,p.2.2,f.take m)=some (.next (true,((m+1:Nat):Int),f,p.1,p.2.1,p.2.2,f.take m++[p]++[f[m]!])):=by
    unfold fV;simp only [aF,aO (show (m:Int)<(f.length:Int) by omega),cond_true,Bool.not_false,aE f m hm,aB,aO (h.hi m (Nat.le_refl _) hm),pe,
     bV (show (f.take m).length+[p].length<=1048576 by have:=tl m;simp only [List.length_cons,List.length_nil];omega),
     bV (show (f.take m++[p]).length+[f[m]!].length<=1048576 by have:=tl m;simp only [List.length_append,List.length_cons,List.length_nil];omega),aU (show m<1000000000 by omega)]
   rw [bC s1];have k2:=bP (body:=fV) (fun i=>(true,((m+1+i:Nat):Int),f,p.1,p.2.1,p.2.2,f.take m++[p]++(f.drop m).take (i+1))) (f.length- (m+1)) (fun i hi=>by
    have ed:(f.drop m).take (i+1+1)=(f.drop m).take (i+1)++[f[m+1+i]!]:=by
     rw [cS (show i+1<(f.drop m).length by rw [List.length_drop];omega),uG];congr 3;omega
    unfold fV;simp only [aF,aO (show ((m+1+i:Nat):Int)<(f.length:Int) by omega),cond_true,Bool.not_true,cond_false,aE f (m+1+i) (by omega),aB,
     bV (show (f.take m++[p]++(f.drop m).take (i+1)).length+[f[m+1+i]!].length<=1048576 by have:=tl m;simp only [List.length_append,List.length_take,List.length_drop,List.length_cons,List.length_nil] at this ⊢;omega),aU (show m+1+i<1000000000 by omega),ed]
    rw [List.append_assoc (f.take m++[p]),show m+1+i+1=m+1+(i+1) by omega])
   have e0:(f.drop m).take (0+1)=[f[m]!]:=by
    have:=WB hm
    rw [show f.drop m=f[m]!::f.drop (m+1) by rw [getElem!_pos f m hm,List.getElem_cons_drop]];rfl
   rw [e0] at k2;refine (show aJ fV (true,((m+1:Nat):Int),f,p.1,p.2.1,p.2.2,f.take m++[p]++[f[m]!])=_ from k2).trans (aK ?_);have ef:(f.drop m).take (f.length- (m+1)+1)=f.drop m:=List.take_of_length_le (by rw [List.length_drop];omega)
   rw [ef,show m+1+(f.length- (m+1))=f.length by omega]
   unfold fV E5;simp only [aF,aL (show¬(f.length:Int)<(f.length:Int) by omega),cond_false,Bool.not_true,List.append_assoc,List.singleton_append]
 · obtain rfl:m=f.length:=by omega
   refine aK ?_;unfold fV E5;simp only [aF,aL (show¬(f.length:Int)<(f.length:Int) by omega),cond_false,Bool.not_false,cond_true,pe,List.take_length,
    bV (show f.length+[p].length<=1048576 by simp only [List.length_cons,List.length_nil];omega),aB,List.drop_length]
theorem PM {f:List Pt} (fok:bD f) (p:Pt):
 (∃e:Int,e≠0/\mN ⟨f⟩ p=some (⟨[]⟩,e)/\oK ⟨f⟩ p=some (⟨[]⟩,e))\/
 (∃m,aBj f p m/\ ¬mV f p.1/\fY p/\f.length<64/\mN ⟨f⟩ p=some (⟨E5 f m p⟩,0)/\oK ⟨f⟩ p=some (⟨E5 f m p⟩,0)):=by
 have f1:=fok.1;have hc:eI ⟨f⟩=some 0:=by rw [iP];exact congrArg some (fL.2 fok)
 have hc2:iM ⟨f⟩=some 0:=by rw [pI];exact congrArg some (fL.2 fok)
 by_cases po:fY p
 case neg=>
  refine .inl ⟨8,by decide,?_,?_⟩
  · unfold mN;rw [hc,aB,bI rfl,cond_false,fW,if_neg po];rfl
  · unfold oK;rw [hc2,aB,bI rfl,cond_false,iO,if_neg po];rfl
 by_cases hp:mV f p.1
 · obtain ⟨k,hk,he,e⟩:=ZX fok hp
   refine .inl ⟨14,by decide,?_,?_⟩
   · unfold mN;rw [hc,aB,bI rfl,cond_false,fW,if_pos po,aB,bI rfl,cond_false,e];rfl
   · unfold oK;rw [hc2,aB,bI rfl,cond_false,iO,if_pos po,aB,bI rfl,cond_false,BQ fok.2.2 (by omega) hk he,aB,aO (show (0:Int)<=(k:Int) by omega)];rfl
 obtain ⟨m,hm,e⟩:=ZW fok hp
 by_cases full:f.length=64
 · refine .inl ⟨18,by decide,?_,?_⟩
   · unfold mN;rw [hc,aB,bI rfl,cond_false,fW,if_pos po,aB,bI rfl,cond_false,e,aB,cond_false]
     simp only [aF,full];rfl
   · unfold oK;rw [hc2,aB,bI rfl,cond_false,iO,if_pos po,aB,bI rfl,cond_false,K3 fok hp,aB,aL (by decide),cond_false]
     simp only [aF,full];rfl
 · have hl:f.length<64:=by omega
   have hf:(Int.ofNat f.length==64)=false:=by simp only [aF,beq_eq_false_iff_ne];omega
   refine .inr ⟨m,hm,hp,po,hl,?_,?_⟩
   · have hi:FD f (m:Int) [p]=some (E5 f m p):=by
      unfold FD;rw [if_pos ⟨by omega,by have:=hm.le;simpa using this,rfl,by omega⟩]
      simp [E5]
     unfold mN;rw [hc,aB,bI rfl,cond_false,fW,if_pos po,aB,bI rfl,cond_false,e,aB,cond_false,hf,cond_false,aW (show f.length<=1048576 by omega),aB,hi,aB]
   · unfold oK
     rw [hc2,aB,bI rfl,cond_false,iO,if_pos po,aB,bI rfl,cond_false,K3 fok hp,aB,aL (by decide),cond_false,hf,cond_false]
     exact aLD fok hm hl
theorem aR7 {f:List Pt} (fok:bD f) {p:Pt} (po:fY p) {k:Nat} (hk:k<f.length) (he:(f[k]!).1=p.1):bD (f.set k p):=by
 refine ⟨by rw [List.length_set];exact fok.1,fun q hq=>?_,fun i hi=>?_⟩
 · rcases List.mem_or_eq_of_mem_set hq with h|rfl
   · exact fok.2.1 q h
   · exact po
 · rw [List.length_set] at hi
   have h:=gY fok.2.2 (show i<i+1 by omega) hi
   have g: ∀j:Nat,((f.set k p)[j]!).1=(f[j]!).1:=fun j=>by
    simp only [List.getElem!_eq_getElem?_getD,List.getElem?_set]
    by_cases c:k=j
    · subst c
      rw [if_pos rfl,if_pos hk];simp only [List.getElem!_eq_getElem?_getD] at he;exact he.symm
    · rw [if_neg c]
   rw [g,g];exact h
theorem JL {f:List Pt} (fok:bD f) (p:Pt):
 (∃e:Int,e≠0/\iF ⟨f⟩ p=some (⟨[]⟩,e)/\jN ⟨f⟩ p=some (⟨[]⟩,e))\/
 (∃k,k<f.length/\(f[k]!).1=p.1/\fY p/\iF ⟨f⟩ p=some (⟨f.set k p⟩,0)/\jN ⟨f⟩ p=some (⟨f.set k p⟩,0)):=by
 have f1:=fok.1;have hc:eI ⟨f⟩=some 0:=by rw [iP];exact congrArg some (fL.2 fok)
 have hc2:iM ⟨f⟩=some 0:=by rw [pI];exact congrArg some (fL.2 fok)
 by_cases po:fY p
 case neg=>
  refine .inl ⟨8,by decide,?_,?_⟩
  · unfold iF;rw [hc,aB,bI rfl,cond_false,fW,if_neg po];rfl
  · unfold jN;rw [hc2,aB,bI rfl,cond_false,iO,if_neg po];rfl
 by_cases hp:mV f p.1
 case neg=>
  refine .inl ⟨6,by decide,?_,?_⟩
  · unfold iF;rw [hc,aB,bI rfl,cond_false,fW,if_pos po,aB,bI rfl,cond_false,GP fok hp];rfl
  · unfold jN;rw [hc2,aB,bI rfl,cond_false,iO,if_pos po,aB,bI rfl,cond_false,K3 fok hp];rfl
 obtain ⟨k,hk,he⟩:=hp;have pl:=LZ fok hk;rw [he] at pl;refine .inr ⟨k,hk,he,po,?_,?_⟩
 · unfold iF
   rw [hc,aB,bI rfl,cond_false,fW,if_pos po,aB,bI rfl,cond_false,pl,aB,bI rfl,cond_false,aW (show f.length<=1048576 by omega),aB,aE f k hk,aB,qL]
 · unfold jN nF
   rw [hc2,aB,bI rfl,cond_false,iO,if_pos po,aB,bI rfl,cond_false,BQ fok.2.2 (by omega) hk he,aB,aL (by omega),cond_false,aW (show f.length<=1048576 by omega),aB,aB,aE f k hk,aB,qL]
noncomputable def pZ (f:List Pt) (es:List (Int×Int)):Int:=if¬(∀x∈es,gD x) then 8 else if¬es.Nodup then 14 else if¬(∀x∈es,kE f x) then 6 else 0
def rP (c:aP) (f:List Pt) (es:List (Int×Int)) (i:Nat):=
 (es,es,(es.length:Int),(i:Int),c.now.1,c.now.2,c.field.points,c.certs.next_,c.certs.list,c.agenda.slots.uses,c.agenda.slots.used,c.agenda.slots.free,c.agenda.heap,c.agenda.where_,c.due,f,(0:Int),(0:Int),(0:Int))
theorem PN {c:aP} (ok:aY c) {f:List Pt} (fok:bD f) {es:List (Int×Int)} (hl:es.length<=1000) {r:aP×Int} (hr:pZ f es=0->wF c ⟨f⟩ es=some r):
 rS c ⟨f⟩ es=some (if pZ f es=0 then r else (dY,pZ f es)):=by
 have bd:=ok.bd;have ab:=ok.agd.bd;have sl:=ok.agd.so.fl;have sn:=ok.agd.so.n2;have su:=ok.agd.so.ul;have el:decide ((es.length:Int)<(es.length:Int))=false:=aL (by omega)
 have hc:hH c=some 0:=by rw [mR ok.fit,if_pos ok]
 have hf:eI ⟨f⟩=some 0:=by rw [iP];exact congrArg some (fL.2 fok)
 have tw:yL (aP.mk (c.now.1,c.now.2) (Field.mk c.field.points) (bK.mk c.certs.next_ c.certs.list) (aQ.mk (bA.mk c.agenda.slots.uses c.agenda.slots.used c.agenda.slots.free) c.agenda.heap c.agenda.where_) c.due)=some c:=by
  unfold yL;simp only [aW (show c.field.points.length<=1048576 by omega),aW (show c.certs.list.length<=1048576 by omega),aW (show c.due.length<=1048576 by omega),aW (show c.agenda.heap.length<=1048576 by omega),aW (show c.agenda.where_.length<=1048576 by omega),
   aW (show c.agenda.slots.uses.length<=1048576 by omega),aW (show c.agenda.slots.used.length<=1048576 by omega),aW (show c.agenda.slots.free.length<=1048576 by omega),aB]
 have k3: ∀e2:aP×Int,aJ eO (rP c f es 0)=some (.done e2)->aJ eQ (rP c f es 0)=some (if∀i,i<es.length->gD es[i]! then e2 else (dY,8)):=by
  intro e2 h2;refine K4 (body:=eQ) (fun i=>rP c f es i) es.length (fun i=>gD es[i]!) (r:=(dY,8)) (e:=e2) (fun i hi=>?_) ?_
  · have e1:decide ((i:Int)<(es.length:Int))=true:=aO (by omega)
    unfold eQ rP gD;simp only [e1,cond_true,aE es i hi,aB,aU (show i<1000000000 by omega)]
    generalize es[i]! =x
    by_cases a1:x.1<0
    · rw [aO a1];exact ⟨fun _=>rfl,fun h=>by omega⟩
    rw [aL a1]
    by_cases a2:x.2<0
    · rw [aO a2];exact ⟨fun _=>rfl,fun h=>by omega⟩
    rw [aL a2]
    by_cases a3:65535<x.1
    · rw [aO a3];exact ⟨fun _=>rfl,fun h=>by omega⟩
    rw [aL a3]
    by_cases a4:65535<x.2
    · rw [aO a4];exact ⟨fun _=>rfl,fun h=>by omega⟩
    rw [aL a4]
    by_cases a5:x.1=x.2
    · rw [fR a5];exact ⟨fun _=>rfl,fun h=>absurd a5 h.2.2.2.2⟩
    · rw [eT a5];exact ⟨fun h=>absurd ⟨by omega,by omega,by omega,by omega,a5⟩ h,fun _=>rfl⟩
  · unfold eQ rP
    simp only [aF,el,cond_false];exact h2
 have k2: ∀e1:aP×Int,aJ fQ (rP c f es 0)=some (.done (.done e1))->aJ eO (rP c f es 0)=some (.done (if∀i,i<es.length->es[i]!∉es.take i then e1 else (dY,14))):=by
  intro e0 h2
  have:=K4 (body:=eO) (fun i=>rP c f es i) es.length (fun i=>es[i]!∉es.take i) (r:= .done (dY,14)) (e:= .done e0) (fun i hi=>by
   have e1:decide ((i:Int)<(es.length:Int))=true:=aO (by omega)
   unfold eO rP;simp only [e1,cond_true,aE es i hi,pX es i (by omega),aB,qN _ _ (show (es.take i).length<=1000000 by rw [List.length_take];omega),aU (show i<1000000000 by omega)]
   by_cases h:es[i]!∈es.take i
   · rw [aO h];exact ⟨fun _=>rfl,fun k=>absurd h k⟩
   · rw [aL h];exact ⟨fun k=>absurd h k,fun _=>rfl⟩) (by
   unfold eO rP;simp only [aF,el,cond_false];exact h2)
  refine this.trans ?_
  by_cases hb: ∀i,i<es.length->es[i]!∉es.take i
  · rw [if_pos hb,if_pos hb]
  · rw [if_neg hb,if_neg hb]
 have step1: ∀i,i<es.length->(¬kE f es[i]!->fQ (rP c f es i)=some (.done (.done (.done (dY,6)))))/\(kE f es[i]!->fQ (rP c f es i)=some (.next (rP c f es (i+1)))):=by
  intro i hi;have e1:decide ((i:Int)<(es.length:Int))=true:=aO (by omega)
  obtain ⟨p,e,a1,a2⟩:=GO fok (es[i]!).1;obtain ⟨q,g,b1,b2⟩:=GO fok (es[i]!).2;unfold fQ rP kE;simp only [e1,cond_true,aE es i hi,aB,a1,b1,aU (show i<1000000000 by omega)]
  by_cases h1:mV f (es[i]!).1
  · rw [bI (a2.2 h1)]
    by_cases h2:mV f (es[i]!).2
    · rw [bI (b2.2 h2)]
      exact ⟨fun h=>absurd ⟨h1,h2⟩ h,fun _=>rfl⟩
    · rw [dQ (fun h=>h2 (b2.1 h))]
      exact ⟨fun _=>rfl,fun h=>absurd h.2 h2⟩
  · rw [dQ (fun h=>h1 (a2.1 h))]
    exact ⟨fun _=>rfl,fun h=>absurd h.1 h1⟩
 have start:rS c ⟨f⟩ es=aJ eQ (rP c f es 0):=by
  unfold rS;simp only [hc,aB,show ((0:Int) !=0)=false from rfl,cond_false,hf];rfl
 rw [start]
 by_cases h1: ∀x∈es,gD x
 case neg=>
  have er:pZ f es=8:=by unfold pZ;rw [if_pos h1]
  rw [er,if_neg (by omega)]
  have:=dE (body:=eQ) (fun i=>rP c f es i) es.length (fun i=> ¬gD es[i]!) (r:=(dY,8)) (e:=r)
  have k3':=k3;rw [JJ (P:=gD)] at h1;obtain ⟨i,h⟩:=Classical.not_forall.1 h1;obtain ⟨hi,hx⟩:=Classical.not_imp.1 h;obtain ⟨m,m1,m2,m3⟩:=LM (c:=fun i=> ¬gD es[i]!) ⟨i,hi,hx⟩
  have go: ∀j,j<es.length->(¬gD es[j]!->eQ (rP c f es j)=some (.done (dY,8)))/\(gD es[j]!->eQ (rP c f es j)=some (.next (rP c f es (j+1)))):=by
   intro j hj;have e1:decide ((j:Int)<(es.length:Int))=true:=aO (by omega)
   unfold eQ rP gD;simp only [e1,cond_true,aE es j hj,aB,aU (show j<1000000000 by omega)]
   generalize es[j]! =x
   by_cases a1:x.1<0
   · rw [aO a1];exact ⟨fun _=>rfl,fun h=>by omega⟩
   rw [aL a1]
   by_cases a2:x.2<0
   · rw [aO a2];exact ⟨fun _=>rfl,fun h=>by omega⟩
   rw [aL a2]
   by_cases a3:65535<x.1
   · rw [aO a3];exact ⟨fun _=>rfl,fun h=>by omega⟩
   rw [aL a3]
   by_cases a4:65535<x.2
   · rw [aO a4];exact ⟨fun _=>rfl,fun h=>by omega⟩
   rw [aL a4]
   by_cases a5:x.1=x.2
   · rw [fR a5];exact ⟨fun _=>rfl,fun h=>absurd a5 h.2.2.2.2⟩
   · rw [eT a5];exact ⟨fun h=>absurd ⟨by omega,by omega,by omega,by omega,a5⟩ h,fun _=>rfl⟩
  rw [bP (body:=eQ) (fun i=>rP c f es i) m fun j hj=>(go j (by omega)).2 (Classical.not_not.1 (m3 j hj))]
  exact aK ((go m m1).1 m2)
 have h1':=(JJ (P:=gD)).1 h1
 by_cases h2:es.Nodup
 case neg=>
  have er:pZ f es=14:=by unfold pZ;rw [if_neg (Classical.not_not.2 h1),if_pos h2]
  rw [er,if_neg (by omega)]
  have h2':=h2;rw [PG] at h2';obtain ⟨i,h⟩:=Classical.not_forall.1 h2';obtain ⟨hi,hx⟩:=Classical.not_imp.1 h;obtain ⟨m,m1,m2,m3⟩:=LM (c:=fun i=> ¬es[i]!∉es.take i) ⟨i,hi,hx⟩
  have go: ∀j,j<es.length->(es[j]!∈es.take j->eO (rP c f es j)=some (.done (.done (dY,14))))/\(es[j]!∉es.take j->eO (rP c f es j)=some (.next (rP c f es (j+1)))):=by
   intro j hj;have e1:decide ((j:Int)<(es.length:Int))=true:=aO (by omega)
   unfold eO rP;simp only [e1,cond_true,aE es j hj,pX es j (by omega),aB,qN _ _ (show (es.take j).length<=1000000 by rw [List.length_take];omega),aU (show j<1000000000 by omega)]
   by_cases h:es[j]!∈es.take j
   · rw [aO h];exact ⟨fun _=>rfl,fun k=>absurd h k⟩
   · rw [aL h];exact ⟨fun k=>absurd k h,fun _=>rfl⟩
  have l2:aJ eO (rP c f es 0)=some (.done (dY,14)):=by
   rw [bP (body:=eO) (fun i=>rP c f es i) m fun j hj=>(go j (by omega)).2 (Classical.not_not.1 (m3 j hj))]
   exact aK ((go m m1).1 (Classical.not_not.1 m2))
  rw [k3 _ l2,if_pos h1']
 have h2':=PG.1 h2
 by_cases h3: ∀x∈es,kE f x
 case neg=>
  have er:pZ f es=6:=by unfold pZ;rw [if_neg (Classical.not_not.2 h1),if_neg (Classical.not_not.2 h2),if_pos h3]
  rw [er,if_neg (by omega)]
  have h3':=h3;rw [JJ (P:=kE f)] at h3';obtain ⟨i,h⟩:=Classical.not_forall.1 h3';obtain ⟨hi,hx⟩:=Classical.not_imp.1 h;obtain ⟨m,m1,m2,m3⟩:=LM (c:=fun i=> ¬kE f es[i]!) ⟨i,hi,hx⟩
  have l1:aJ fQ (rP c f es 0)=some (.done (.done (dY,6))):=by
   rw [bP (body:=fQ) (fun i=>rP c f es i) m fun j hj=>(step1 j (by omega)).2 (Classical.not_not.1 (m3 j hj))]
   exact aK ((step1 m m1).1 m2)
  rw [k3 _ (k2 _ l1),if_pos h1',if_pos h2']
 have h3':=(JJ (P:=kE f)).1 h3;have er:pZ f es=0:=by unfold pZ;rw [if_neg (Classical.not_not.2 h1),if_neg (Classical.not_not.2 h2),if_neg (Classical.not_not.2 h3)]
 rw [er,if_pos rfl];have l1:aJ fQ (rP c f es 0)=some (.done (.done r)):=by
  rw [bP (body:=fQ) (fun i=>rP c f es i) es.length fun j hj=>(step1 j hj).2 (h3' j hj)]
  refine aK ?_;unfold fQ rP;simp only [el,cond_false,tw,aB,hr er]
 rw [k3 _ (k2 _ l1),if_pos h1',if_pos h2']
theorem tk {l:List Int} {m:Nat} {x:Int} (h:l.length=m):(l++[x]).take m=l:=by rw [<- h,List.take_left]
section
variable {k : GI} {f : List Pt} {m n0 : Nat} {x : Int}
end
section
variable {k : GI} {P : Pt} {f : List Pt} {m : Nat}
end
end Go.Proofs.YtbncnimfgdelaaaGreat
namespace Go.Proofs.YtbncnimfgdelaaaGreat
abbrev Nd:=Int×Int×Int
structure XC (P:Nat->Nat->Prop) (a b i:Nat):Prop where
 lo:a<=i
 hi:i<b
 top: ∀j,a<=j->j<b->j≠i->P i j
inductive tG (P:Nat->Nat->Prop) (N:List Nd):Nat->Nat->Int->Prop
 |nil {a b:Nat} (h:b<=a):tG P N a b (-1)
 |node {a b i:Nat} (h:XC P a b i) (l:tG P N a i (N[i]!).2.1) (r:tG P N (i+1) b (N[i]!).2.2):tG P N a b (i:Int)
structure aLE (P:Nat->Nat->Prop) (n:Nat):Prop where
 tr: ∀i j k,i<n->j<n->k<n->P i j->P j k->P i k
 asy: ∀i j,i<n->j<n->P i j-> ¬P j i
 tot: ∀i j,i<n->j<n->i≠j-> ¬P i j->P j i
theorem XC.one {P:Nat->Nat->Prop} {n a b i j:Nat} (o:aLE P n) (hb:b<=n) (h:XC P a b i) (k:XC P a b j):i=j:=by
 refine Classical.byContradiction fun hne=>?_
 have:=h.hi;have:=k.hi
 exact o.asy i j (by omega) (by omega) (h.top j k.lo k.hi (fun e=>hne e.symm)) (k.top i h.lo h.hi hne)
theorem tG.link {P:Nat->Nat->Prop} {N:List Nd} {a b:Nat} {r:Int} (h:tG P N a b r):(b<=a/\r= -1)\/(∃i:Nat,r=(i:Int)/\a<=i/\i<b):=by
 cases h with
 |nil h=>exact .inl ⟨h,rfl⟩
 |node h l r=>exact .inr ⟨_,rfl,h.lo,h.hi⟩
theorem tG.unique {P:Nat->Nat->Prop} {n:Nat} (o:aLE P n) {N N':List Nd} {a b:Nat} {r:Int} (h:tG P N a b r): ∀{r':Int},b<=n->tG P N' a b r'->r=r'/\ ∀k,a<=k->k<b->(N[k]!).2=(N'[k]!).2:=by
 induction h with
 |nil h=>
  intro r' hb h';cases h' with
  |nil _=>exact ⟨rfl,fun k h1 h2=>by omega⟩
  |node t _ _=>have:=t.lo;have:=t.hi;omega
 | @node a b i h l r ihl ihr=>
  intro r' hb h';have lo:=h.lo;have hi:=h.hi;cases h' with
  |nil q=>omega
  | @node _ _ j t l' r'=>
   have e:=h.one o hb t;subst e;obtain ⟨e1,f1⟩:=ihl (by omega) l'
   obtain ⟨e2,f2⟩:=ihr hb r';refine ⟨rfl,fun k h1 h2=>?_⟩
   rcases Nat.lt_trichotomy k i with q|q|q
   · exact f1 k h1 q
   · subst q;exact Prod.ext e1 e2
   · exact f2 k (by omega) h2
theorem tG.other {P Q:Nat->Nat->Prop} {n:Nat} (o:aLE Q n) {N:List Nd} {a b:Nat} {r:Int} (h:tG P N a b r):b<=n->(∀k j:Nat,a<=k->k<b->a<=j->j<b->((N[k]!).2.1=(j:Int)\/(N[k]!).2.2=(j:Int))->Q k j)->tG Q N a b r:=by
 induction h with
 |nil h=>exact fun _ _=> .nil h
 | @node a b i h l r ihl ihr=>
  intro hb q;have lo:=h.lo;have hi:=h.hi;have tl:=ihl (by omega) fun k j h1 h2 h3 h4=>q k j h1 (by omega) h3 (by omega)
  have tr:=ihr hb fun k j h1 h2 h3 h4=>q k j (by omega) h2 (by omega) h4
  refine .node ⟨lo,hi,fun j h1 h2 hne=>?_⟩ tl tr
  rcases Nat.lt_or_ge j i with hj|hj
  · generalize hr:(N[i]!).2.1=s at tl
    cases tl with
    |nil q=>omega
    | @node _ _ m t _ _=>
     have t1:=t.lo;have t2:=t.hi;have qm:=q i m lo hi t1 (by omega) (.inl hr)
     by_cases e:j=m
     · rw [e];exact qm
     · exact o.tr i m j (by omega) (by omega) (by omega) qm (t.top j h1 hj e)
  · generalize hr:(N[i]!).2.2=s at tr
    cases tr with
    |nil q=>omega
    | @node _ _ m t _ _=>
     have t1:=t.lo;have t2:=t.hi;have qm:=q i m lo hi (by omega) t2 (.inr hr)
     by_cases e:j=m
     · rw [e];exact qm
     · exact o.tr i m j (by omega) (by omega) (by omega) qm (t.top j (by omega) h2 e)
theorem tG.kids {P:Nat->Nat->Prop} {N:List Nd} {a b:Nat} {r:Int} (h:tG P N a b r): ∀k,a<=k->k<b-> ∀c:Int,((N[k]!).2.1=c\/(N[k]!).2.2=c)->c= -1\/ ∃j:Nat,c=(j:Int)/\a<=j/\j<b/\j≠k/\P k j/\r≠c:=by
 induction h with
 |nil h=>intro k h1 h2;omega
 | @node a b i h l r ihl ihr=>
  have lo:=h.lo;have hi:=h.hi;intro k h1 h2 c hc;rcases Nat.lt_trichotomy k i with q|q|q
  · rcases ihl k h1 q c hc with e|⟨j,e,j1,j2,j3,j4,_⟩
    · exact .inl e
    · exact .inr ⟨j,e,j1,by omega,j3,j4,by rw [e];omega⟩
  · subst q
    rcases hc with hc|hc
    · rcases l.link with ⟨_,e⟩|⟨j,e,j1,j2⟩
      · exact .inl (hc▸e)
      · exact .inr ⟨j,hc▸e,j1,by omega,by omega,h.top j j1 (by omega) (by omega),by rw [<- hc,e];omega⟩
    · rcases r.link with ⟨_,e⟩|⟨j,e,j1,j2⟩
      · exact .inl (hc▸e)
      · exact .inr ⟨j,hc▸e,by omega,j2,by omega,h.top j (by omega) j2 (by omega),by rw [<- hc,e];omega⟩
  · rcases ihr k (by omega) h2 c hc with e|⟨j,e,j1,j2,j3,j4,_⟩
    · exact .inl e
    · exact .inr ⟨j,e,by omega,j2,j3,j4,by rw [e];omega⟩
theorem tG.up {P:Nat->Nat->Prop} {N:List Nd} {a b:Nat} {r:Int} (h:tG P N a b r): ∀k:Nat,a<=k->k<b->(k:Int)≠r-> ∃j,a<=j/\j<b/\((N[j]!).2.1=(k:Int)\/(N[j]!).2.2=(k:Int))/\ ∀m,a<=m->m<b->((N[m]!).2.1=(k:Int)\/(N[m]!).2.2=(k:Int))->m=j:=by
 induction h with
 |nil h=>intro k h1 h2;omega
 | @node a b i h l r ihl ihr=>
  have lo:=h.lo;have hi:=h.hi;have lk:=l.kids;have rk:=r.kids;intro k h1 h2 hne;have hki:k≠i:=fun e=>hne (by rw [e])
  rcases Nat.lt_or_ge k i with q|q
  · by_cases er:(k:Int)=(N[i]!).2.1
    · refine ⟨i,lo,hi,.inl er.symm,fun m m1 m2 hm=>?_⟩
      rcases Nat.lt_trichotomy m i with w|w|w
      · rcases lk m m1 w _ hm with e|⟨j,e,_,_,_,_,hr⟩
        · omega
        · exact absurd er.symm hr
      · exact w
      · rcases rk m (by omega) m2 _ hm with e|⟨j,e,j1,_⟩<;>omega
    · obtain ⟨j,j1,j2,j3,j4⟩:=ihl k h1 q er
      refine ⟨j,j1,by omega,j3,fun m m1 m2 hm=>?_⟩
      rcases Nat.lt_trichotomy m i with w|w|w
      · exact j4 m m1 w hm
      · subst w
        rcases hm with hm|hm
        · exact absurd hm.symm er
        · rcases r.link with ⟨_,e⟩|⟨p,e,p1,p2⟩<;>omega
      · rcases rk m (by omega) m2 _ hm with e|⟨p,e,p1,_⟩<;>omega
  · by_cases er:(k:Int)=(N[i]!).2.2
    · refine ⟨i,lo,hi,.inr er.symm,fun m m1 m2 hm=>?_⟩
      rcases Nat.lt_trichotomy m i with w|w|w
      · rcases lk m m1 w _ hm with e|⟨j,e,_,j2,_⟩<;>omega
      · exact w
      · rcases rk m (by omega) m2 _ hm with e|⟨j,e,_,_,_,_,hr⟩
        · omega
        · exact absurd er.symm hr
    · obtain ⟨j,j1,j2,j3,j4⟩:=ihr k (by omega) h2 er
      refine ⟨j,by omega,j2,j3,fun m m1 m2 hm=>?_⟩
      rcases Nat.lt_trichotomy m i with w|w|w
      · rcases lk m m1 w _ hm with e|⟨p,e,_,p2,_⟩<;>omega
      · subst w
        rcases hm with hm|hm
        · rcases l.link with ⟨_,e⟩|⟨p,e,p1,p2⟩<;>omega
        · exact absurd hm.symm er
      · exact j4 m (by omega) m2 hm
inductive PO (P:Nat->Nat->Prop) (N:List Nd):Nat->Nat->Int->List Nat->Prop
 |nil {a b:Nat} (h:b<=a):PO P N a b (-1) []
 |cons {a b k:Nat} {es:List Nat} (h:XC P a b k) (l:tG P N a k (N[k]!).2.1) (r:PO P N (k+1) b (N[k]!).2.2 es):PO P N a b (k:Int) (k::es)
theorem PO.tree {P:Nat->Nat->Prop} {N:List Nd} {a b:Nat} {r:Int} {es:List Nat} (h:PO P N a b r es):tG P N a b r:=by
 induction h with
 |nil h=>exact .nil h
 |cons h l r ih=>exact .node h l ih
theorem PO.mem {P:Nat->Nat->Prop} {N:List Nd} {a b:Nat} {r:Int} {es:List Nat} (h:PO P N a b r es): ∀e∈es,a<=e/\e<b:=by
 induction h with
 |nil h=>intro e he;cases he
 |cons h l r ih=>
  intro e he;have lo:=h.lo;have hi:=h.hi;rcases List.mem_cons.1 he with rfl|he
  · exact ⟨lo,hi⟩
  · have:=ih e he;omega
end Go.Proofs.YtbncnimfgdelaaaGreat
namespace Go.Proofs.YtbncnimfgdelaaaGreat
open Go.Vm Classical
def ZY (f:List Pt) (t:Int×Int) (i j:Nat):Prop:=cJ f[i]! f[j]! t
theorem wK {p q:Pt} {t:Int×Int} (h:cJ p q t): ¬cJ q p t:=by
 unfold cJ at*;rw [TQ] at*;generalize p.2.1*t.2+p.2.2*t.1=a at*;generalize q.2.1*t.2+q.2.2*t.1=b at*;omega
theorem MP {f:List Pt} (h:fS f) (t:Int×Int):aLE (ZY f t) f.length where
 tr:=fun _ _ _ _ _ _ h1 h2=>LX h1 h2
 asy:=fun _ _ _ _ h=>wK h
 tot:=fun _ _ hi hj hne hn=>AI t (fun e=>hne (yU h hi hj e)) hn
structure E6 (f:List Pt) (t:Int×Int) (N:List Nd) (r:Int):Prop where
 len:N.length=f.length
 ids: ∀k,k<f.length->(N[k]!).1=(f[k]!).1
 tree:tG (ZY f t) N 0 f.length r
theorem E6.same {f:List Pt} (h:fS f) {t:Int×Int} {N N':List Nd} {r r':Int} (a:E6 f t N r) (b:E6 f t N' r'):N=N'/\r=r':=by
 obtain ⟨e1,e2⟩:=a.tree.unique (MP h t) (Nat.le_refl _) b.tree;refine ⟨tB (by rw [a.len,b.len]) fun k hk=>?_,e1⟩
 have hk:k<f.length:=by rw [<- a.len];exact hk
 exact Prod.ext (by rw [a.ids k hk,b.ids k hk]) (e2 k (Nat.zero_le _) hk)
def Below (N:List Nd) (k j:Nat):Prop:=(N[j]!).2.1=(k:Int)\/(N[j]!).2.2=(k:Int)
noncomputable def MB (N:List Nd) (k:Nat):Nat:=if h: ∃j,j<N.length/\Below N k j then h.choose else N.length
noncomputable def aUI (N:List Nd) (k:Nat):List (Int×Int):=if MB N k<N.length then [((N[k]!).1,(N[MB N k]!).1)] else []
noncomputable def aEN (N:List Nd):Nat->List (Int×Int)
 |0=>[]
 |k+1=>aEN N k++aUI N k
section
variable {f : List Pt} {t : Int × Int} {N : List Nd} {r : Int}
theorem E6.par (h:E6 f t N r) {k:Nat} (hk:k<f.length):((k:Int)=r->MB N k=N.length)/\((k:Int)≠r->MB N k<N.length/\Below N k (MB N k)/\MB N k≠k/\ZY f t (MB N k) k)/\ ∀m,m<N.length->Below N k m->m=MB N k:=by
 have ln:=h.len
 by_cases hr:(k:Int)=r
 · have none: ¬ ∃j,j<N.length/\Below N k j:=by
    rintro ⟨j,hj,hb⟩;rcases h.tree.kids j (Nat.zero_le _) (by omega) (k:Int) hb with e|⟨_,_,_,_,_,_,e⟩
    · omega
    · exact e hr.symm
   have e:MB N k=N.length:=by unfold MB;rw [dif_neg none]
   exact ⟨fun _=>e,fun q=>absurd hr q,fun m hm hb=>absurd ⟨m,hm,hb⟩ none⟩
 · obtain ⟨j,_,j2,j3,j4⟩:=h.tree.up k (Nat.zero_le _) hk hr
   have ex: ∃j,j<N.length/\Below N k j:=⟨j,by omega,j3⟩
   have e:MB N k=j:=by
    unfold MB;rw [dif_pos ex]
    have:=ex.choose_spec
    exact j4 _ (Nat.zero_le _) (by omega) this.2
   refine ⟨fun q=>absurd q hr,fun _=>?_,fun m hm hb=>by rw [e];exact j4 m (Nat.zero_le _) (by omega) hb⟩
   rw [e];refine ⟨by omega,j3,?_,?_⟩
   · rcases h.tree.kids j (Nat.zero_le _) j2 (k:Int) j3 with q|⟨i,q,_,_,q2,_⟩
     · omega
     · intro w;omega
   · rcases h.tree.kids j (Nat.zero_le _) j2 (k:Int) j3 with q|⟨i,q,_,_,_,q2,_⟩
     · omega
     · have:i=k:=by omega
       rw [<- this];exact q2
end
def o1 (f:List Pt) (t:Int×Int) (e c:Nat) (i:Nat) (root:Int) (N:List Nd) (E:List Int) (left:Int):=
 (e,c,(i:Int),f,(f.length:Int),(i:Int),f,t.1,t.2,(0:Int),root,N,E,(f[i]!).1,(f[i]!).2.1,(f[i]!).2.2,(f[i]!).1,left,(-1:Int))
section
variable {f : List Pt} {t : Int × Int} {N : List Nd} {r : Int}
theorem E6.link (h:E6 f t N r) {j:Nat} (hj:j<f.length) {c:Int} (hc:(N[j]!).2.1=c\/(N[j]!).2.2=c):c= -1\/(0<=c/\c<N.length):=by
 have ln:=h.len;rcases h.tree.kids j (Nat.zero_le _) hj c hc with e|⟨k,e,_,k2,_⟩
 · exact .inl e
 · exact .inr ⟨by omega,by omega⟩
end
structure aEO (k:KQ):Prop where
 clk:aY k.clock
 tree:E6 k.clock.field.points k.clock.now k.tree.nodes k.tree.root
 cert:(k.clock.certs.list.map fun x=>x.2).Perm (aEN k.tree.nodes k.clock.field.points.length)
structure aR8 (k:KQ):Prop where
 c:PH k.clock
 n:k.tree.nodes.length<=1000
theorem PP {α:Type} [BEq α] [LawfulBEq α]: ∀{a b:List α},a.Nodup->(∀x∈a,x∈b)->a.length<=b.length
 | [],_,_,_=>Nat.zero_le _
 |x::a,b,hd,h=>by
  rw [List.nodup_cons] at hd;have hx:=h x List.mem_cons_self
  have:=PP (a:=a) (b:=b.erase x) hd.2 (fun y hy=>by
   rw [List.mem_erase_of_ne (fun e=>hd.1 (by rw [<- e];exact hy))]
   exact h y (List.mem_cons_of_mem _ hy))
  rw [List.length_erase_of_mem hx] at this
  have:=List.length_pos_of_mem hx
  rw [List.length_cons];omega
theorem XD {α:Type} [BEq α] [LawfulBEq α] {a b:List α} (ha:a.Nodup) (hb:b.Nodup) (h1: ∀x∈a,x∈b) (h2: ∀x∈b,x∈a):a.Perm b:=uK ha h1 (PP hb h2)
structure ZZ (R:KQ) (F:List Pt) (t:Int×Int):Prop where
 ok:aEO R
 fld:R.clock.field.points=F
 now:R.clock.now=t
theorem ZZ.short {R:KQ} {F:List Pt} {t:Int×Int} (h:ZZ R F t):aR8 R:=by
 have:=h.ok.clk.fld.1
 refine ⟨h.ok.clk.short,?_⟩
 have:=h.ok.tree.len
 omega
theorem ZZ.nums {R:KQ} {F:List Pt} {t:Int×Int} (h:ZZ R F t):tF R.clock:=h.ok.clk.fit
theorem ZZ.same {R S:KQ} {F:List Pt} {t:Int×Int} (h:ZZ R F t) (k:ZZ S F t):R.tree=S.tree:=by
 have a:=h.ok.tree;rw [h.fld,h.now] at a;have b:=k.ok.tree;rw [k.fld,k.now] at b;obtain ⟨e1,e2⟩:=a.same (by rw [<- h.fld];exact h.ok.clk.fld.2.2) b
 obtain ⟨_,⟨r,N⟩⟩:=R;obtain ⟨_,⟨r',N'⟩⟩:=S;simp only at e1 e2;subst e1 e2;rfl
theorem PQ {f:List Pt} (hs:fS f) {q:Pt} (h:q∈f):fE f q.1=q:=by
 obtain ⟨i,hi,rfl⟩:=aX.1 h;exact xP hs hi rfl
theorem MQ {f:List Pt} (hs:fS f) {x:Int} (h:mV f x):fE f x∈f/\(fE f x).1=x:=by
 obtain ⟨i,hi,rfl⟩:=h;rw [PQ hs (bG hi)];exact ⟨bG hi,rfl⟩
theorem DB {f:List Pt} (hs:fS f) (t:Int×Int):SO (fun a b=>cJ (fE f a) (fE f b) t) (mV f) where
 irr:=fun a _ h=>wK h h
 tr:=fun _ _ _ _ _ _ h k=>LX h k
 tot:=fun a b ha hb hne=>by
  rcases Classical.em (cJ (fE f a) (fE f b) t) with h|h
  · exact .inl h
  · exact .inr (AI t (by rw [(MQ hs ha).2,(MQ hs hb).2];exact hne) h)
abbrev kG (f:List Pt) (t:Int×Int) (a b:Int):Prop:=cJ (fE f a) (fE f b) t
theorem RJ {f:List Pt} (hs:fS f) {t:Int×Int} {l:List Int} (hp: ∀x∈l,mV f x) (nd:l.Nodup):(∀e∈E3 l,cJ (fE f e.2) (fE f e.1) t)↔Hp (kG f t) l:=by
 constructor
 · intro h j h1 h2 c
   have hm:(l[j]!,l[par j]!)∈E3 l:=by
    refine aX.2 ⟨j-1,by rw [HO];omega,?_⟩
    rw [LW l (show j-1<l.length-1 by omega),show j-1+1=j by omega]
   exact wK c (h _ hm)
 · intro h e he
   obtain ⟨i,hi,rfl⟩:=aX.1 he;rw [HO] at hi;rw [LW l hi]
   have:=h (i+1) (by omega) (by omega)
   have pe:par (i+1)=i / 2:=by simp only [par];omega
   rw [pe] at this;refine AI t ?_ this;rw [(MQ hs (hp _ (bG (by omega)))).2,(MQ hs (hp _ (bG (by omega)))).2]
   exact fun e=>fK.1 nd (i / 2) (i+1) (by omega) (by omega) e.symm
structure aWA (R:GI) (F:List Pt) (t:Int×Int):Prop where
 ok:yX R
 fld:R.clock.field.points=F
 now:R.clock.now=t
theorem yX.len {k:GI} (h:yX k):k.heap.length=k.clock.field.points.length:=by rw [<- h.perm.length_eq];exact List.length_map ..
theorem yX.bd {k:GI} (h:yX k):k.heap.length<=64:=by have:=h.len;have:=h.clk.fld.1;omega
theorem yX.has {k:GI} (h:yX k): ∀x∈k.heap,mV k.clock.field.points x:=fun _ hx=>lZ.1 (h.perm.mem_iff.2 hx)
theorem yX.nd {k:GI} (h:yX k):k.heap.Nodup:=h.perm.nodup_iff.1 (mS h.clk.fld.2.2)
theorem yX.hp {k:GI} (h:yX k):Hp (kG k.clock.field.points k.clock.now) k.heap:=(RJ h.clk.fld.2.2 h.has h.nd).1 h.lead
theorem JI.heap {c:aP} {f:List Pt} (fok:bD f) {l:List Int} (pm:(oA f).Perm l) {R:GI} (e:R.heap=l) (q:JI c f (E3 l) R.clock) (h:Hp (kG f c.now) l):aWA R f c.now:=by
 have nd:=pm.nodup_iff.1 (mS fok.2.2);refine ⟨⟨q.ok,by rw [q.fld,e];exact pm,?_,?_⟩,q.fld,q.now⟩
 · rw [e]
   exact XD (E4 q.ok.crt) (XA nd) (fun x hx=>by obtain ⟨y,hy,rfl⟩:=List.mem_map.1 hx;exact q.sub y hy) (fun x hx=>yY.1 (q.has x hx))
 · rw [e,q.fld,q.now]
   exact (RJ fok.2.2 (fun x hx=>lZ.1 (pm.mem_iff.2 hx)) nd).2 h
theorem XE {α:Type} (z:α): ∀(l:List (Int×α)) (k:Int) (a:α) (j:Int),lR z (oN l k a) j=if j=k then a else lR z l j
 | [],k,a,j=>by
  simp only [oN,lR]
  by_cases h:j=k
  · rw [if_pos h,fR h];rfl
  · rw [if_neg h,eT h];rfl
 |p::l,k,a,j=>by
  simp only [oN]
  by_cases h:k=p.1
  · rw [fR h,cond_true]
    simp only [lR]
    by_cases c:j=k
    · rw [if_pos c,fR c];rfl
    · rw [if_neg c,eT c,cond_false,eT (by rw [<- h];exact c),cond_false]
  · rw [eT h,cond_false]
    simp only [lR];rw [XE z l k a j]
    by_cases c:j=p.1
    · rw [fR c,cond_true,cond_true,if_neg (by rw [c];exact fun e=>h e.symm)]
    · rw [eT c,cond_false,cond_false]
def lE (m:List (Int×Int)) (l:List (Int×Int)):List (Int×Int):=l.foldl (fun m e=>oN m e.1 e.2) m
theorem L0 (m l l':List (Int×Int)):lE m (l++l')=lE (lE m l) l':=List.foldl_append ..
theorem XF: ∀(l m:List (Int×Int)) (j:Int),(l.map fun e=>e.1).Nodup->lR 0 (lE m l) j=if j∈l.map fun e=>e.1 then lR 0 l j else lR 0 m j
 | [],m,j,_=>by simp only [lE,List.foldl_nil,List.map_nil,List.not_mem_nil,if_false]
 |e::l,m,j,nd=>by
  obtain ⟨h1,h2⟩:=List.nodup_cons.1 (by simpa using nd:(e.1::l.map fun e=>e.1).Nodup)
  show lR 0 (lE (oN m e.1 e.2) l) j=_;rw [XF l _ j h2,XE];simp only [List.map_cons,List.mem_cons,lR]
  by_cases c:j=e.1
  · rw [if_neg (by rw [c];exact h1),if_pos c,if_pos (.inl c),fR c];rfl
  · rw [if_neg c,eT c,cond_false]
    by_cases d:j∈l.map fun e=>e.1
    · rw [if_pos d,if_pos (.inr d)]
    · rw [if_neg d,if_neg (fun h=>h.elim c d)]
theorem JM: ∀{l:List (Int×Int)} {j v:Int},(l.map fun e=>e.1).Nodup->(j,v)∈l->lR 0 l j=v
 |e::l,j,v,nd,h=>by
  obtain ⟨h1,h2⟩:=List.nodup_cons.1 (by simpa using nd:(e.1::l.map fun e=>e.1).Nodup)
  simp only [lR];rcases List.mem_cons.1 h with rfl|h
  · rw [fR rfl];rfl
  · have:j≠e.1:=fun c=>h1 (by rw [<- c];exact List.mem_map.2 ⟨_,h,rfl⟩)
    rw [eT this,cond_false];exact JM h2 h
def oB (x:Int) (d:Nat):Nat:=x.toNat / 2^(min d 64)%2
theorem JN (x:Int) (d:Nat):oB x d<2:=Nat.mod_lt _ (by omega)
noncomputable def pL (f:List Pt) (t:Int×Int):List (Int×Int):=fH (kG f t) oB f.length (oA f) (-1) 0
noncomputable def qA (f:List Pt) (t:Int×Int):List Int:=f.map fun p=>lR 0 (pL f t) p.1
def dR (f:List Pt) (U:List Int):Nat->List (Int×Int)
 |0=>[]
 |i+1=>dR f U i++(if 0<=U[i]! then [((f[i]!).1,U[i]!)] else [])
section
variable {f : List Pt} {t : Int × Int}
theorem yZ (fok:bD f):((pL f t).map fun e=>e.1).Perm (oA f)/\ ∀e∈pL f t,e.2= -1\/(e.2∈oA f/\kG f t e.2 e.1):=
 DA (DB fok.2.2 t) JN f.length (oA f) (-1) 0 (fun x hx=>lZ.1 hx) (mS fok.2.2) (by unfold oA;rw [List.length_map];exact Nat.le_refl _)
theorem DC (f:List Pt) (t:Int×Int):(qA f t).length=f.length:=List.length_map ..
theorem TU {i:Nat} (hi:i<f.length):(qA f t)[i]! =lR 0 (pL f t) (f[i]!).1:=by
 unfold qA;rw [getElem!_pos _ i (by rw [List.length_map];exact hi),List.getElem_map,getElem!_pos f i hi]
theorem aLF (fok:bD f) {i:Nat} (hi:i<f.length):((f[i]!).1,(qA f t)[i]!)∈pL f t:=by
 obtain ⟨h1,_⟩:=yZ (t:=t) fok;obtain ⟨e,he,h2⟩:=List.mem_map.1 (h1.mem_iff.2 (lZ.2 ⟨i,hi,rfl⟩));have nd:=h1.nodup_iff.2 (mS fok.2.2);rw [TU hi,<- h2,JM nd (show (e.1,e.2)∈pL f t from he)];exact he
theorem aR9 (fok:bD f) {i:Nat} (hi:i<f.length):(qA f t)[i]! = -1\/(0<=(qA f t)[i]!/\mV f (qA f t)[i]!/\(qA f t)[i]!≠(f[i]!).1/\cJ (fE f (qA f t)[i]!) f[i]! t):=by
 rcases (yZ (t:=t) fok).2 _ (aLF fok hi) with h|⟨h1,h2⟩
 · exact .inl h
 · have hp:=lZ.1 h1
   have hp:mV f (qA f t)[i]!:=hp;have pk:=eX fok hp;have h2:cJ (fE f (qA f t)[i]!) (fE f (f[i]!).1) t:=h2;rw [xP fok.2.2 hi rfl] at h2;refine .inr ⟨?_,hp,fun e=>?_,h2⟩
   · have:=pk.1.1
     rw [pk.2] at this;exact this
   · have:fE f (qA f t)[i]! =f[i]!:=by rw [e,xP fok.2.2 hi rfl]
     rw [this] at h2;exact wK h2 h2
theorem DD {U:List Int}: ∀{n:Nat} {e:Int×Int},e∈dR f U n↔ ∃i,i<n/\0<=U[i]!/\e=((f[i]!).1,U[i]!)
 |0,e=>by
  constructor
  · intro h;cases h
  · rintro ⟨i,h,_⟩;omega
 |n+1,e=>by
  rw [dR,List.mem_append,DD];constructor
  · rintro (⟨i,h1,h2,h3⟩|h)
    · exact ⟨i,by omega,h2,h3⟩
    · split at h
      · rename_i hc;exact ⟨n,by omega,hc,List.mem_singleton.1 h⟩
      · cases h
  · rintro ⟨i,h1,h2,h3⟩
    by_cases c:i=n
    · subst c;rw [if_pos h2];exact .inr (List.mem_singleton.2 h3)
    · exact .inl ⟨i,by omega,h2,h3⟩
theorem uM (U:List Int): ∀n,(dR f U n).length<=n
 |0=>Nat.le_refl _
 |n+1=>by
  have:=uM U n
  rw [dR,List.length_append];split
  · rw [List.length_singleton];omega
  · rw [List.length_nil];omega
theorem JO (hs:fS f) (U:List Int): ∀n,n<=f.length->(dR f U n).Nodup
 |0,_=>List.nodup_nil
 |n+1,h=>by
  rw [dR];refine List.nodup_append.2 ⟨JO hs U n (by omega),by split<;>simp,fun a ha b hb e=>?_⟩
  obtain ⟨i,h1,_,h3⟩:=DD.1 ha;split at hb
  · have hb:=List.mem_singleton.1 hb
    rw [hb] at e;rw [h3] at e
    have:(f[i]!).1=(f[n]!).1:=by injection e
    have:=gY hs h1 h
    omega
  · cases hb
theorem F0 (fok:bD f):MO f (dR f (qA f t) f.length)/\(dR f (qA f t) f.length).Nodup/\ ∀e∈dR f (qA f t) f.length,cJ (fE f e.2) (fE f e.1) t:=by
 have f1:=fok.1;have el:=uM (f:=f) (qA f t) f.length;have key: ∀e∈dR f (qA f t) f.length,kE f e/\e.1≠e.2/\cJ (fE f e.2) (fE f e.1) t:=fun e he=>by
  obtain ⟨i,hi,h0,rfl⟩:=DD.1 he;rcases aR9 (t:=t) fok hi with h|⟨_,h2,h3,h4⟩
  · omega
  · exact ⟨⟨⟨i,hi,rfl⟩,h2⟩,fun e=>h3 e.symm,by rw [xP fok.2.2 hi rfl];exact h4⟩
 refine ⟨⟨by omega,fun e he=>?_,fun e he=>(key e he).1⟩,JO fok.2.2 _ _ (Nat.le_refl _),fun e he=>(key e he).2.2⟩
 obtain ⟨hb,ne,_⟩:=key e he;obtain ⟨⟨p1,p2⟩,q1,q2⟩:=And.intro (eX fok hb.1) (eX fok hb.2);unfold fY at p1 q1;unfold gD;omega
theorem aCu (fok:bD f) {t':Int×Int} (h: ∀e∈dR f (qA f t) f.length,cJ (fE f e.2) (fE f e.1) t'):qA f t'=qA f t:=by
 have so:=DB fok.2.2 t;have so':=DB fok.2.2 t';have hS: ∀x∈oA f,mV f x:=fun x hx=>lZ.1 hx
 have e:=(LY so so' JN f.length (oA f) (-1) 0 hS (mS fok.2.2) (by unfold oA;rw [List.length_map];exact Nat.le_refl _) (fun e he=>by
  rcases (yZ (t:=t) fok).2 e he with k|⟨k1,k2⟩
  · exact .inl k
  · right
    have hk:e.1∈oA f:=(yZ (t:=t) fok).1.mem_iff.1 (List.mem_map.2 ⟨e,he,rfl⟩);obtain ⟨i,hi,ei⟩:=lZ.1 hk;have nd:=(yZ (t:=t) fok).1.nodup_iff.2 (mS fok.2.2);have ui:(qA f t)[i]! =e.2:=by rw [TU hi,ei];exact JM nd he
    have p0:=eX fok (hS _ k1);have p1:=p0.1.1;rw [p0.2] at p1
    have:=h ((f[i]!).1,(qA f t)[i]!) (DD.2 ⟨i,hi,by rw [ui];exact p1,rfl⟩)
    rw [ui,ei] at this;exact this) (fun hm=>by
  have p0:=eX fok (hS _ hm);have p1:=p0.1.1;rw [p0.2] at p1;exact absurd p1 (by decide))).1
 unfold qA;rw [show pL f t'=pL f t from e]
end
theorem aEP {x:Int} (h0:0<=x) (d:Nat):lG .i64 x (d:Int)=((x.toNat / 2^(min d 64):Nat):Int):=by
 unfold lG;rw [show (IntKind.bits .i64)=64 from rfl,Int.toNat_natCast,Int.fdiv_eq_ediv_of_nonneg _ (Int.le_of_lt (Int.pow_pos (by decide)))]
 obtain ⟨n,rfl⟩: ∃n:Nat,x=(n:Int):=⟨x.toNat,by omega⟩
 rw [Int.toNat_natCast]
 norm_cast
theorem aLG {n:Nat} (h:n<9223372036854775808):tR .i64 (n:Int) 1=((n%2:Nat):Int):=by
 unfold tR;have e:(BitVec.ofInt (IntKind.bits .i64) (n:Int)&&&BitVec.ofInt (IntKind.bits .i64) 1).toNat=n%2:=by
  rw [BitVec.toNat_and,BitVec.toNat_ofInt,BitVec.toNat_ofInt];rw [show (IntKind.bits .i64)=64 from rfl];have e64:((2^64:Nat):Int)=18446744073709551616:=rfl;have e1:((n:Int)%((2^64:Nat):Int)).toNat=n:=by rw [e64];omega
  have e2:((1:Int)%((2^64:Nat):Int)).toNat=1:=by rw [e64];rfl
  rw [e1,e2,Nat.and_one_is_mod]
 rw [e]
 have:=Nat.mod_lt n (show 0<2 by decide)
 have c:n%2=0\/n%2=1:=by omega
 rcases c with c|c<;>rw [c]<;>rfl
theorem aBk {x:Int} (h0:0<=x) (h1:x<=65535) (d:Nat):tR .i64 (lG .i64 x (d:Int)) 1=(oB x d:Int):=by
 rw [aEP h0,aLG]
 · rfl
 · have:=Nat.div_le_self x.toNat (2^(min d 64));omega
theorem aLH {x:Int} (h0:0<=x) (d:Nat):Int.tmod (lG .i64 x (d:Int)) 2=(oB x d:Int):=by
 rw [aEP h0];show Int.tmod _ ((2:Nat):Int)=_;rw [<- Int.ofNat_tmod];rfl
section
variable {f : List Pt} {t : Int × Int}
noncomputable def fZ (t:Int×Int) (r:List Pt) (x:Pt):Pt:=r.foldl (fun a p=>if cJ p a t then p else a) x
theorem MR (fok:bD f): ∀(r:List Pt) (x:Pt),x∈f->(∀p∈r,p∈f)->(fZ t r x).1=(r.map fun p=>p.1).foldl (fun a y=>if kG f t y a then y else a) x.1/\fZ t r x∈f
 | [],x,hx,_=>⟨rfl,hx⟩
 |p::r,x,hx,hr=>by
  have hp:=hr p List.mem_cons_self;have e:kG f t p.1 x.1↔cJ p x t:=by show cJ (fE f p.1) (fE f x.1) t↔_;rw [PQ fok.2.2 hp,PQ fok.2.2 hx]
  show (fZ t r (if cJ p x t then p else x)).1=_/\fZ t r (if cJ p x t then p else x)∈f
  rw [List.map_cons,List.foldl_cons]
  by_cases c:cJ p x t
  · rw [if_pos c,if_pos (e.2 c)];exact MR fok r p hp fun q hq=>hr q (List.mem_cons_of_mem _ hq)
  · rw [if_neg c,if_neg (fun k=>c (e.1 k))];exact MR fok r x hx fun q hq=>hr q (List.mem_cons_of_mem _ hq)
def eE (l:List Pt) (top:Int) (d b:Nat):List Pt:=l.filter fun p=>decide (p.1≠top)&&decide (oB p.1 d=b)
theorem uN (l:List Pt) (top:Int) (d b:Nat):(eE l top d b).map (fun p=>p.1)=kF oB (l.map fun p=>p.1) top d b:=by
 unfold eE kF
 induction l with
 |nil=>rfl
 |cons p l ih=>
  rw [List.filter_cons,List.map_cons,List.filter_cons]
  by_cases c:p.1≠top/\oB p.1 d=b
  · rw [if_pos (by simpa using c),if_pos (by simpa using c),List.map_cons,ih]
  · rw [if_neg (by simpa using c),if_neg (by simpa using c),ih]
theorem aCv {l:List Pt} {top:Int} {d b:Nat} {p:Pt} (h:p∈eE l top d b):p∈l:=(List.mem_filter.1 h).1
theorem BY (l:List Pt) (top:Int) (d b:Nat):(eE l top d b).length<=l.length:=List.length_filter_le ..
theorem DE (l:List Pt) (p:Pt) (top:Int) (d b:Nat):eE (l++[p]) top d b=eE l top d b++(if p.1≠top/\oB p.1 d=b then [p] else []):=by
 unfold eE;rw [List.filter_append]
 congr 1
 by_cases c:p.1≠top/\oB p.1 d=b
 · rw [if_pos c,List.filter_cons,if_pos (by simpa using c)];rfl
 · rw [if_neg c,List.filter_cons,if_neg (by simpa using c)];rfl
theorem aEQ (fok:bD f) (r:bQ t) (r64:pO t) {p q:Pt} (hp:p∈f) (hq:q∈f) (hne:p.1≠q.1):nH p q (t.1,t.2)=some (decide (cJ p q t),0):=by
 rcases MA (fok.2.1 _ hp) (fok.2.1 _ hq) r64 r with h|⟨h,_⟩
 · rw [show ((t.1,t.2):Int×Int)=t from rfl,h,if_neg hne]
 · exact absurd h hne
theorem XG {l:List Pt} {x:Pt} (i:Nat) (hi:i<l.length):fZ t (l.take (i+1)) x=if cJ l[i]! (fZ t (l.take i) x) t then l[i]! else fZ t (l.take i) x:=by
 rw [cS hi];unfold fZ;rw [List.foldl_append];rfl
structure LOK (f:List Pt) (l:List Pt):Prop where
 sub: ∀p∈l,p∈f
 nd:(l.map fun p=>p.1).Nodup
 len:l.length<=64
theorem LOK.side {l:List Pt} (h:LOK f l) (top:Int) (d b:Nat):LOK f (eE l top d b) where
 sub:=fun p hp=>h.sub p (aCv hp)
 nd:=by rw [uN];exact sA h.nd _ _ _
 len:=Nat.le_trans (BY ..) h.len
theorem LOK.bits (fok:bD f) {l:List Pt} (h:LOK f l) {p:Pt} (hp:p∈l):0<=p.1/\p.1<=65535:=by
 have:=fok.2.1 p (h.sub p hp)
 unfold fY at this;omega
theorem LOK.ne {l:List Pt} (h:LOK f l) {i j:Nat} (hi:i<l.length) (hj:j<l.length) (hne:i≠j):(l[i]!).1≠(l[j]!).1:=by
 have ll:(l.map fun p=>p.1).length=l.length:=List.length_map ..
 have b: ∀k,k<l.length->(l.map fun p=>p.1)[k]! =(l[k]!).1:=fun k hk=>by
  rw [getElem!_pos _ k (by rw [ll];exact hk),List.getElem_map,getElem!_pos l k hk]
 intro e;rcases Nat.lt_trichotomy i j with c|c|c
 · exact fK.1 h.nd i j c (by omega) (by rw [b i hi,b j hj];exact e)
 · exact hne c
 · exact fK.1 h.nd j i c (by omega) (by rw [b i hi,b j hj];exact e.symm)
theorem E7 (t:Int×Int): ∀(r:List Pt) (x:Pt),fZ t r x=x\/fZ t r x∈r
 | [],_=> .inl rfl
 |p::r,x=>by
  show fZ t r (if cJ p x t then p else x)=x\/fZ t r (if cJ p x t then p else x)∈_
  by_cases c:cJ p x t
  · rw [if_pos c]
    rcases E7 t r p with e|e
    · rw [e];exact .inr List.mem_cons_self
    · exact .inr (List.mem_cons_of_mem _ e)
  · rw [if_neg c]
    exact (E7 t r x).imp id (List.mem_cons_of_mem _)
theorem aER {l:List Pt} (h:LOK f l) {i:Nat} (hi:i+1<l.length):(l[i+1]!).1≠(fZ t ((l.drop 1).take i) l[0]!).1:=by
 rcases E7 t ((l.drop 1).take i) l[0]! with e|e
 · rw [e];exact h.ne hi (by omega) (by omega)
 · obtain ⟨j,hj,ej⟩:=aX.1 e
   rw [List.length_take,List.length_drop] at hj
   have:((l.drop 1).take i)[j]! =l[1+j]!:=by
    rw [List.getElem!_eq_getElem?_getD,List.getElem?_take_of_lt (by omega),List.getElem?_drop,<- List.getElem!_eq_getElem?_getD]
   rw [<- ej,this];exact h.ne hi (by omega) (by omega)
theorem JP {l:List Pt} {i:Nat} (_:i+1<l.length):(l.drop 1)[i]! =l[i+1]!:=by
 rw [List.getElem!_eq_getElem?_getD,List.getElem?_drop,<- List.getElem!_eq_getElem?_getD,Nat.add_comm 1 i]
def g1S (t:Int×Int) (l:List Pt) (M:List (Int×Int)) (d:Nat) (top:Pt) (s0 s1:List Pt) (i:Nat):=
 ((d:Int),(l.length:Int),(i:Int),l,M,t.1,t.2,top.1,top.2.1,top.2.2,s0,s1)
def g2S (t:Int×Int) (l:List Pt) (M:List (Int×Int)) (u:Int) (d:Nat) (top:Pt) (i:Nat):=
 (u,(d:Int),(1:Nat),l.length-1,l.length-1,((l.length-1:Nat):Int),(i:Int),l,M,t.1,t.2,top)
theorem aSa (fok:bD f) {l:List Pt} (h:LOK f l) {d:Nat} (hd:d<=1000) {top:Pt} {M:List (Int×Int)} {u:Int} {c0:_} {c1:_} (hc:c1.2.2.2.2.1.length=l.length)
 {M2 M3:List (Int×Int)} (r1:c0 (t.1,t.2,top.1,((d+1:Nat):Int),eE l top.1 d 0,M)=some (eE l top.1 d 0,M2)) (r2:c0 (t.1,t.2,top.1,((d+1:Nat):Int),eE l top.1 d 1,M2)=some (eE l top.1 d 1,M3)):
 aJ (iJ c0 c1) (g1S t l M d top [] [] 0)=some (.done (l,M3)):=by
 have hl:=h.len;have st:=bP (body:=iJ c0 c1) (fun i=>g1S t l M d top (eE (l.take i) top.1 d 0) (eE (l.take i) top.1 d 1) i) l.length (fun i hi=>by
  have pm:=bG hi;obtain ⟨b0,b1⟩:=h.bits fok pm;have bt:=aBk b0 b1 d;have lt:=JN (l[i]!).1 d;have s0:=DE (l.take i) l[i]! top.1 d 0;have s1:=DE (l.take i) l[i]! top.1 d 1;rw [<- cS hi] at s0 s1;have l0:(eE (l.take i) top.1 d 0).length<=64:=Nat.le_trans (BY ..) (by rw [List.length_take];omega)
  have l1:(eE (l.take i) top.1 d 1).length<=64:=Nat.le_trans (BY ..) (by rw [List.length_take];omega)
  have a0:bH (eE (l.take i) top.1 d 0) [l[i]!]=some (eE (l.take i) top.1 d 0++[l[i]!]):=bV (by rw [List.length_singleton];omega)
  have a1:bH (eE (l.take i) top.1 d 1) [l[i]!]=some (eE (l.take i) top.1 d 1++[l[i]!]):=bV (by rw [List.length_singleton];omega)
  rw [s0,s1];unfold iJ g1S;simp only [aO (show (i:Int)<(l.length:Int) by omega),cond_true,aE l i hi,aB,aU (show i<1000000000 by omega),aL (show¬(d:Int)<0 by omega),cond_false,bt,a0,a1]
  by_cases c:(l[i]!).1=top.1
  · rw [bI (show (l[i]!).1=top.1 from c),cond_false,if_neg (fun k=>k.1 c),if_neg (fun k=>k.1 c),List.append_nil,List.append_nil]
  · rw [dQ c,cond_true]
    by_cases e:oB (l[i]!).1 d=0
    · rw [e,if_pos ⟨c,rfl⟩,if_neg (fun k=>by omega),List.append_nil];rfl
    · have e1:oB (l[i]!).1 d=1:=by omega
      rw [e1,if_neg (fun k=>by omega),if_pos ⟨c,rfl⟩,List.append_nil];rfl)
 rw [List.take_length] at st;refine (show _=_ from st).trans (aK ?_);unfold iJ g1S;simp only [aL (show¬(l.length:Int)<(l.length:Int) by omega),cond_false,aU (show d<1000000000 by omega),r1,r2,aB,hc,beq_self_eq_true,cond_true]
theorem aMo {l:List Pt} (h0:l≠[]):aN l 0=some l[0]!:=aE l 0 (List.length_pos_iff.2 h0)
theorem aUJ (fok:bD f) (r:bQ t) (r64:pO t) {l:List Pt} (h:LOK f l) (h0:l≠[]) {d:Nat} (hd:d<=1000) {M:List (Int×Int)} {u:Int} {c0:_}
 {M2 M3:List (Int×Int)} (r1:c0 (t.1,t.2,(fZ t (l.drop 1) l[0]!).1,((d+1:Nat):Int),eE l (fZ t (l.drop 1) l[0]!).1 d 0,oN M (fZ t (l.drop 1) l[0]!).1 u)=some (eE l (fZ t (l.drop 1) l[0]!).1 d 0,M2))
 (r2:c0 (t.1,t.2,(fZ t (l.drop 1) l[0]!).1,((d+1:Nat):Int),eE l (fZ t (l.drop 1) l[0]!).1 d 1,M2)=some (eE l (fZ t (l.drop 1) l[0]!).1 d 1,M3)):
 qD c0 (t.1,t.2,u,(d:Int),l,M)=some (l,M3):=by
 have hl:=h.len;have hp:=List.length_pos_iff.2 h0;have ld:(l.drop 1).length=l.length-1:=List.length_drop;have dt:(l.drop 1).take (l.length-1)=l.drop 1:=List.take_of_length_le (by omega)
 have st:=bP (body:=kY c0 (t.1,t.2,u,(d:Int),l,M)) (fun i=>g2S t l M u d (fZ t ((l.drop 1).take i) l[0]!) i) (l.length-1) (fun i hi=>by
  have q:=aE (l.drop 1) i (by omega)
  rw [JP (by omega)] at q
  have ne:=aER (t:=t) h (i:=i) (by omega)
  have m1:=h.sub _ (bG (l:=l) (i:=i+1) (by omega))
  have m2:fZ t ((l.drop 1).take i) l[0]!∈f:=by
   rcases E7 t ((l.drop 1).take i) l[0]! with e|e
   · rw [e];exact h.sub _ (bG hp)
   · exact h.sub _ (List.mem_of_mem_drop (List.mem_of_mem_take e))
  have A:=aEQ fok r r64 m1 m2 ne;have tt:=XG (t:=t) (l:=l.drop 1) (x:=l[0]!) i (by omega)
  rw [JP (by omega)] at tt
  rw [tt];unfold kY g2S;simp only [aO (show (i:Int)<((l.length-1:Nat):Int) by omega),cond_true,dt,q,aB,A,aU (show i<1000000000 by omega)]
  by_cases c:cJ l[i+1]! (fZ t ((l.drop 1).take i) l[0]!) t
  · rw [decide_eq_true c,cond_true,if_pos c]
  · rw [decide_eq_false c,cond_false,if_neg c])
 rw [List.take_of_length_le (l:=l.drop 1) (i:=l.length-1) (by omega)] at st
 have ol:=aSa fok h hd (c0:=c0) (c1:=(t.1,t.2,u,(d:Int),l,M)) rfl (u:=u) r1 r2;have e1:((Int.ofNat l.length).toNat) -1=l.length-1:=rfl;unfold qD;have en:((Int.ofNat l.length)==0)=false:=eT (by show¬(l.length:Int)=0;omega)
 have e2:(((decide ((0:Nat)<=1))&&(decide ((1:Int)<=(Int.ofNat l.length))))&&(decide ((Int.ofNat l.length)<=(Int.ofNat l.length))))=true:=by
  rw [aO (show (1:Int)<=Int.ofNat l.length by show (1:Int)<=(l.length:Int);omega),aO (Int.le_refl _)];rfl
 simp only [en,cond_false,aMo h0,aB];rw [show (((decide ((0:Nat)<=1))&&(decide ((1:Int)<=(Int.ofNat l.length))))&&(decide ((Int.ofNat l.length)<=(Int.ofNat l.length))))=true from e2,cond_true];refine (show _=_ from st).trans (aK ?_);unfold kY g2S;simp only [aL (Int.lt_irrefl _),cond_false];exact ol
theorem aBm (fok:bD f) (r:bQ t) (r64:pO t): ∀(k n:Nat) (l:List Pt) (u:Int) (d:Nat) (M:List (Int×Int)),LOK f l->l.length<=k->k+1<=n->d+k<=1000->
 gW n (t.1,t.2,u,(d:Int),l,M)=some (l,lE M (fH (kG f t) oB k (l.map fun p=>p.1) u d))
 |k,0,l,u,d,M,_,_,hn,_=>absurd hn (by omega)
 |k,n+1,[],u,d,M,_,_,_,_=>by cases k<;>rfl
 |0,n+1,x::l,u,d,M,_,hk,_,_=>absurd hk (by rw [List.length_cons];omega)
 |k+1,n+1,x::l,u,d,M,h,hk,hn,hd=>by
  have ti:=MR (t:=t) fok l x (h.sub x List.mem_cons_self) (fun p hp=>h.sub p (List.mem_cons_of_mem _ hp))
  have tl:gT (kG f t) ((x::l).map fun p=>p.1)=(fZ t l x).1:=ti.1.symm
  have so:=DB fok.2.2 t;have sl: ∀b,(eE (x::l) (fZ t l x).1 d b).length<=k:=fun b=>by
   have hS: ∀y∈((x::l).map fun p=>p.1),mV f y:=fun y hy=>by
    obtain ⟨p,hp,e⟩:=List.mem_map.1 hy;exact lZ.1 (List.mem_map.2 ⟨p,h.sub p hp,e⟩)
   have t1:=(uL so (l:=(x::l).map fun p=>p.1) (by simp) hS).1
   rw [tl] at t1
   have:=xY (bit:=oB) t1 d b
   rw [<- uN,List.length_map,List.length_map] at this;omega
  have A:=aBm fok r r64 k n (eE (x::l) (fZ t l x).1 d 0) (fZ t l x).1 (d+1) (oN M (fZ t l x).1 u) (h.side _ _ _) (sl 0) (by omega) (by omega)
  have B:=aBm fok r r64 k n (eE (x::l) (fZ t l x).1 d 1) (fZ t l x).1 (d+1) (lE (oN M (fZ t l x).1 u) (fH (kG f t) oB k ((eE (x::l) (fZ t l x).1 d 0).map fun p=>p.1) (fZ t l x).1 (d+1))) (h.side _ _ _) (sl 1) (by omega) (by omega)
  have C:=aUJ fok r r64 h (List.cons_ne_nil x l) (d:=d) (by omega) (u:=u) (M:=M) (c0:=gW n) A B
  refine (show _=_ from C).trans ?_;rw [uN,uN,<- L0];refine congrArg some (Prod.ext rfl ?_);show lE (oN M (fZ t l x).1 u) _=lE M (fH (kG f t) oB (k+1) (x.1::l.map fun p=>p.1) u d)
  simp only [fH];rw [<- show gT (kG f t) (x.1::l.map fun p=>p.1)=(fZ t l x).1 from tl]
  rfl
end
section
variable {f : List Pt} {t : Int × Int}
def h1S (t:Int×Int) (l:List Pt) (M:List (Int×Int)) (d:Nat) (top:Pt) (s0 s1:List Pt) (i:Nat):=
 ((d:Int),l,(l.length:Int),(i:Int),M,t.1,t.2,top.1,top.2.1,top.2.2,s0,s1)
def h2S (t:Int×Int) (l:List Pt) (M:List (Int×Int)) (u:Int) (d:Nat) (top:Pt) (i:Nat):=
 (l,u,(d:Int),l.drop 1,((l.drop 1).length:Int),(i:Int),M,t.1,t.2,top)
theorem aSb (fok:bD f) {l:List Pt} (h:LOK f l) {d:Nat} (hd:d<=1000) {top:Pt} {M:List (Int×Int)}
 {M2 M3:List (Int×Int)} (r1:gN (t.1,t.2,top.1,((d+1:Nat):Int),eE l top.1 d 0,M)=some (eE l top.1 d 0,M2)) (r2:gN (t.1,t.2,top.1,((d+1:Nat):Int),eE l top.1 d 1,M2)=some (eE l top.1 d 1,M3)):
 aJ iK (h1S t l M d top [] [] 0)=some (.done M3):=by
 have hl:=h.len;have st:=bP (body:=iK) (fun i=>h1S t l M d top (eE (l.take i) top.1 d 0) (eE (l.take i) top.1 d 1) i) l.length (fun i hi=>by
  have pm:=bG hi;obtain ⟨b0,b1⟩:=h.bits fok pm;have bt:=aBk b0 b1 d;have lt:=JN (l[i]!).1 d;have s0:=DE (l.take i) l[i]! top.1 d 0;have s1:=DE (l.take i) l[i]! top.1 d 1;rw [<- cS hi] at s0 s1;have l0:(eE (l.take i) top.1 d 0).length<=64:=Nat.le_trans (BY ..) (by rw [List.length_take];omega)
  have l1:(eE (l.take i) top.1 d 1).length<=64:=Nat.le_trans (BY ..) (by rw [List.length_take];omega)
  have a0:bH (eE (l.take i) top.1 d 0) [l[i]!]=some (eE (l.take i) top.1 d 0++[l[i]!]):=bV (by rw [List.length_singleton];omega)
  have a1:bH (eE (l.take i) top.1 d 1) [l[i]!]=some (eE (l.take i) top.1 d 1++[l[i]!]):=bV (by rw [List.length_singleton];omega)
  rw [s0,s1];unfold iK h1S;simp only [aO (show (i:Int)<(l.length:Int) by omega),cond_true,aE l i hi,aB,aU (show i<1000000000 by omega),aL (show¬(d:Int)<0 by omega),cond_false,bt,a0,a1]
  by_cases c:(l[i]!).1=top.1
  · rw [bI (show (l[i]!).1=top.1 from c),cond_false,if_neg (fun k=>k.1 c),if_neg (fun k=>k.1 c),List.append_nil,List.append_nil]
  · rw [dQ c,cond_true]
    by_cases e:oB (l[i]!).1 d=0
    · rw [e,if_pos ⟨c,rfl⟩,if_neg (fun k=>by omega),List.append_nil];rfl
    · have e1:oB (l[i]!).1 d=1:=by omega
      rw [e1,if_neg (fun k=>by omega),if_pos ⟨c,rfl⟩,List.append_nil];rfl)
 rw [List.take_length] at st;refine (show _=_ from st).trans (aK ?_);unfold iK h1S;simp only [aL (show¬(l.length:Int)<(l.length:Int) by omega),cond_false,aU (show d<1000000000 by omega),r1,r2,aB]
theorem aUK (fok:bD f) (r:bQ t) (r64:pO t) {l:List Pt} (h:LOK f l) (h0:l≠[]) {d:Nat} (hd:d<=1000) {M:List (Int×Int)} {u:Int} {c0:_}
 {M2 M3:List (Int×Int)} (r1:gN (t.1,t.2,(fZ t (l.drop 1) l[0]!).1,((d+1:Nat):Int),eE l (fZ t (l.drop 1) l[0]!).1 d 0,oN M (fZ t (l.drop 1) l[0]!).1 u)=some (eE l (fZ t (l.drop 1) l[0]!).1 d 0,M2))
 (r2:gN (t.1,t.2,(fZ t (l.drop 1) l[0]!).1,((d+1:Nat):Int),eE l (fZ t (l.drop 1) l[0]!).1 d 1,M2)=some (eE l (fZ t (l.drop 1) l[0]!).1 d 1,M3)):
 lT c0 (l,t.1,t.2,u,(d:Int),M)=some M3:=by
 have hl:=h.len;have hp:=List.length_pos_iff.2 h0;have ld:(l.drop 1).length=l.length-1:=List.length_drop;have st:=bP (body:=kZ) (fun i=>h2S t l M u d (fZ t ((l.drop 1).take i) l[0]!) i) (l.drop 1).length (fun i hi=>by
  have q:=aE (l.drop 1) i hi;rw [JP (by omega)] at q
  have ne:=aER (t:=t) h (i:=i) (by omega)
  have m1:=h.sub _ (bG (l:=l) (i:=i+1) (by omega))
  have m2:fZ t ((l.drop 1).take i) l[0]!∈f:=by
   rcases E7 t ((l.drop 1).take i) l[0]! with e|e
   · rw [e];exact h.sub _ (bG hp)
   · exact h.sub _ (List.mem_of_mem_drop (List.mem_of_mem_take e))
  have A:=aEQ fok r r64 m1 m2 ne;have tt:=XG (t:=t) (l:=l.drop 1) (x:=l[0]!) i hi;rw [JP (by omega)] at tt
  rw [tt];unfold kZ h2S;simp only [aO (show (i:Int)<((l.drop 1).length:Int) by omega),cond_true,q,aB,A,aU (show i<1000000000 by omega)]
  by_cases c:cJ l[i+1]! (fZ t ((l.drop 1).take i) l[0]!) t
  · rw [decide_eq_true c,cond_true,if_pos c]
  · rw [decide_eq_false c,cond_false,if_neg c])
 rw [List.take_length] at st;have ol:=aSb (t:=t) fok h hd r1 r2;have e1:jL l 1 (Int.ofNat l.length)=some (l.drop 1):=by
  unfold jL;rw [if_pos (by refine ⟨by decide,?_,Int.le_refl _⟩;show (1:Int)<=(l.length:Int);omega)]
  refine congrArg some ?_;show (l.drop 1).take _=_;exact List.take_of_length_le (by rw [ld];exact Nat.le_refl _)
 unfold lT;have en:((Int.ofNat l.length)==0)=false:=eT (by show¬(l.length:Int)=0;omega)
 simp only [en,cond_false,aMo h0,aB,e1];refine (show _=_ from st).trans (aK ?_);unfold kZ h2S;simp only [aL (Int.lt_irrefl _),cond_false];exact ol
theorem aLI (fok:bD f) (r:bQ t) (r64:pO t):sM (f,t.1,t.2,-1,0,[])=some (lE [] (pL f t)):=by
 have h:LOK f f:=⟨fun p hp=>hp,mS fok.2.2,fok.1⟩
 have f1:=fok.1;unfold pL;show lT (gX 999999) _=_;cases hf:f with
 |nil=>rfl
 |cons x l=>
  rw [<- hf];have fl:f.length=l.length+1:=by rw [hf];rfl
  have d1:f.drop 1=l:=by rw [hf];rfl
  have g0:f[0]! =x:=by rw [hf];rfl
  have ti:=MR (t:=t) fok l x (by rw [hf];exact List.mem_cons_self) (fun p hp=>by rw [hf];exact List.mem_cons_of_mem _ hp)
  have ei:oA f=x.1::l.map fun p=>p.1:=by unfold oA;rw [hf];rfl
  have tl:gT (kG f t) (oA f)=(fZ t l x).1:=by rw [ei];exact ti.1.symm
  have so:=DB fok.2.2 t;have sl: ∀b,(eE f (fZ t l x).1 0 b).length<=l.length:=fun b=>by
   have hS: ∀y∈oA f,mV f y:=fun y hy=>lZ.1 hy
   have t1:=(uL so (l:=oA f) (by unfold oA;rw [hf];simp) hS).1
   rw [tl] at t1
   have:=xY (bit:=oB) t1 0 b
   unfold oA at this;rw [<- uN,List.length_map,List.length_map] at this;omega
  have A:=aBm fok r r64 l.length 1000000 (eE f (fZ t l x).1 0 0) (fZ t l x).1 1 (oN [] (fZ t l x).1 (-1)) (h.side _ _ _) (sl 0) (by omega) (by omega)
  have B:=aBm fok r r64 l.length 1000000 (eE f (fZ t l x).1 0 1) (fZ t l x).1 1 (lE (oN [] (fZ t l x).1 (-1)) (fH (kG f t) oB l.length ((eE f (fZ t l x).1 0 0).map fun p=>p.1) (fZ t l x).1 1)) (h.side _ _ _) (sl 1) (by omega) (by omega)
  have C:=aUK fok r r64 h (by rw [hf];exact List.cons_ne_nil x l) (d:=0) (by omega) (u:= -1) (M:=[]) (c0:=gX 999999) (M2:=lE (oN [] (fZ t l x).1 (-1)) (fH (kG f t) oB l.length ((eE f (fZ t l x).1 0 0).map fun p=>p.1) (fZ t l x).1 1)) (M3:=lE (lE (oN [] (fZ t l x).1 (-1)) (fH (kG f t) oB l.length ((eE f (fZ t l x).1 0 0).map fun p=>p.1) (fZ t l x).1 1)) (fH (kG f t) oB l.length ((eE f (fZ t l x).1 0 1).map fun p=>p.1) (fZ t l x).1 1)) (by rw [d1,g0];exact A) (by rw [d1,g0];exact B)
  refine (show _=_ from C).trans (congrArg some ?_);rw [uN,uN,<- L0,fl];rw [show (f.map fun p=>p.1)=oA f from rfl,<- tl]
  generalize kG f t=P;rw [ei];simp only [fH];rfl
end
def Z0 (c:aP) (to:Int×Int):Prop:=0<c.agenda.heap.length/\pH (Ev.at c.agenda.heap[0]!) to<=0
theorem PR {c:aP} (ok:aY c) {to:Int×Int} (rt:bQ to) (r64:pO to) (le: ¬pH to c.now<0):wD c to=some (decide (Z0 c to),0):=by
 unfold wD;rw [mR ok.fit,if_pos ok,aB,eC r64,if_pos rt,aB,bI (by decide),cond_false,KS r64 ok.now64,if_pos ⟨rt,ok.nowv⟩,aB,aL le,cond_false]
 unfold HD;rw [kL _ ok.fit.ag,if_pos ok.agd,aB,bI rfl,cond_false]
 by_cases h:0<c.agenda.heap.length
 · have ev:=ok.agd.ev 0 h
   have g:=aE c.agenda.heap 0 h;rw [show ((0:Nat):Int)=0 from rfl] at g;rw [eT (by rw [aF];omega),cond_false,g,aB,aB,bI rfl,cond_false,KS ev.2.1 r64,if_pos ⟨ev.1,rt⟩,aB]
   congr 2
   by_cases h2:pH (Ev.at c.agenda.heap[0]!) to<=0
   · rw [aO (show Z0 c to from ⟨h,h2⟩),aO h2]
   · rw [aL (fun k:Z0 c to=>h2 k.2),aL h2]
 · rw [fR (by rw [aF];omega),cond_true,aB,aL (fun k:Z0 c to=>h k.1)]
   rfl
theorem PS {c:aP} (ok:aY c) {to:Int×Int} (r64:pO to):zX c to=some (decide (Z0 c to)):=by
 unfold zX;simp only [aF]
 by_cases h:0<c.agenda.heap.length
 · have ev:=ok.agd.ev 0 h
   have g:=aE c.agenda.heap 0 h;rw [show ((0:Nat):Int)=0 from rfl] at g;rw [aO (by omega),cond_true,g,aB,yS ev.2.1 r64,aB]
   congr 1
   by_cases h2:pH (Ev.at c.agenda.heap[0]!) to<=0
   · rw [aO (show Z0 c to from ⟨h,h2⟩),aO h2]
   · rw [aL (fun k:Z0 c to=>h2 k.2),aL h2]
 · rw [aL (by omega),cond_false,aL (fun k:Z0 c to=>h k.1)]
theorem XH {c:bK} (ok:fD c) {i:Nat} (hi:i<c.list.length):OO c (c.list[i]!).1=some (i:Int):=by
 have hl:=ok.len;have k:=pF (body:=zY) (fun j=>((c.list[i]!).1,(j:Int),c.next_,c.list)) c.list.length (fun j=>(c.list[j]!).1=(c.list[i]!).1) (fun j=>(j:Int)) (e:= -1) (fun j hj=>by
  unfold zY;simp only [aF,aO (show (j:Int)<(c.list.length:Int) by omega),cond_true,aE c.list j hj,aB,aU (show j<1000000000 by omega)]
  refine ⟨fun h=>?_,fun h=>?_⟩
  · rw [fR h];rfl
  · rw [eT h];rfl) (by
  unfold zY;simp only [aF,aL (show¬(c.list.length:Int)<(c.list.length:Int) by omega),cond_false])
 exact k.1 i hi rfl fun j hj e=>by have:=ok.up j i hj hi;omega
abbrev atT (c:aP) (t:Int×Int):aP:=⟨t,c.field,c.certs,c.agenda,c.due⟩
theorem aES {c:aP} (ok:aY c) {to:Int×Int} (rt:bQ to) (r64:pO to) (le: ¬pH to c.now<0) (due:Z0 c to):
 ∃(x:Int×Int) (c1:aP),uB c to=some (c1,c.agenda.heap[0]!,x,0)/\xN c=some (c1,c.agenda.heap[0]!,x)/\aY c1/\c1.field=c.field/\kE c.field.points x/\tK c1=tK c+1/\c1.now=Ev.at c.agenda.heap[0]!:=by
 obtain ⟨i,c',hi,num,r1,r2,ok1,hf,hc,_⟩:=ZT ok due.1;have g:=aE c.agenda.heap 0 due.1;rw [show ((0:Nat):Int)=0 from rfl] at g;have hcl:c'.certs.list.length=c.certs.list.length-1:=by
  rw [hc];exact List.length_eraseIdx_of_lt hi
 have hcn:c'.certs.next_=c.certs.next_:=by rw [hc];rfl
 refine ⟨(c.certs.list[i]!).2,atT c' (Ev.at c.agenda.heap[0]!),?_,?_,ok1,hf,ok.known i hi,?_,rfl⟩
 · unfold uB
   rw [PR ok rt r64 le,aB,fR rfl,cond_true,aO due,Bool.not_true,cond_false,bI rfl,cond_false,g,aB,r1,aB,bI rfl,cond_false]
 · unfold xN
   rw [g,aB,show (c.agenda.heap[0]!).2.2.1=(c.certs.list[i]!).1 from num.symm,XH ok.crt hi,aB,aE c.certs.list i hi,aB,num,r2,aB]
 · unfold tK
   show c'.certs.next_- (c'.certs.list.length:Int)=_;rw [hcl,hcn];omega
theorem aET {c:aP} (ok:aY c) {to:Int×Int} (rt:bQ to) (r64:pO to) (le: ¬pH to c.now<0) (due: ¬Z0 c to):uB c to=some (dY,(0,0,0,0,0),(0,0),6):=by
 unfold uB;rw [PR ok rt r64 le,aB,fR rfl,cond_true,aL due];rfl
theorem aLJ {c:aP} (ok:aY c) {to:Int×Int} (rt:bQ to) (r64:pO to) (le: ¬pH to c.now<0) (due: ¬Z0 c to):CS c to=some (atT c to,0):=by
 unfold CS;rw [PR ok rt r64 le,aB,fR rfl,cond_true,aL due,cond_false,bI rfl,cond_false,lQ ok,aB]
theorem aEU {c:aP} (ok:aY c) (to:Int×Int):AB c to=some (atT c to):=by
 unfold AB;rw [jQ ok,aB]
theorem TV {c:aP} (ok:aY c): -200<=tK c/\tK c<=1000000:=by
 have h1:=ok.crt.len;have h2:=ok.crt.n0;have h3:=ok.crt.n1;unfold tK;omega
theorem aLK {h l:Pt} {t t':Int×Int} (hh:fY h) (hl:fY l) (r:bQ t) (r':bQ t') (le:t.1*t'.2<=t'.1*t.2) (nf:(nZ h l t).2=true->t'.1*(nZ h l t).1.2<(nZ h l t).1.1*t'.2): ¬cJ l h t':=by
 unfold nZ at nf
 by_cases h1:cJ l h t
 · rw [if_pos h1] at nf
   have:=nf rfl
   dsimp only at this;omega
 · rw [if_neg h1] at nf
   by_cases h2:h.2.2<l.2.2
   · rw [if_pos h2] at nf
     obtain ⟨_,m1,m2,m3⟩:=KT hh hl (show h.2.2≠l.2.2 by omega)
     have up:=nf rfl;dsimp only at up;intro h3;have g:0<=OQ l h t':=by rcases h3 with k|k<;>omega
     rw [JK] at g;generalize met h l=m at*;have d:=m1.1;have hB:0<l.2.2-h.2.2:=by omega
     generalize l.2.2-h.2.2=B at*;generalize hA:h.2.1-l.2.1=A at*;have g2:A*t'.2<=B*t'.1:=by
      have:(l.2.1-h.2.1)*t'.2= -(A*t'.2):=by rw [<- Int.neg_mul];congr 1;omega
      omega
     have g3:m.1*t'.2*B<=t'.1*m.2*B:=by
      have e1:m.1*t'.2*B=A*t'.2*m.2:=by rw [Int.mul_right_comm,m3,Int.mul_right_comm]
      have e2:t'.1*m.2*B=B*t'.1*m.2:=by rw [Int.mul_right_comm,Int.mul_comm t'.1 B]
      rw [e1,e2];exact Int.mul_le_mul_of_nonneg_right g2 (by omega)
     have g4:m.1*t'.2<=t'.1*m.2:=Int.le_of_mul_le_mul_right g3 hB;omega
   · exact LV r.1 r'.1 le h2 h1
def hP (c:aP) (r:Int) (N:List Nd) (to:Int×Int) (out:List (Int×Int)):=
 (c.now.1,c.now.2,c.field.points,c.certs.next_,c.certs.list,c.agenda.slots.uses,c.agenda.slots.used,c.agenda.slots.free,c.agenda.heap,c.agenda.where_,c.due,r,N,to.1,to.2,(0:Int),(0:Int),(0:Int),(0:Int),out)
noncomputable def RK (f:List Pt) (t:Int×Int) (k:Nat):Nat->Nat
 |0=>0
 |j+1=>RK f t k j+(if j≠k/\ZY f t j k then 1 else 0)
theorem K8 (f:List Pt) (t:Int×Int) (k:Nat): ∀j,RK f t k j<=j/\(k<j->RK f t k j+1<=j)
 |0=>⟨Nat.le_refl _,fun h=>by omega⟩
 |j+1=>by
  obtain ⟨h1,h2⟩:=K8 f t k j;rw [RK]
  by_cases c:j≠k/\ZY f t j k
  · rw [if_pos c]
    exact ⟨by omega,fun h=>by have:=h2 (by omega);omega⟩
  · rw [if_neg c]
    exact ⟨by omega,fun h=>by omega⟩
theorem aCw {f:List Pt} (fok:bD f) {t:Int×Int} (r64:pO t) {k:Nat} (hk:k<f.length):xL ⟨f⟩ f[k]! t=some (RK f t k f.length:Int):=by
 have f1:=fok.1;have key:=bP (body:=nY) (fun j=>((RK f t k j:Int),(j:Int),f,(f[k]!).1,(f[k]!).2.1,(f[k]!).2.2,t)) f.length (fun j hj=>by
  have g:=aE f j hj;have le:=(K8 f t k j).1;have ld:=OS (fok.2.1 _ (bG hj)) (fok.2.1 _ (bG hk)) r64;have peta:((f[k]!).1,(f[k]!).2.1,(f[k]!).2.2)=f[k]!:=rfl;unfold nY;rw [RK]
  by_cases q:j=k
  · subst q
    simp only [aF,aO (show (j:Int)<(f.length:Int) by omega),cond_true,g,aB,bI rfl,cond_false,aU (show j<1000000000 by omega),if_neg (show¬(j≠j/\ZY f t j j) from fun w=>w.1 rfl),Nat.add_zero]
  · have ne:(f[j]!).1≠(f[k]!).1:=fun h=>q (yU fok.2.2 hj hk h)
    by_cases c:ZY f t j k
    · rw [show decide (cJ f[j]! f[k]! t)=true from aO c] at ld
      simp only [aF,aO (show (j:Int)<(f.length:Int) by omega),cond_true,g,aB,dQ ne,peta,ld,aU (show j<1000000000 by omega),aU (show RK f t k j<1000000000 by omega),if_pos (show j≠k/\ZY f t j k from ⟨q,c⟩)]
    · rw [show decide (cJ f[j]! f[k]! t)=false from aL c] at ld
      simp only [aF,aO (show (j:Int)<(f.length:Int) by omega),cond_true,g,aB,dQ ne,peta,ld,cond_false,aU (show j<1000000000 by omega),if_neg (show¬(j≠k/\ZY f t j k) from fun w=>c w.2),Nat.add_zero])
 unfold xL;rw [show aJ nY (0,0,f,(f[k]!).1,(f[k]!).2.1,(f[k]!).2.2,t)=_ from key];refine aK ?_;unfold nY;simp only [aF,aL (show¬(f.length:Int)<(f.length:Int) by omega),cond_false]
noncomputable def F2 (f:List Pt) (t:Int×Int):Nat->List Int
 |0=>List.replicate f.length 0
 |i+1=>(F2 f t i).set (RK f t i f.length) (f[i]!).1
theorem wL (f:List Pt) (t:Int×Int): ∀i,(F2 f t i).length=f.length
 |0=>List.length_replicate ..
 |i+1=>by rw [F2,List.length_set,wL f t i]
theorem Z1 {f:List Pt} (fok:bD f) {t:Int×Int} (r64:pO t):vA ⟨f⟩ t=some (F2 f t f.length):=by
 have f1:=fok.1;have mk:EB (f.length:Int) (0:Int)=some (List.replicate f.length 0):=by
  unfold EB;rw [if_pos ⟨by omega,by omega⟩,Int.toNat_natCast]
 have key:=bP (body:=mK) (fun i=>((i:Int),f,t.1,t.2,F2 f t i)) f.length (fun i hi=>by
  have g:=aE f i hi;have le:=(K8 f t i f.length).2 hi;have go:=aE (F2 f t i) (RK f t i f.length) (by rw [wL];omega)
  unfold mK;simp only [aF,aO (show (i:Int)<(f.length:Int) by omega),cond_true,g,aB,show ((t.1,t.2):Int×Int)=t from rfl,aCw fok r64 hi,go,qL,aU (show i<1000000000 by omega)]
  rfl)
 unfold vA;simp only [aF,beq_self_eq_true,cond_true,mk,aB];rw [show aJ mK (0,f,t.1,t.2,List.replicate f.length 0)=_ from key];refine aK ?_;unfold mK;simp only [aF,aL (show¬(f.length:Int)<(f.length:Int) by omega),cond_false]
theorem TW {f : List Pt} (h : fS f) {t : Int × Int} {i k : Nat} (hi : i < f.length) (hk : k < f.length) (a : ZY f t i k) : ∀ j, j <= f.length -> RK f t i j + (if i < j then 1 else 0) <= RK f t k j
  | 0, _ => by rw [if_neg (by omega)]; exact Nat.le_refl _
  | j + 1, hj => by
    have o := MP h t
    have ih := TW h hi hk a j (by omega)
    have ik : i ≠ k := fun e => by subst e; exact o.asy i i hi hi a a
    rw [RK, RK]
    by_cases e : j = i
    · subst e
      rw [if_neg (show ¬ (j ≠ j /\ _) from fun w => w.1 rfl), if_pos (show j ≠ k /\ ZY f t j k from ⟨ik, a⟩), if_pos (by omega)]
      rw [if_neg (by omega)] at ih
      omega
    · have e2 : (if i < j + 1 then 1 else 0) = (if i < j then 1 else 0) := by
        by_cases c : i < j
        · rw [if_pos c, if_pos (by omega)]
        · rw [if_neg c, if_neg (by omega)]
      rw [e2]
      by_cases c : j ≠ i /\ ZY f t j i
      · have c2 : j ≠ k /\ ZY f t j k := by
          have q := o.tr j i k (by omega) hi hk c.2 a
          exact ⟨fun z => by subst z; exact o.asy j j (by omega) (by omega) q q, q⟩
        rw [if_pos c, if_pos c2]; omega
      · rw [if_neg c]; omega
theorem aLL {f:List Pt} (h:fS f) {t:Int×Int} {i k:Nat} (hi:i<f.length) (hk:k<f.length) (ne:i≠k):RK f t i f.length≠RK f t k f.length:=by
 have o:=MP h t;intro e
 by_cases a:ZY f t i k
 · have:=TW h hi hk a f.length (Nat.le_refl _)
   rw [if_pos hi] at this;omega
 · have:=TW h hk hi (o.tot i k hi hk ne a) f.length (Nat.le_refl _)
   rw [if_pos hk] at this;omega
theorem TX {f:List Pt} (h:fS f) {t:Int×Int} {i:Nat}: ∀j,j<=f.length->i<j->(F2 f t j)[RK f t i f.length]! =(f[i]!).1
 |0,_,hi=>by omega
 |j+1,hj,hi=>by
  rw [F2,bF];have hr:=(K8 f t i f.length).2 (by omega)
  by_cases q:i=j
  · subst q
    rw [if_pos ⟨rfl,by rw [wL];omega⟩]
  · rw [if_neg (fun w=>aLL h (by omega) (by omega) q w.1)]
    exact TX h j (by omega) (by omega)
theorem RM {f:List Pt} (h:fS f) (t:Int×Int):(oA f).Perm (F2 f t f.length):=by
 have il:(oA f).length=f.length:=List.length_map ..;refine uK (mS h) (fun x hx=>?_) (by rw [wL,il];exact Nat.le_refl _)
 obtain ⟨i,hi,e⟩:=lZ.1 hx;have hr:=(K8 f t i f.length).2 hi;exact aX.2 ⟨RK f t i f.length,by rw [wL];omega,by rw [TX h _ (Nat.le_refl _) hi];exact e⟩
theorem Z2 {f:List Pt} (h:fS f) (t:Int×Int) {p q:Nat} (hpq:p<q) (hq:q<f.length):kG f t (F2 f t f.length)[p]! (F2 f t f.length)[q]!:=by
 have pm:=RM h t;have nd:=pm.nodup_iff.1 (mS h);have ol:=wL f t f.length;have o:=MP h t;have at': ∀x,x<f.length-> ∃i,i<f.length/\(F2 f t f.length)[x]! =(f[i]!).1/\RK f t i f.length=x:=fun x hx=>by
  obtain ⟨i,hi,e⟩:=lZ.1 (pm.mem_iff.2 (bG (l:=F2 f t f.length) (i:=x) (by omega)))
  have hr:=(K8 f t i f.length).2 hi;have e2:=TX h (t:=t) f.length (Nat.le_refl _) hi;rw [e] at e2;refine ⟨i,hi,e.symm,?_⟩;rcases Nat.lt_trichotomy (RK f t i f.length) x with c|c|c
  · exact absurd e2 (fK.1 nd _ _ c (by omega))
  · exact c
  · exact absurd e2.symm (fK.1 nd _ _ c (by omega))
 obtain ⟨i,hi,e1,r1⟩:=at' p (by omega)
 obtain ⟨k,hk,e2,r2⟩:=at' q hq;rw [e1,e2];show cJ (fE f (f[i]!).1) (fE f (f[k]!).1) t;rw [xP h hi rfl,xP h hk rfl]
 by_cases a:ZY f t i k
 · exact a
 · have:=TW h hk hi (o.tot i k hi hk (fun e=>by subst e;omega) a) f.length (Nat.le_refl _)
   rw [if_pos hk] at this;omega
theorem aCx {f:List Pt} (h:fS f) (t:Int×Int):(F2 f t f.length).Pairwise (kG f t):=by
 refine List.pairwise_iff_getElem.2 fun i j hi hj hij=>?_
 have:=Z2 h t hij (by rw [<- wL f t f.length];exact hj)
 rw [getElem!_pos _ i hi,getElem!_pos _ j hj] at this;exact this
section
variable {f : List Pt} {t : Int × Int}
theorem aEV {P:Int->Int->Prop} {S:Int->Prop} (o:SO P S) {x:Int} {r:List Int} (hS: ∀y∈x::r,S y) (pw:(x::r).Pairwise P):gT P (x::r)=x:=by
 obtain ⟨p1,_⟩:=List.pairwise_cons.1 pw;refine PK o hS List.mem_cons_self fun y hy=>?_
 rcases List.mem_cons.1 hy with rfl|hy
 · exact o.irr _ (hS _ List.mem_cons_self)
 · exact o.asym (hS _ List.mem_cons_self) (hS _ (List.mem_cons_of_mem _ hy)) (p1 y hy)
def qO (r:List Int) (d b:Nat):List Int:=r.filter fun x=>decide (oB x d=b)
theorem XI {P:Int->Int->Prop} {S:Int->Prop} (o:SO P S) {x:Int} {r:List Int} (hS: ∀y∈x::r,S y) (pw:(x::r).Pairwise P) (d b:Nat):kF oB (x::r) x d b=qO r d b:=by
 obtain ⟨p1,_⟩:=List.pairwise_cons.1 pw;unfold kF qO;rw [List.filter_cons,if_neg (by simp)]
 refine List.filter_congr fun y hy=>?_
 have ne:y≠x:=fun e=>o.irr x (hS x List.mem_cons_self) (by have:=p1 y hy;rwa [e] at this)
 by_cases c:oB y d=b
 · rw [aO (show y≠x/\oB y d=b from ⟨ne,c⟩),aO c]
 · rw [aL (fun k=>c k.2),aL c]
theorem Z3 (r:List Int) (x:Int) (d b:Nat):qO (r++[x]) d b=qO r d b++(if oB x d=b then [x] else []):=by
 unfold qO;rw [List.filter_append]
 congr 1
 by_cases c:oB x d=b
 · rw [if_pos c,List.filter_cons,if_pos (aO c)];rfl
 · rw [if_neg c,List.filter_cons,if_neg (by rw [aL c];decide)];rfl
theorem aEW {x:Int} {r:List Int} (hr:r.length<=64) (pos: ∀y∈r,0<=y) {d:Nat} (hd:d<=1000) {b:Nat} {out A:List (Int×Int)} {c0:_} (hout:out.length+A.length<=1000) (hb:b<=2) (rec:c0 (qO r d b,x,((d+1:Nat):Int))=some A):
 aJ (qJ c0) (x::r,(d:Int),(b:Int),1,out,[])=some (.next (x::r,(d:Int),((b+1:Nat):Int),out++A)):=by
 have st:=bP (body:=qJ c0) (fun i=>(x::r,(d:Int),(b:Int),((i+1:Nat):Int),out,qO (r.take i) d b)) r.length (fun i hi=>by
  have g:=aE (x::r) (i+1) (by rw [List.length_cons];omega)
  have gi:(x::r)[i+1]! =r[i]!:=by
   rw [getElem!_pos _ _ (by rw [List.length_cons];omega),getElem!_pos r i hi];rfl
  rw [gi] at g;have s:=Z3 (r.take i) r[i]! d b;rw [<- cS hi] at s;have lim:(qO (r.take i) d b).length<=64:=Nat.le_trans (List.length_filter_le ..) (by rw [List.length_take];omega)
  have ap:bH (qO (r.take i) d b) [r[i]!]=some (qO (r.take i) d b++[r[i]!]):=bV (by rw [List.length_singleton];omega)
  have bt:=aLH (pos _ (bG hi)) d;rw [s];unfold qJ;simp only [aF,List.length_cons,aO (show ((i+1:Nat):Int)<((r.length+1:Nat):Int) by omega),cond_true,g,aB,aL (show¬(d:Int)<0 by omega),cond_false,bt,ap,aU (show i+1<1000000000 by omega)]
  by_cases c:oB r[i]! d=b
  · rw [fR (by omega),cond_true,if_pos c]
  · rw [eT (by omega),cond_false,if_neg c,List.append_nil])
 rw [List.take_length] at st;refine (show _=_ from st).trans (aK ?_);have g0:aN (x::r) 0=some x:=aE (x::r) 0 (by rw [List.length_cons];omega)
 have ap:bH out A=some (out++A):=bV (by omega)
 unfold qJ;simp only [aF,List.length_cons,aL (show¬((r.length+1:Nat):Int)<((r.length+1:Nat):Int) by omega),cond_false,g0,aB,aU (show d<1000000000 by omega),rec,aU (show b<1000000000 by omega)]
 cases hA:A with
 |nil=>rw [List.append_nil];rfl
 |cons a A'=>rw [hA] at ap;rw [show (a::A').isEmpty=false from rfl,cond_false,ap,aB]
theorem aCy {P:Int->Int->Prop} {S:Int->Prop} (o:SO P S) {n:Nat} {l:List Int} {u:Int} {d:Nat} (hS: ∀x∈l,S x) (nd:l.Nodup) (h:l.length<=n):(fH P oB n l u d).length=l.length:=by
 have:=(DA o JN n l u d hS nd h).1.length_eq
 rw [List.length_map] at this;exact this
theorem aLM {P:Int->Int->Prop} {S:Int->Prop} (o:SO P S) {l:List Int} (hS: ∀x∈l,S x) (pw:l.Pairwise P):l.Nodup:=by
 induction l with
 |nil=>exact List.nodup_nil
 |cons x l ih=>
  obtain ⟨p1,p2⟩:=List.pairwise_cons.1 pw;exact List.nodup_cons.2 ⟨fun h=>o.irr x (hS x List.mem_cons_self) (p1 x h),ih (fun y hy=>hS y (List.mem_cons_of_mem _ hy)) p2⟩
theorem aMp (fok:bD f): ∀(k n:Nat) (l:List Int) (u:Int) (d:Nat),(∀x∈l,mV f x)->l.Pairwise (kG f t)->l.length<=k->k<=64->k+1<=n->d+k<=1000->
 iE n (l,u,(d:Int))=some (fH (kG f t) oB k l u d)
 |k,0,l,u,d,_,_,_,_,hn,_=>absurd hn (by omega)
 |k,n+1,[],u,d,_,_,_,_,_,_=>by cases k<;>rfl
 |0,n+1,x::r,u,d,_,_,hk,_,_,_=>absurd hk (by rw [List.length_cons];omega)
 |k+1,n+1,x::r,u,d,hS,pw,hk,h64,hn,hd=>by
  have o:=DB fok.2.2 t;have th:=aEV o hS pw;rw [List.length_cons] at hk;have hr: ∀b,(∀y∈qO r d b,mV f y)/\(qO r d b).Pairwise (kG f t)/\(qO r d b).length<=k:=fun b=>
   ⟨fun y hy=>hS y (List.mem_cons_of_mem _ (List.mem_filter.1 hy).1),(List.pairwise_cons.1 pw).2.filter _,Nat.le_trans (List.length_filter_le ..) (by omega)⟩
  have pos: ∀y∈r,0<=y:=fun y hy=>by
   have p0:=eX fok (hS y (List.mem_cons_of_mem _ hy));have p1:=p0.1.1;rw [p0.2] at p1;exact p1
  have rc: ∀b,iE n (qO r d b,x,((d+1:Nat):Int))=some (fH (kG f t) oB k (qO r d b) x (d+1)):=fun b=>aMp fok k n _ x (d+1) (hr b).1 (hr b).2.1 (hr b).2.2 (by omega) (by omega) (by omega)
  have ln: ∀b,(fH (kG f t) oB k (qO r d b) x (d+1)).length<=64:=fun b=>by
   rw [aCy o (hr b).1 (aLM o (hr b).1 (hr b).2.1) (hr b).2.2];have:=(hr b).2.2;omega
  have l0:=ln 0;have l1:=ln 1;have A:=aEW (x:=x) (r:=r) (by omega) pos (d:=d) (by omega) (b:=0) (out:=[(x,u)]) (by rw [List.length_singleton];omega) (by omega) (rc 0)
  have B:=aEW (x:=x) (r:=r) (by omega) pos (d:=d) (by omega) (b:=1) (out:=[(x,u)]++fH (kG f t) oB k (qO r d 0) x (d+1)) (by rw [List.length_append,List.length_singleton];omega) (by omega) (rc 1)
  show CU (iE n) (x::r,u,(d:Int))=_;have g0:aN (x::r) 0=some x:=aE (x::r) 0 (by rw [List.length_cons];omega)
  have en:((Int.ofNat (x::r).length)==0)=false:=eT (by show¬((x::r).length:Int)=0;rw [List.length_cons];omega)
  unfold CU;simp only [en,cond_false,g0,aB];have s1:vB (iE n) (x::r,(d:Int),0,[(x,u)])=some (.next (x::r,(d:Int),((0+1:Nat):Int),[(x,u)]++fH (kG f t) oB k (qO r d 0) x (d+1))):=A
  have s2:vB (iE n) (x::r,(d:Int),((0+1:Nat):Int),[(x,u)]++fH (kG f t) oB k (qO r d 0) x (d+1))=some (.next (x::r,(d:Int),((1+1:Nat):Int),([(x,u)]++fH (kG f t) oB k (qO r d 0) x (d+1))++fH (kG f t) oB k (qO r d 1) x (d+1))):=B
  rw [bC s1,bC s2];refine (aK (show vB (iE n) (x::r,(d:Int),((1+1:Nat):Int),_)=some (.done _) from rfl)).trans ?_;simp only [fH];rw [th,XI o hS pw,XI o hS pw];rfl
theorem XJ (fok:bD f):HG (F2 f t f.length) (-1) 0=some (pL f t):=by
 have f1:=fok.1;have pm:=RM fok.2.2 t;have h:=aMp (t:=t) fok f.length 1000000 (F2 f t f.length) (-1) 0 (fun x hx=>lZ.1 (pm.mem_iff.2 hx)) (aCx fok.2.2 t) (by rw [wL];exact Nat.le_refl _) f1 (by omega) (by omega)
 refine (show _=_ from h).trans (congrArg some ?_);exact (HP (DB fok.2.2 t) f.length _ _ (-1) 0 (fun x hx=>lZ.1 hx) pm).symm
theorem RN (fok:bD f) (r64:pO t):BN ⟨f⟩ t=some (qA f t):=by
 have f1:=fok.1;obtain ⟨k1,k2⟩:=yZ (t:=t) fok;have nd:=k1.nodup_iff.2 (mS fok.2.2);have ll:(pL f t).length=f.length:=by have:=k1.length_eq;rw [List.length_map] at this;rw [this];exact List.length_map ..
 have mk:EB (f.length:Int) (0:Int)=some (List.replicate f.length 0):=by
  unfold EB;rw [if_pos ⟨by omega,by omega⟩,Int.toNat_natCast]
 let U:Nat->List Int:=fun j=>f.map fun p=>if p.1∈((pL f t).take j).map (fun e=>e.1) then lR 0 (pL f t) p.1 else 0
 have Ul: ∀j,(U j).length=f.length:=fun j=>List.length_map ..
 have Ua: ∀j i,i<f.length->(U j)[i]! =if (f[i]!).1∈((pL f t).take j).map (fun e=>e.1) then lR 0 (pL f t) (f[i]!).1 else 0:=fun j i hi=>by
  rw [getElem!_pos _ i (by rw [Ul];exact hi),List.getElem_map,getElem!_pos f i hi]
 have st:=bP (body:=zV) (fun j=>(pL f t,(j:Int),f,U j)) (pL f t).length (fun j hj=>by
  have g:=aE (pL f t) j hj;have hm:=bG hj;have hp:mV f ((pL f t)[j]!).1:=lZ.1 (k1.mem_iff.1 (List.mem_map.2 ⟨_,hm,rfl⟩));obtain ⟨i,hi,ei⟩:=hp;have ga:=BQ fok.2.2 (by omega) hi ei
  have gu:=aE (U j) i (by rw [Ul];exact hi)
  unfold zV;simp only [aF,aO (show (j:Int)<((pL f t).length:Int) by omega),cond_true,g,aB,ga,gu,qL,aU (show j<1000000000 by omega)]
  have eU:(U j).set i ((pL f t)[j]!).2=U (j+1):=by
   refine tB (by rw [List.length_set,Ul,Ul]) fun k hk=>?_
   rw [List.length_set,Ul] at hk;have mm:(f[k]!).1∈((pL f t).take (j+1)).map (fun e=>e.1)↔(f[k]!).1∈((pL f t).take j).map (fun e=>e.1)\/(f[k]!).1∈[(pL f t)[j]!].map (fun e=>e.1):=by rw [cS hj,List.map_append,List.mem_append]
   rw [bF,Ul,Ua _ k hk,Ua _ k hk]
   by_cases c:k=i
   · subst c
     rw [if_pos ⟨rfl,hi⟩,if_pos (mm.2 (.inr (by rw [ei];exact List.mem_singleton.2 rfl))),ei]
     exact (JM nd (show (((pL f t)[j]!).1,((pL f t)[j]!).2)∈pL f t from hm)).symm
   · rw [if_neg (fun w=>c w.1)]
     have ne: ¬(f[k]!).1∈[(pL f t)[j]!].map fun e=>e.1:=fun w=>c (yU fok.2.2 hk hi ((List.mem_singleton.1 w).trans ei.symm))
     by_cases q:(f[k]!).1∈((pL f t).take j).map fun e=>e.1
     · rw [if_pos q,if_pos (mm.2 (.inl q))]
     · rw [if_neg q,if_neg (fun w=>(mm.1 w).elim q ne)]
  rw [eU])
 have U0:U 0=List.replicate f.length 0:=by
  refine tB (by rw [Ul,List.length_replicate]) fun k hk=>?_
  rw [Ul] at hk;rw [Ua 0 k hk,List.take_zero,List.map_nil,if_neg List.not_mem_nil,getElem!_pos _ k (by rw [List.length_replicate];exact hk),List.getElem_replicate]
 have Un:U (pL f t).length=qA f t:=by
  refine tB (by rw [Ul,DC]) fun k hk=>?_
  rw [Ul] at hk;rw [Ua _ k hk,List.take_length,if_pos (k1.mem_iff.2 (lZ.2 ⟨k,hk,rfl⟩)),TU hk]
 unfold BN;rw [Z1 fok r64,aB,XJ fok,aB];simp only [aF,beq_self_eq_true,cond_true,mk,aB];rw [<- U0];refine (show _=_ from st).trans (aK ?_);unfold zV;simp only [aF,aL (show¬((pL f t).length:Int)<((pL f t).length:Int) by omega),cond_false]
 rw [Un]
theorem L1 (U:List Int) (i:Nat):dR f U (i+1)=dR f U i++(if 0<=U[i]! then [((f[i]!).1,U[i]!)] else []):=rfl
theorem RO {U:List Int} (hU:U.length=f.length) (hf:f.length<=1000):BO ⟨f⟩ U=some (dR f U f.length):=by
 have st:=bP (body:=zW) (fun i=>(U,(i:Int),f,dR f U i)) f.length (fun i hi=>by
  have gu:=aE U i (by omega)
  have gf:=aE f i hi;have el:=uM (f:=f) U i;have ap:bH (dR f U i) [((f[i]!).1,U[i]!)]=some (dR f U i++[((f[i]!).1,U[i]!)]):=bV (by rw [List.length_singleton];omega)
  rw [L1];unfold zW;simp only [aF,aO (show (i:Int)<(U.length:Int) by omega),cond_true,gu,gf,aB,ap,aU (show i<1000000000 by omega)]
  by_cases c:0<=U[i]!
  · rw [aO c,cond_true,if_pos c]
  · rw [aL c,cond_false,if_neg c,List.append_nil])
 unfold BO;refine (show _=_ from st).trans (aK ?_);unfold zW;simp only [aF,aL (show¬(f.length:Int)<(U.length:Int) by omega),cond_false]
theorem TY (fok:bD f) (r:bQ t) (r64:pO t):lA ⟨f⟩ t=some (qA f t,dR f (qA f t) f.length):=by
 have f1:=fok.1;obtain ⟨k1,_⟩:=yZ (t:=t) fok;have nd:=k1.nodup_iff.2 (mS fok.2.2);have ul:=DC f t;have st:=bP (body:=sN) (fun i=>(f,(f.length:Int),(i:Int),lE [] (pL f t),(qA f t).take i,dR f (qA f t) i)) f.length (fun i hi=>by
  have gf:=aE f i hi;have gm:lR 0 (lE [] (pL f t)) (f[i]!).1=(qA f t)[i]!:=by
   rw [XF _ _ _ nd,if_pos (k1.mem_iff.2 (lZ.2 ⟨i,hi,rfl⟩)),TU hi]
  have el:=uM (f:=f) (qA f t) i;have a1:bH ((qA f t).take i) [(qA f t)[i]!]=some ((qA f t).take (i+1)):=by
   rw [cS (by omega)];exact bV (by rw [List.length_take,List.length_singleton];omega)
  have a2:bH (dR f (qA f t) i) [((f[i]!).1,(qA f t)[i]!)]=some (dR f (qA f t) i++[((f[i]!).1,(qA f t)[i]!)]):=bV (by rw [List.length_singleton];omega)
  rw [L1];unfold sN;simp only [aO (show (i:Int)<(f.length:Int) by omega),cond_true,gf,aB,gm,a1,a2,aU (show i<1000000000 by omega)]
  by_cases c:0<=(qA f t)[i]!
  · rw [aO c,cond_true,if_pos c]
  · rw [aL c,cond_false,if_neg c,List.append_nil])
 have en:(qA f t).take f.length=qA f t:=List.take_of_length_le (by omega)
 unfold lA;rw [aLI fok r r64,aB];refine (show _=_ from st).trans (aK ?_);unfold sN;simp only [aL (show¬(f.length:Int)<(f.length:Int) by omega),cond_false,en]
end
theorem Z4 (a b:List Int) (hl:a.length<=1000000):pS a b=some (decide (a=b)):=by
 unfold pS;simp only [aF]
 by_cases h:a.length=b.length
 case neg=>rw [dQ (by omega),aL (fun k=>h (by rw [k]))];rfl
 rw [bI (by omega)]
 simp only [cond_false];have key:=K4 (body:=lU) (fun i=>(a,b,(a.length:Int),(i:Int))) a.length (fun i=>a[i]! =b[i]!) (r:=false) (e:=true) (fun i hi=>by
  unfold lU;simp only [aO (show (i:Int)<(a.length:Int) by omega),cond_true,aE a i hi,aE b i (by omega),aB,aU (show i<1000000000 by omega)]
  constructor
  · intro h;rw [dQ h];rfl
  · intro h;rw [bI h];rfl) (by
  unfold lU;simp only [aL (show¬(a.length:Int)<(a.length:Int) by omega),cond_false])
 refine (show _=_ from key).trans ?_
 by_cases q:a=b
 · rw [if_pos (fun i _=>by rw [q]),aO q]
 · rw [if_neg (fun w=>q (tB h w)),aL q]
theorem XK (a b:List Int) (hl:a.length<=1000000):qK a b=some (decide (a=b)):=by
 unfold qK;simp only [aF]
 by_cases h:a.length=b.length
 case neg=>rw [dQ (by omega),aL (fun k=>h (by rw [k]))];rfl
 rw [bI (by omega)]
 simp only [cond_false];have key:=K4 (body:=pT) (fun i=>(a,b,(i:Int))) a.length (fun i=>a[i]! =b[i]!) (r:=false) (e:=true) (fun i hi=>by
  unfold pT;simp only [aF,aO (show (i:Int)<(a.length:Int) by omega),cond_true,aE a i hi,aE b i (by omega),aB,aU (show i<1000000000 by omega)]
  constructor
  · intro h;rw [dQ h];rfl
  · intro h;rw [bI h];rfl) (by
  unfold pT;simp only [aF,aL (show¬(a.length:Int)<(a.length:Int) by omega),cond_false])
 refine (show _=_ from key).trans ?_
 by_cases q:a=b
 · rw [if_pos (fun i _=>by rw [q]),aO q]
 · rw [if_neg (fun w=>q (tB h w)),aL q]
structure gF (k:aZ):Prop where
 clk:aY k.clock
 up:qA k.clock.field.points k.clock.now=k.up
 cert:(k.clock.certs.list.map fun x=>x.2).Perm (dR k.clock.field.points k.up k.clock.field.points.length)
theorem P4 {c:aP} (ok:aY c) (E:List (Int×Int)):
 (E.length=c.certs.list.length/\ ∀i,i<c.certs.list.length->(c.certs.list[i]!).2∈E)↔(c.certs.list.map fun x=>x.2).Perm E:=by
 have cl:(c.certs.list.map fun x=>x.2).length=c.certs.list.length:=List.length_map ..
 constructor
 · rintro ⟨h1,h2⟩
   refine uK (E4 ok.crt) (fun x hx=>?_) (by omega)
   obtain ⟨i,hi,rfl⟩:=yY.2 hx;exact h2 i hi
 · intro h
   exact ⟨by rw [<- h.length_eq,cl],fun i hi=>h.mem_iff.1 (yY.1 ⟨i,hi,rfl⟩)⟩
theorem TZ {c:aP} {E:List (Int×Int)} (nd:E.Nodup) (ld: ∀e∈E,cJ (fE c.field.points e.2) (fE c.field.points e.1) c.now):
 (c.certs.list.length=E.length/\ ∀i,i<E.length->wV c.certs.list E[i]!/\cJ (fE c.field.points (E[i]!).2) (fE c.field.points (E[i]!).1) c.now)↔(c.certs.list.map fun x=>x.2).Perm E:=by
 have cl:(c.certs.list.map fun x=>x.2).length=c.certs.list.length:=List.length_map ..
 constructor
 · rintro ⟨h1,h2⟩
   refine (uK nd (fun x hx=>?_) (by omega)).symm
   obtain ⟨i,hi,rfl⟩:=aX.1 hx;exact yY.1 (h2 i hi).1
 · intro h
   exact ⟨by rw [<- h.length_eq,cl],fun i hi=>⟨yY.2 (h.mem_iff.2 (bG hi)),ld _ (bG hi)⟩⟩
theorem aCz (es:List (Int×Int)) (l:List vM) (h1:es.length<=1000000) (_:l.length<=1000000):
 aJ nX (es,l,(l.length:Int),0)=some (if∀i,i<l.length->(l[i]!).2∈es then 0 else 8):=by
 have key:=K4 (body:=nX) (fun i=>(es,l,(l.length:Int),(i:Int))) l.length (fun i=>(l[i]!).2∈es) (r:=8) (e:=0) (fun i hi=>by
  unfold nX;simp only [aO (show (i:Int)<(l.length:Int) by omega),cond_true,aE l i hi,aB,qN es _ h1,aU (show i<1000000000 by omega)]
  refine ⟨fun q=>?_,fun q=>?_⟩
  · rw [aL q];rfl
  · rw [aO q];rfl) (by
  unfold nX;simp only [aL (show¬(l.length:Int)<(l.length:Int) by omega),cond_false])
 refine (show _=_ from key).trans ?_
 by_cases q: ∀i,i<l.length->(l[i]!).2∈es
 · rw [if_pos q,if_pos q]
 · rw [if_neg q,if_neg q]
theorem kM {k:aZ} (fit:tF k.clock):nI k=some (if gF k then 0 else 8):=by
 unfold nI;rw [mR fit,aB]
 by_cases ok:aY k.clock
 case neg=>rw [if_neg ok,if_neg (fun h=>ok h.clk)];rfl
 rw [if_pos ok,bI rfl,cond_false];have bd:=ok.bd;have f1:=ok.fld.1;have hh:=TY ok.fld ok.nowv ok.now64;have hh:lA k.clock.field k.clock.now=_:=hh;have ul:=DC k.clock.field.points k.clock.now;rw [hh,aB,Z4 _ _ (show (qA k.clock.field.points k.clock.now).length<=1000000 by omega),aB]
 by_cases hn:qA k.clock.field.points k.clock.now=k.up
 case neg=>rw [aL hn,if_neg (fun h:gF k=>hn h.up)];rfl
 have el:=uM (f:=k.clock.field.points) k.up k.clock.field.points.length;have iff:=P4 ok (dR k.clock.field.points k.up k.clock.field.points.length);rw [aO hn,Bool.not_true,cond_false,hn];simp only [aF]
 by_cases hc:(dR k.clock.field.points k.up k.clock.field.points.length).length=k.clock.certs.list.length
 case neg=>rw [dQ (by omega),cond_true,if_neg (fun h:gF k=>hc (iff.2 h.cert).1)]
 rw [bI (by omega),cond_false,aCz _ _ (by omega) (by omega)]
 by_cases hj: ∀i,i<k.clock.certs.list.length->(k.clock.certs.list[i]!).2∈dR k.clock.field.points k.up k.clock.field.points.length
 · rw [if_pos hj,if_pos (show gF k from ⟨ok,hn,iff.1 ⟨hc,hj⟩⟩)]
 · rw [if_neg hj,if_neg (fun h:gF k=>hj (iff.2 h.cert).2)]
theorem pM {k:aZ} (fit:tF k.clock):iN k=some (if gF k then 0 else 8):=by
 unfold iN;rw [PE fit,aB]
 by_cases ok:aY k.clock
 case neg=>rw [if_neg ok,if_neg (fun h=>ok h.clk)];rfl
 rw [if_pos ok,bI rfl,cond_false];have bd:=ok.bd;have f1:=ok.fld.1;have hu:BN k.clock.field k.clock.now=_:=RN ok.fld ok.now64;have ul:=DC k.clock.field.points k.clock.now;rw [hu,aB,XK _ _ (show (qA k.clock.field.points k.clock.now).length<=1000000 by omega),aB]
 by_cases hn:qA k.clock.field.points k.clock.now=k.up
 case neg=>rw [aL hn,if_neg (fun h:gF k=>hn h.up)];rfl
 have of:BO k.clock.field (qA k.clock.field.points k.clock.now)=_:=RO (f:=k.clock.field.points) ul (by omega)
 obtain ⟨eok,nd,ld⟩:=F0 (t:=k.clock.now) ok.fld;rw [aO hn,Bool.not_true,cond_false,of,aB,aLB ok _ eok.kn,aB];have iff:=TZ (c:=k.clock) nd ld
 by_cases hj:k.clock.certs.list.length=(dR k.clock.field.points (qA k.clock.field.points k.clock.now) k.clock.field.points.length).length/\ ∀i,i<(dR k.clock.field.points (qA k.clock.field.points k.clock.now) k.clock.field.points.length).length->wV k.clock.certs.list (dR k.clock.field.points (qA k.clock.field.points k.clock.now) k.clock.field.points.length)[i]!/\cJ (fE k.clock.field.points ((dR k.clock.field.points (qA k.clock.field.points k.clock.now) k.clock.field.points.length)[i]!).2) (fE k.clock.field.points ((dR k.clock.field.points (qA k.clock.field.points k.clock.now) k.clock.field.points.length)[i]!).1) k.clock.now
 · rw [aO hj,if_pos (show gF k from ⟨ok,hn,by rw [<- hn];exact iff.1 hj⟩)];rfl
 · rw [aL hj,if_neg (fun h:gF k=>hj (iff.2 (by rw [hn];exact h.cert)))];rfl
structure wW (k:aZ):Prop where
 c:PH k.clock
 n:k.up.length<=1000
theorem mT:wW ⟨dY,[]⟩:=⟨P3,Nat.zero_le _⟩
theorem wM {k:aZ} (h:wW k):pC k k=some true:=by
 have hn:=h.n;unfold pC;rw [ZR h.c,aB,cond_true,XK _ _ (by omega),aB,aO rfl]
theorem T0 (k:aZ):wB k=some true\/(wB k=some false/\wW k):=by
 unfold wB
 rcases W9 k.clock with e|⟨e,sh⟩
 · rw [e];exact .inl rfl
 rw [e,aB,cond_false,aF]
 by_cases h:70<k.up.length
 · rw [aO (by omega)];exact .inl rfl
 · rw [aL (by omega)];exact .inr ⟨rfl,sh,by omega⟩
theorem Z5 {c:aP} (ok:aY c) {f:List Pt} (fok:bD f):
 ∃R:aP×Int,rS c ⟨f⟩ (dR f (qA f c.now) f.length)=some R/\oI c ⟨f⟩ (dR f (qA f c.now) f.length)=some R/\(R.2=0/\JI c f (dR f (qA f c.now) f.length) R.1\/R=(dY,18)):=by
 have f1:=fok.1;obtain ⟨eok,nd,_⟩:=F0 (t:=c.now) fok;have el:=uM (f:=f) (qA f c.now) f.length;obtain ⟨R,r1,r2,r3⟩:=aLz ok fok eok;have ee:pZ f (dR f (qA f c.now) f.length)=0:=by
  unfold pZ;rw [if_neg (Classical.not_not.2 eok.cv),if_neg (Classical.not_not.2 nd),if_neg (fun h=>h eok.kn)]
 have rn:=PN ok fok (es:=dR f (qA f c.now) f.length) (by omega) (fun _=>r1)
 rw [if_pos ee] at rn;exact ⟨R,rn,r2,r3⟩
structure aEX (c:aP) (f:List Pt) (R:aZ×Int):Prop where
 err:R.2=0
 up:R.1.up=qA f c.now
 ren:JI c f (dR f (qA f c.now) f.length) R.1.clock
theorem JQ {c:aP} (ok:aY c) {f:List Pt} (fok:bD f):
 ∃R:aZ×Int,eA c ⟨f⟩=some R/\jD c ⟨f⟩=some R/\(aEX c f R\/R=(⟨dY,[]⟩,18)):=by
 have f1:=fok.1;obtain ⟨R,r1,r2,r3⟩:=Z5 ok fok;have hh:=TY fok ok.nowv ok.now64;have hu:=RN fok ok.now64;have of:=RO (f:=f) (DC f c.now) (by omega)
 unfold eA jD;rw [hh,aB,hu,aB,of,aB];rcases r3 with ⟨q0,qq⟩|he
 · refine ⟨(⟨R.1,qA f c.now⟩,0),?_,?_,.inl ⟨rfl,rfl,qq⟩⟩
   · rw [r1,aB,bI q0,cond_false]
   · rw [r2,aB,bI q0,cond_false]
 · refine ⟨(⟨dY,[]⟩,18),?_,?_,.inr rfl⟩
   · rw [r1,aB,he];rfl
   · rw [r2,aB,he];rfl
theorem JI.same {c:aP} {f:List Pt} {es:List (Int×Int)} {r:aP} (h:JI c f es r) (nd:es.Nodup):(r.certs.list.map fun x=>x.2).Perm es:=by
 refine (List.perm_ext_iff_of_nodup (E4 h.ok.crt) nd).2 fun x=>⟨fun hx=>?_,fun hx=>yY.1 (h.has x hx)⟩
 obtain ⟨y,hy,rfl⟩:=List.mem_map.1 hx;exact h.sub y hy
theorem aEX.ok {c:aP} {f:List Pt} {R:aZ×Int} (fok:bD f) (h:aEX c f R):gF R.1 where
 clk:=h.ren.ok
 up:=by rw [h.ren.fld,h.ren.now,h.up]
 cert:=by rw [h.ren.fld,h.up];exact h.ren.same (F0 fok).2.1
theorem gF.short {k:aZ} (h:gF k):wW k:=⟨h.clk.short,by have:=h.clk.fld.1;rw [<- h.up,DC];omega⟩
theorem aCA {c:aP} (ok:aY c) {to:Int×Int} (rt:bQ to) (due: ¬Z0 c to) {y:vM} (hy:y∈c.certs.list) (is:(bJ c.field.points y.2 c.now).2=true):
 to.1*(bJ c.field.points y.2 c.now).1.2<(bJ c.field.points y.2 c.now).1.1*to.2:=by
 obtain ⟨d,hd,_,ev⟩:=ok.fol.has _ hy is;obtain ⟨v,hv,he⟩:=aX.1 ev;have tl:=K6 ok.agd v hv;have h0:0<c.agenda.heap.length:=by omega
 have e0:=(ok.agd.ev 0 h0).1.1;have ev':=(ok.agd.ev v hv).1.1;rw [he] at tl ev';have n1: ¬pH (bJ c.field.points y.2 c.now).1 (Ev.at c.agenda.heap[0]!)<0:=fun q=>tl (.inl q)
 rw [AF] at n1;have n2: ¬pH (Ev.at c.agenda.heap[0]!) to<=0:=fun q=>due ⟨h0,q⟩
 have n3:to.1*(Ev.at c.agenda.heap[0]!).2<(Ev.at c.agenda.heap[0]!).1*to.2:=by
  unfold pH at n2;rcases eV ((Ev.at c.agenda.heap[0]!).1*to.2) (to.1*(Ev.at c.agenda.heap[0]!).2) with ⟨a,b⟩|⟨a,b⟩|⟨a,b⟩<;>omega
 exact AZ rt.1 e0 ev' n3 (Int.not_lt.1 n1)
theorem aEY {c:aP} (ok:aY c) {to:Int×Int} (rt:bQ to) (r64:pO to) (le: ¬pH to c.now<0) (due: ¬Z0 c to):aY (atT c to):=by
 have pt:=fun (x:Int×Int) (hb:kE c.field.points x)=>And.intro (eX ok.fld hb.2).1 (eX ok.fld hb.1).1
 refine ⟨rt,r64,ok.fld,ok.crt,ok.agd,ok.w200,ok.hd,ok.known,?_⟩;refine aV.time (t:=c.now) (fun y hy=>?_) ok.fol
 obtain ⟨j,hj,rfl⟩:=aX.1 hy;have hb:=ok.known j hj;refine PI (pt _ hb).1 (pt _ hb).2 ok.nowv rt (by rw [AF] at le;exact Int.not_lt.1 le) (fun is=>?_)
 exact Int.le_of_lt (aCA ok rt due hy is)
structure aUL (c:aP) (l:List Int):Prop where
 ok:aY c
 pm:(oA c.field.points).Perm l
 ct:(c.certs.list.map fun x=>x.2).Perm (E3 l)
theorem aUL.bd {c:aP} {l:List Int} (h:aUL c l):l.length<=64:=by
 have:=h.ok.bd
 have:l.length=c.field.points.length:=by rw [<- h.pm.length_eq];exact List.length_map ..
 omega
abbrev Z6:aZ:=⟨dY,[]⟩
structure aCB (R:aZ) (F:List Pt) (t:Int×Int):Prop where
 ok:gF R
 fld:R.clock.field.points=F
 now:R.clock.now=t
theorem aCB.up {R:aZ} {F:List Pt} {t:Int×Int} (h:aCB R F t):R.up=qA F t:=by rw [<- h.ok.up,h.fld,h.now]
theorem aEX.hg {c:aP} {f:List Pt} {R:aZ×Int} (fok:bD f) (h:aEX c f R):aCB R.1 f c.now:=⟨h.ok fok,h.ren.fld,h.ren.now⟩
def EdR (t:Int×Int) (r:Field×Int) (R:aZ×Int):Prop:=(r.2≠0/\R=(Z6,r.2))\/(r.2=0/\bD r.1.points/\(R.2=0/\aCB R.1 r.1.points t\/R=(Z6,18)))
theorem EdR.short {t:Int×Int} {r:Field×Int} {R:aZ×Int} (h:EdR t r R):wW R.1:=by
 rcases h with ⟨_,e⟩|⟨_,_,⟨_,h⟩|e⟩
 · rw [e];exact mT
 · exact h.ok.short
 · rw [e];exact mT
theorem T1 {c:aP} (ok:aY c) {r:Field×Int} (r0:r.2=0) (fok:bD r.1.points): ∃R:aZ×Int,eA c r.1=some R/\jD c r.1=some R/\EdR c.now r R:=by
 obtain ⟨R,s1,s2,s3⟩:=JQ ok fok;refine ⟨R,s1,s2,.inr ⟨r0,fok,?_⟩⟩;rcases s3 with q|e
 · exact .inl ⟨q.err,q.hg fok⟩
 · exact .inr e
theorem aEZ {k:aZ} (ok:gF k) (p:Pt): ∃(r:Field×Int) (R:aZ×Int),mN k.clock.field p=some r/\rD k p=some R/\uF k p=some R/\EdR k.clock.now r R:=by
 have c1:=kM ok.clk.fit;have c2:=pM ok.clk.fit;rw [if_pos ok] at c1 c2;have fok:=ok.clk.fld;rcases PM fok p with ⟨e,e0,t1,t2⟩|⟨m,hm,hp,po,hlt,t1,t2⟩
 · have t1:mN k.clock.field p=some (⟨[]⟩,e):=t1
   have t2:oK k.clock.field p=some (⟨[]⟩,e):=t2;refine ⟨(⟨[]⟩,e),(Z6,e),t1,?_,?_,.inl ⟨e0,rfl⟩⟩
   · unfold rD eB xO
     simp only [c1,aB,t1,show ((0:Int) !=0)=false from rfl,cond_false,dQ e0,cond_true]
   · unfold uF
     simp only [c2,aB,t2,show ((0:Int) !=0)=false from rfl,cond_false,dQ e0,cond_true]
 have t1:mN k.clock.field p=some (⟨E5 k.clock.field.points m p⟩,0):=t1;have t2:oK k.clock.field p=some (⟨E5 k.clock.field.points m p⟩,0):=t2;obtain ⟨R,s1,s2,s3⟩:=T1 ok.clk (r:=(⟨E5 k.clock.field.points m p⟩,0)) rfl (aLC fok po hm hlt);have s1:eA k.clock ⟨E5 k.clock.field.points m p⟩=some R:=s1
 have s2:jD k.clock ⟨E5 k.clock.field.points m p⟩=some R:=s2;refine ⟨_,R,t1,?_,?_,s3⟩
 · unfold rD eB xO
   simp only [c1,aB,t1,show ((0:Int) !=0)=false from rfl,cond_false,s1]
 · unfold uF
   simp only [c2,aB,t2,show ((0:Int) !=0)=false from rfl,cond_false,s2]
theorem XL {k:aZ} (ok:gF k) (p:Pt): ∃(r:Field×Int) (R:aZ×Int),iF k.clock.field p=some r/\lN k p=some R/\nQ k p=some R/\EdR k.clock.now r R:=by
 have c1:=kM ok.clk.fit;have c2:=pM ok.clk.fit;rw [if_pos ok] at c1 c2;have fok:=ok.clk.fld;rcases JL fok p with ⟨e,e0,t1,t2⟩|⟨q,hq,he,po,t1,t2⟩
 · have t1:iF k.clock.field p=some (⟨[]⟩,e):=t1
   have t2:jN k.clock.field p=some (⟨[]⟩,e):=t2;refine ⟨(⟨[]⟩,e),(Z6,e),t1,?_,?_,.inl ⟨e0,rfl⟩⟩
   · unfold lN dF qW
     simp only [c1,aB,t1,show ((0:Int) !=0)=false from rfl,cond_false,dQ e0,cond_true]
   · unfold nQ
     simp only [c2,aB,t2,show ((0:Int) !=0)=false from rfl,cond_false,dQ e0,cond_true]
 have t1:iF k.clock.field p=some (⟨k.clock.field.points.set q p⟩,0):=t1;have t2:jN k.clock.field p=some (⟨k.clock.field.points.set q p⟩,0):=t2;obtain ⟨R,s1,s2,s3⟩:=T1 ok.clk (r:=(⟨k.clock.field.points.set q p⟩,0)) rfl (aR7 fok po hq he);have s1:eA k.clock ⟨k.clock.field.points.set q p⟩=some R:=s1
 have s2:jD k.clock ⟨k.clock.field.points.set q p⟩=some R:=s2;refine ⟨_,R,t1,?_,?_,s3⟩
 · unfold lN dF qW
   simp only [c1,aB,t1,show ((0:Int) !=0)=false from rfl,cond_false,s1]
 · unfold nQ
   simp only [c2,aB,t2,show ((0:Int) !=0)=false from rfl,cond_false,s2]
theorem aCC {k:aZ} (ok:gF k) (id:Int): ∃(r:Field×Int) (R:aZ×Int),nP k.clock.field id=some r/\pD k id=some R/\rE k id=some R/\EdR k.clock.now r R:=by
 have c1:=kM ok.clk.fit;have c2:=pM ok.clk.fit;rw [if_pos ok] at c1 c2;have fok:=ok.clk.fld
 by_cases hid:mV k.clock.field.points id
 case neg=>
  obtain ⟨t1,t2⟩:=TS fok hid;have t1:nP k.clock.field id=some (⟨[]⟩,6):=t1;have t2:pE k.clock.field id=some (⟨[]⟩,6):=t2;refine ⟨(⟨[]⟩,6),(Z6,6),t1,?_,?_,.inl ⟨by decide,rfl⟩⟩
  · unfold pD dW vJ;rw [c1,aB,bI rfl,cond_false,t1];rfl
  · unfold rE;rw [c2,aB,bI rfl,cond_false,t2];rfl
 obtain ⟨q,hq,rfl⟩:=hid;obtain ⟨t1,t2⟩:=ZV fok hq;have t1:nP k.clock.field (k.clock.field.points[q]!).1=some (⟨k.clock.field.points.eraseIdx q⟩,0):=t1;have t2:pE k.clock.field (k.clock.field.points[q]!).1=some (⟨k.clock.field.points.eraseIdx q⟩,0):=t2;obtain ⟨R,s1,s2,s3⟩:=T1 ok.clk (r:=(⟨k.clock.field.points.eraseIdx q⟩,0)) rfl (aEM fok q)
 have s1:eA k.clock ⟨k.clock.field.points.eraseIdx q⟩=some R:=s1;have s2:jD k.clock ⟨k.clock.field.points.eraseIdx q⟩=some R:=s2;refine ⟨_,R,t1,?_,?_,s3⟩
 · unfold pD dW vJ
   simp only [c1,aB,t1,show ((0:Int) !=0)=false from rfl,cond_false,s1]
 · unfold rE
   simp only [c2,aB,t2,show ((0:Int) !=0)=false from rfl,cond_false,s2]
theorem Z7 {c:aP} (ok:aY c) (ct: ∀e∈dR c.field.points (qA c.field.points c.now) c.field.points.length,wV c.certs.list e) {to:Int×Int} (rt:bQ to) (le: ¬pH to c.now<0) (due: ¬Z0 c to):qA c.field.points to=qA c.field.points c.now:=by
 obtain ⟨eok,_,ld⟩:=F0 (t:=c.now) ok.fld;refine aCu ok.fld fun e he=>?_
 have kn:=eok.kn e he;have p1:=eX ok.fld kn.1;have p2:=eX ok.fld kn.2;have l0:=ld e he;obtain ⟨w,w1,w2⟩:=ct _ he;have wn:bJ c.field.points (c.certs.list[w]!).2 c.now=nZ (fE c.field.points e.2) (fE c.field.points e.1) c.now:=by
  unfold bJ;rw [w2]
 have nl: ¬cJ (fE c.field.points e.1) (fE c.field.points e.2) to:=by
  refine aLK p2.1 p1.1 ok.nowv rt (by rw [AF] at le;omega) fun is=>?_
  rw [<- wn] at is;obtain ⟨d,hd,_,ev⟩:=ok.fol.has _ (bG w1) is;obtain ⟨v,hv,he⟩:=aX.1 ev;have tl:=K6 ok.agd v hv;have h0:0<c.agenda.heap.length:=by omega
  have e0:=(ok.agd.ev 0 h0).1.1;have ev':=(ok.agd.ev v hv).1.1;rw [he] at tl ev';rw [<- wn];have n1: ¬pH (bJ c.field.points (c.certs.list[w]!).2 c.now).1 (Ev.at c.agenda.heap[0]!)<0:=fun q=>tl (.inl q)
  rw [AF] at n1;have n2: ¬pH (Ev.at c.agenda.heap[0]!) to<=0:=fun q=>due ⟨h0,q⟩
  have n3:to.1*(Ev.at c.agenda.heap[0]!).2<(Ev.at c.agenda.heap[0]!).1*to.2:=by
   unfold pH at n2;rcases eV ((Ev.at c.agenda.heap[0]!).1*to.2) (to.1*(Ev.at c.agenda.heap[0]!).2) with ⟨a,b⟩|⟨a,b⟩|⟨a,b⟩<;>omega
  exact AZ rt.1 e0 ev' n3 (Int.not_lt.1 n1)
 refine AI to (fun q=>?_) nl
 rw [p1.2,p2.2] at q;rw [q] at l0;exact wK l0 l0
def gP (c:aP) (U:List Int) (to:Int×Int) (out:List (Int×Int)):=
 (c.now.1,c.now.2,c.field.points,c.certs.next_,c.certs.list,c.agenda.slots.uses,c.agenda.slots.used,c.agenda.slots.free,c.agenda.heap,c.agenda.where_,c.due,U,to.1,to.2,(0:Int),(0:Int),(0:Int),out)
def gR (c:aP) (U:List Int) (to:Int×Int) (out:List (Int×Int)):=
 (to.1,to.2,(0:Int),(0:Int),(0:Int),c.now.1,c.now.2,c.field.points,c.certs.next_,c.certs.list,c.agenda.slots.uses,c.agenda.slots.used,c.agenda.slots.free,c.agenda.heap,c.agenda.where_,c.due,U,out)
theorem aCD {to:Int×Int} (rt:bQ to) (r64:pO to): ∀(d:Nat) (c:aP) (U:List Int) (out:List (Int×Int)),1000000-tK c<(d:Int)->gF ⟨c,U⟩-> ¬pH to c.now<0->(out.length:Int)<=tK c+200->
 ∃R:aZ×List (Int×Int)×Int,aJ iV (gP c U to out)=some R/\aJ oJ (gR c U to out)=some R/\(R=(Z6,[],18)\/R.2.2=0/\aCB R.1 c.field.points to/\R.2.1.length<=1048576):=by
 intro d
 induction d with
 |zero=>intro c U out hd ok;have:=(TV (show aY c from ok.clk)).2;omega
 |succ d ih=>
  intro c U out hd hok le ho;have ok:aY c:=hok.clk;have hu:qA c.field.points c.now=U:=hok.up;have bd:=ok.bd;have rb:=TV ok;have f1:=ok.fld.1;have ul:=DC c.field.points c.now;have ct: ∀e∈dR c.field.points (qA c.field.points c.now) c.field.points.length,wV c.certs.list e:=fun e he=>yY.2 (hok.cert.mem_iff.2 (by rw [hu] at he;exact he))
  have ceta:(aP.mk (c.now.1,c.now.2) (Field.mk c.field.points) (bK.mk c.certs.next_ c.certs.list) (aQ.mk (bA.mk c.agenda.slots.uses c.agenda.slots.used c.agenda.slots.free) c.agenda.heap c.agenda.where_) c.due)=c:=rfl;have teta:((to.1,to.2):Int×Int)=to:=rfl
  by_cases due:Z0 c to
  · obtain ⟨x,c1,e1,e2,ok1,hf,_,hr,hn⟩:=aES ok rt r64 le due
    obtain ⟨R,s1,s2,s3⟩:=JQ ok1 ok1.fld;have s1:eA c1 c1.field=some R:=s1;have s2:jD c1 c1.field=some R:=s2;have ol:bH out [x]=some (out++[x]):=bV (by rw [List.length_singleton];omega)
    rcases s3 with q|he
    · have q0:=q.err
      have hg:=q.hg ok1.fld;have st1:iV (gP c U to out)=some (.next (gP R.1.clock R.1.up to (out++[x]))):=by
       unfold iV gP;simp only [ceta,teta,e1,aB,s1,q0,show ((0:Int) !=0)=false from rfl,cond_false,ol]
      have st2:oJ (gR c U to out)=some (.next (gR R.1.clock R.1.up to (out++[x]))):=by
       unfold oJ gR;simp only [ceta,teta,PS ok r64,aO due,aB,cond_true,e2,s2,q0,show ((0:Int) !=0)=false from rfl,cond_false,ol]
      have rr:=q.ren.room;rw [bC st1,bC st2];obtain ⟨S,t1,t2,t3⟩:=ih R.1.clock R.1.up (out++[x]) (by omega) hg.ok (fun h=>by
       have h2:=due.2;rw [q.ren.now,hn,AF] at h
       have: ¬0<pH (Ev.at c.agenda.heap[0]!) to:=by omega
       unfold pH at this;rcases eV ((Ev.at c.agenda.heap[0]!).1*to.2) (to.1*(Ev.at c.agenda.heap[0]!).2) with ⟨a,b⟩|⟨a,b⟩|⟨a,b⟩<;>omega) (by rw [List.length_append,List.length_singleton];omega)
      rw [q.ren.fld,hf] at t3;exact ⟨S,t1,t2,t3⟩
    · refine ⟨(Z6,[],18),aK ?_,aK ?_,.inl rfl⟩
      · unfold iV gP
        simp only [ceta,teta,e1,aB,s1,he,show ((0:Int) !=0)=false from rfl,show ((18:Int) !=0)=true from rfl,cond_false,cond_true]
      · unfold oJ gR
        simp only [ceta,teta,PS ok r64,aO due,aB,cond_true,e2,s2,he,show ((18:Int) !=0)=true from rfl]
  · have hh:lA c.field to=some (qA c.field.points to,dR c.field.points (qA c.field.points to) c.field.points.length):=TY ok.fld rt r64
    have us:=(Z7 ok ct rt le due).trans hu;rw [us] at hh;have cl:bX U=some U:=aW (by rw [<- hu];omega)
    have hh2:lA (atT c to).field to=some (U,dR c.field.points U c.field.points.length):=hh;refine ⟨(⟨atT c to,U⟩,out,0),aK ?_,aK ?_,.inr ⟨rfl,⟨⟨aEY ok rt r64 le due,us,hok.cert⟩,rfl,rfl⟩,by show out.length<=1048576;omega⟩⟩
    · unfold iV gP
      simp only [ceta,teta,aET ok rt r64 le due,aB,show ((6:Int) !=0)=true from rfl,cond_true,aLJ ok rt r64 le due,hh2]
    · unfold oJ gR
      simp only [ceta,teta,PS ok r64,aL due,aB,cond_false,cl,aEU ok]
theorem HQ {k:aZ} (ok:gF k) {to:Int×Int} (rt:bQ to) (r64:pO to) (le: ¬pH to k.clock.now<0):
 ∃R:aZ×List (Int×Int)×Int,iL k to=some R/\HJ k to=some R/\(R=(Z6,[],18)\/R.2.2=0/\aCB R.1 k.clock.field.points to/\R.2.1.length<=1048576):=by
 have c1:=kM ok.clk.fit;rw [if_pos ok] at c1;have rb:=TV ok.clk;obtain ⟨R,r1,r2,r3⟩:=aCD rt r64 (1000001-tK k.clock).toNat k.clock k.up [] (by omega) ok le (by simp;omega)
 refine ⟨R,?_,r2,r3⟩;unfold iL;rw [c1,aB,bI rfl,cond_false,eC r64,if_pos rt,aB,bI rfl,cond_false,KS r64 ok.clk.now64,if_pos ⟨rt,ok.clk.nowv⟩,aB,aL le];exact r1
structure aBn (r:aZ×List (Int×Int)×Int):Prop where
 h:wW r.1
 l:r.2.1.length<=1048576
theorem F3 {k:aZ} (n:aCs k.clock) (sh:wW k) {to:Int×Int} (r64:pO to):
 ∃R:aZ×List (Int×Int)×Int,iL k to=some R/\lL k to=some R/\aBn R:=by
 have fit:tF k.clock:=⟨n.now,⟨sh.c.s3,sh.c.h,sh.c.w,n.at64⟩,sh.c.d⟩;have bad: ∀e:Int,aBn (Z6,[],e):=fun e=>⟨mT,Nat.zero_le _⟩
 have c1:=kM fit;have c2:=pM fit
 by_cases ok:gF k
 case neg=>
  rw [if_neg ok] at c1 c2;refine ⟨(Z6,[],8),?_,?_,bad 8⟩
  · unfold iL;rw [c1];rfl
  · unfold lL;rw [c2];rfl
 rw [if_pos ok] at c1 c2
 by_cases rt:bQ to
 case neg=>
  have u:lD k.clock to=some 8:=by
   unfold lD;rw [pG r64,if_neg rt];rfl
  refine ⟨(Z6,[],8),?_,?_,bad 8⟩
  · unfold iL
    rw [c1,aB,bI rfl,cond_false,eC r64,if_neg rt];rfl
  · unfold lL
    rw [c2,aB,bI rfl,cond_false,u];rfl
 by_cases le:pH to k.clock.now<0
 · have u:lD k.clock to=some 44:=by
    unfold lD;rw [pG r64,if_pos rt,aB,bI rfl,cond_false,yS r64 n.now,aB,aO le];rfl
   refine ⟨(Z6,[],44),?_,?_,bad 44⟩
   · unfold iL
     rw [c1,aB,bI rfl,cond_false,eC r64,if_pos rt,aB,bI rfl,cond_false,KS r64 n.now,if_pos ⟨rt,ok.clk.nowv⟩,aB,aO le];rfl
   · unfold lL
     rw [c2,aB,bI rfl,cond_false,u];rfl
 · have u:lD k.clock to=some 0:=by
    unfold lD;rw [pG r64,if_pos rt,aB,bI rfl,cond_false,yS r64 n.now,aB,aL le];rfl
   obtain ⟨R,r1,r2,r3⟩:=HQ ok rt r64 le;refine ⟨R,r1,?_,?_⟩
   · unfold lL
     rw [c2,aB,bI rfl,cond_false,u,aB,bI rfl,cond_false,r2,aB]
   · rcases r3 with e|⟨_,h,l⟩
     · rw [e];exact bad 18
     · exact ⟨h.ok.short,l⟩
theorem Z8 {k:aZ} (n:aCs k.clock) (sh:wW k) (p:Pt) (id:Int):
 (∃R:aZ×Int,rD k p=some R/\uF k p=some R/\wW R.1)/\(∃R:aZ×Int,pD k id=some R/\rE k id=some R/\wW R.1)/\(∃R:aZ×Int,lN k p=some R/\nQ k p=some R/\wW R.1):=by
 have fit:tF k.clock:=⟨n.now,⟨sh.c.s3,sh.c.h,sh.c.w,n.at64⟩,sh.c.d⟩;have c1:=kM fit;have c2:=pM fit
 by_cases ok:gF k
 case neg=>
  rw [if_neg ok] at c1 c2;refine ⟨⟨(Z6,8),?_,?_,mT⟩,⟨(Z6,8),?_,?_,mT⟩,⟨(Z6,8),?_,?_,mT⟩⟩
  · unfold rD eB;rw [c1];rfl
  · unfold uF;rw [c2];rfl
  · unfold pD dW;rw [c1];rfl
  · unfold rE;rw [c2];rfl
  · unfold lN dF;rw [c1];rfl
  · unfold nQ;rw [c2];rfl
 obtain ⟨_,A,_,a1,a2,a3⟩:=aEZ ok p;obtain ⟨_,B,_,b1,b2,b3⟩:=aCC ok id;obtain ⟨_,C,_,d1,d2,d3⟩:=XL ok p;exact ⟨⟨A,a1,a2,a3.short⟩,⟨B,b1,b2,b3.short⟩,⟨C,d1,d2,d3.short⟩⟩
theorem XM {k:aZ} (h:wW k):yH k=some k:=by
 have hn:=h.n;unfold yH;rw [ZS h.c,aB,aW (by omega),aB]
theorem DF (k:aZ) (to:Int×Int) (p:Pt) (id:Int) (n:aCs k.clock) (r64:pO to):sZ k to p id=some true:=by
 unfold sZ;rcases T0 k with e|⟨e,sh⟩
 · rw [e];rfl
 rw [e,aB,cond_false];unfold HB;rw [aB];cases decide (10<Int.ofNat k.clock.field.points.length) with
 |true=>rfl
 |false=>
  obtain ⟨R,r1,r2,r3⟩:=F3 n sh r64;obtain ⟨⟨A,a1,a2,a3⟩,⟨B,b1,b2,b3⟩,⟨C,d1,d2,d3⟩⟩:=Z8 n sh p id;simp only [cond_false,XM sh,aB,r1,r2,a1,a2,b1,b2,d1,d2,wM r3.h,wM a3,wM b3,wM d3,ZU _ r3.l,Bool.not_true,bne_self_eq_false,cond_true,beq_self_eq_true,wM sh]
theorem aCs.of {c:aP} (h1:RT.wf [.i .i64,.i .i64] c.now) (h2: ∀a∈c.agenda.heap,RT.wf [.i .i64,.i .i64,.i .i64,.i .i64,.i .i64] a):aCs c where
 now:=⟨KJ h1.1,KJ h1.2⟩
 at64 w hw:=by
  have:=h2 (c.agenda.heap[w]!) (by rw [getElem!_pos c.agenda.heap w hw];exact List.getElem_mem hw)
  exact ⟨KJ this.1,KJ this.2.1⟩
end Go.Proofs.YtbncnimfgdelaaaGreat
