/- Plain laws (4). -/
import Derived.Test.YtbncnimfgdelaaaGreatBQM3
import Derived.Test.YtbncnimfgdelaaaGreatBQS2
import Derived.Test.YtbncnimfgdelaaaGreatBVm3
namespace Go.Proofs.YtbncnimfgdelaaaGreat
open Go.Vm Classical
theorem X9 (l:List (Int×Int)) (hl:l.length<=1048576):pJ l l=some true:=by
 unfold pJ;rw [cA rfl,cond_false]
 have:=bP (body:=mB) (fun i=>(l,l,(i:Int))) l.length (fun i hi=>by
  unfold mB;simp only [aF,aQ (show (i:Int)<(l.length:Int) by omega),cond_true,aD l i hi,aE,fQ rfl,Bool.and_self,Bool.not_true,cond_false,aW (show i<1000000000 by omega)])
 rw [show (l,l,(0:Int))=(l,l,((0:Nat):Int)) from rfl,this];refine aL ?_;unfold mB;simp only [aF,aM (show¬(l.length:Int)<(l.length:Int) by omega),cond_false]
theorem R7 (p q:Pt) (t:Int×Int):PR p q t=(p.2.1*t.2+p.2.2*t.1) - (q.2.1*t.2+q.2.2*t.1):=by
 rw [aKi,Int.sub_mul,Int.sub_mul];omega
theorem KF {p q r:Pt} {t:Int×Int} (h1:cT p q t) (h2:cT q r t):cT p r t:=by
 unfold cT at*;rw [R7] at*;generalize p.2.1*t.2+p.2.2*t.1=a at*;generalize q.2.1*t.2+q.2.2*t.1=b at*;generalize r.2.1*t.2+r.2.2*t.1=c at*;omega
theorem DP {p q:Pt} (t:Int×Int) (h:p.1≠q.1) (hn: ¬cT p q t):cT q p t:=by
 unfold cT at*;rw [R7] at*;generalize p.2.1*t.2+p.2.2*t.1=a at*;generalize q.2.1*t.2+q.2.2*t.1=b at*;omega
structure SO (P:Int->Int->Prop) (S:Int->Prop):Prop where
 irr: ∀a,S a-> ¬P a a
 tr: ∀a b c,S a->S b->S c->P a b->P b c->P a c
 tot: ∀a b,S a->S b->a≠b->P a b\/P b a
abbrev par (j:Nat):Nat:=(j-1) / 2
def Hp (P:Int->Int->Prop) (l:List Int):Prop:= ∀j,0<j->j<l.length-> ¬P l[j]! l[par j]!
section
variable {P : Int -> Int -> Prop} {S : Int -> Prop}
theorem SO.asym (o:SO P S) {a b:Int} (ha:S a) (hb:S b) (h:P a b): ¬P b a:=fun k=>o.irr a ha (o.tr a b a ha hb ha h k)
theorem SO.ntr (o:SO P S) {a b c:Int} (ha:S a) (hb:S b) (hc:S c) (h1: ¬P a b) (h2: ¬P b c): ¬P a c:=fun h=>by
 by_cases e:b=c
 · exact h1 (e▸h)
 · rcases o.tot b c hb hc e with k|k
   · exact h2 k
   · exact h1 (o.tr a c b ha hc hb h k)
theorem SO.up (o:SO P S) {a b c:Int} (ha:S a) (hb:S b) (hc:S c) (h1:P b c) (h2: ¬P a c): ¬P a b:=fun h=>h2 (o.tr a b c ha hb hc h h1)
end
noncomputable def mM (P:Int->Int->Prop):List Int->Int
 | []=>0
 |x::r=>r.foldl (fun t y=>if P y t then y else t) x
noncomputable def qO (bit:Int->Nat->Nat) (l:List Int) (top:Int) (d b:Nat):List Int:=l.filter fun x=>decide (x≠top/\bit x d=b)
noncomputable def gH (P:Int->Int->Prop) (bit:Int->Nat->Nat):Nat->List Int->Int->Nat->List (Int×Int)
 |0,_,_,_=>[]
 |_+1,[],_,_=>[]
 |n+1,x::r,u,d=>(mM P (x::r),u)::(gH P bit n (qO bit (x::r) (mM P (x::r)) d 0) (mM P (x::r)) (d+1)++gH P bit n (qO bit (x::r) (mM P (x::r)) d 1) (mM P (x::r)) (d+1))
section
variable {P : Int -> Int -> Prop} {S : Int -> Prop} {bit : Int -> Nat -> Nat}
theorem N4 (o : SO P S) : ∀ (r : List Int) (x : Int), S x -> (∀ y ∈ r, S y) -> (r.foldl (fun t y => if P y t then y else t) x = x \/ r.foldl (fun t y => if P y t then y else t) x ∈ r) /\
    ¬ P x (r.foldl (fun t y => if P y t then y else t) x) /\ ∀ y ∈ r, ¬ P y (r.foldl (fun t y => if P y t then y else t) x)
  | [], x, hx, _ => ⟨.inl rfl, o.irr x hx, fun y h => by cases h⟩
  | z :: r, x, hx, hr => by
    rw [List.foldl_cons]
    have hz := hr z List.mem_cons_self
    have hr' : ∀ y ∈ r, S y := fun y hy => hr y (List.mem_cons_of_mem _ hy)
    by_cases c : P z x
    · rw [if_pos c]
      obtain ⟨a1, a2, a3⟩ := N4 o r z hz hr'
      have hT : S (r.foldl (fun t y => if P y t then y else t) z) := by
        rcases a1 with e | e
        · rw [e]; exact hz
        · exact hr' _ e
      refine ⟨.inr (by rcases a1 with e | e; · rw [e]; exact List.mem_cons_self
                       · exact List.mem_cons_of_mem _ e), ?_, fun y hy => ?_⟩
      · exact o.ntr hx hz hT (o.asym hz hx c) a2
      · rcases List.mem_cons.1 hy with rfl | hy
        · exact a2
        · exact a3 y hy
    · rw [if_neg c]
      obtain ⟨a1, a2, a3⟩ := N4 o r x hx hr'
      have hT : S (r.foldl (fun t y => if P y t then y else t) x) := by
        rcases a1 with e | e
        · rw [e]; exact hx
        · exact hr' _ e
      refine ⟨a1.imp id (List.mem_cons_of_mem _), a2, fun y hy => ?_⟩
      rcases List.mem_cons.1 hy with rfl | hy
      · exact o.ntr hz hx hT c a2
      · exact a3 y hy
theorem tC (o:SO P S) {l:List Int} (h0:l≠[]) (hS: ∀x∈l,S x):mM P l∈l/\ ∀y∈l,¬P y (mM P l):=by
 cases l with
 |nil=>exact absurd rfl h0
 |cons x r=>
  obtain ⟨a1,a2,a3⟩:=N4 o r x (hS x List.mem_cons_self) (fun y hy=>hS y (List.mem_cons_of_mem _ hy))
  refine ⟨?_,fun y hy=>?_⟩
  · rcases a1 with e|e
    · show r.foldl _ x∈_;rw [e];exact List.mem_cons_self
    · exact List.mem_cons_of_mem _ e
  · rcases List.mem_cons.1 hy with rfl|hy
    · exact a2
    · exact a3 y hy
theorem VL (o:SO P S) {l:List Int} (hS: ∀x∈l,S x) {a:Int} (ha:a∈l) (h: ∀y∈l,¬P y a):mM P l=a:=by
 obtain ⟨b1,b2⟩:=tC o (List.ne_nil_of_mem ha) hS;rcases Classical.em (mM P l=a) with e|e
 · exact e
 · rcases o.tot _ _ (hS _ b1) (hS _ ha) e with k|k
   · exact absurd k (h _ b1)
   · exact absurd k (b2 _ ha)
theorem aBk (o:SO P S) {l l':List Int} (hS: ∀x∈l,S x) (p:l.Perm l'):mM P l=mM P l':=by
 by_cases h0:l=[]
 · subst h0;rw [List.nil_perm.1 p]
 · have h0':l'≠[]:=fun e=>by subst e;exact h0 (List.perm_nil.1 p)
   obtain ⟨b1,b2⟩:=tC o h0' (fun x hx=>hS x (p.mem_iff.2 hx))
   exact VL o hS (p.mem_iff.2 b1) fun y hy=>b2 y (p.mem_iff.1 hy)
theorem iU {l:List Int} {top:Int} {d b:Nat} {x:Int}:x∈qO bit l top d b↔x∈l/\x≠top/\bit x d=b:=by
 unfold qO;rw [List.mem_filter,decide_eq_true_iff]
theorem EO {l:List Int} {top:Int} (h:top∈l) (d b:Nat):(qO bit l top d b).length<l.length:=by
 unfold qO;refine List.length_filter_lt_length_iff_exists.2 ⟨top,h,?_⟩;simp
theorem vA {l:List Int} (h:l.Nodup) (top:Int) (d b:Nat):(qO bit l top d b).Nodup:=h.filter _
theorem GC (o:SO P S): ∀(n:Nat) (l l':List Int) (u:Int) (d:Nat),(∀x∈l,S x)->l.Perm l'->gH P bit n l u d=gH P bit n l' u d
 |0,_,_,_,_,_,_=>by simp only [gH]
 |n+1,[],l',u,d,_,p=>by rw [List.nil_perm.1 p]
 |n+1,x::r,[],u,d,_,p=>by have:=p.length_eq;simp at this
 |n+1,x::r,y::q,u,d,hS,p=>by
  have e:=aBk o hS p;simp only [gH];rw [<- e];have sp: ∀b,(qO bit (x::r) (mM P (x::r)) d b).Perm (qO bit (y::q) (mM P (x::r)) d b):=fun b=>p.filter _
  rw [GC o n _ _ (mM P (x::r)) (d+1) (fun z hz=>hS z (iU.1 hz).1) (sp 0),GC o n _ _ (mM P (x::r)) (d+1) (fun z hz=>hS z (iU.1 hz).1) (sp 1)]
theorem N5 {α:Type} [BEq α] [LawfulBEq α]: ∀{a b:List α},a.Nodup->(∀x∈a,x∈b)->a.length<=b.length
 | [],_,_,_=>Nat.zero_le _
 |x::a,b,hd,h=>by
  rw [List.nodup_cons] at hd;have hx:=h x List.mem_cons_self
  have:=N5 (a:=a) (b:=b.erase x) hd.2 (fun y hy=>by
   rw [List.mem_erase_of_ne (fun e=>hd.1 (by rw [<- e];exact hy))]
   exact h y (List.mem_cons_of_mem _ hy))
  rw [List.length_erase_of_mem hx] at this
  have:=List.length_pos_of_mem hx
  rw [List.length_cons];omega
theorem B0 (o:SO P S) (hb: ∀x d,bit x d<2): ∀(n:Nat) (l:List Int) (u:Int) (d:Nat),(∀x∈l,S x)->l.Nodup->l.length<=n->((gH P bit n l u d).map fun e=>e.1).Perm l/\ ∀e∈gH P bit n l u d,e.2=u\/(e.2∈l/\P e.2 e.1)
 |0,l,u,d,_,_,h=>by
  have:l=[]:=List.length_eq_zero_iff.1 (by omega)
  subst this;exact ⟨List.Perm.refl _,fun e he=>by simp only [gH] at he;cases he⟩
 |n+1,[],u,d,_,_,_=>⟨List.Perm.refl _,fun e he=>by simp only [gH] at he;cases he⟩
 |n+1,x::r,u,d,hS,nd,h=>by
  obtain ⟨t1,t2⟩:=tC o (List.cons_ne_nil x r) hS;have ih: ∀b,_:=fun b=>B0 o hb n (qO bit (x::r) (mM P (x::r)) d b) (mM P (x::r)) (d+1) (fun z hz=>hS z (iU.1 hz).1) (vA nd _ d b) (by have:=EO (bit:=bit) t1 d b;omega)
  have pb: ∀b,∀e∈gH P bit n (qO bit (x::r) (mM P (x::r)) d b) (mM P (x::r)) (d+1),e.2∈x::r/\P e.2 e.1:=fun b e he=>by
   have k:e.1∈qO bit (x::r) (mM P (x::r)) d b:=(ih b).1.mem_iff.1 (List.mem_map.2 ⟨e,he,rfl⟩);rcases (ih b).2 e he with q|⟨q1,q2⟩
   · rw [q]
     refine ⟨t1,?_⟩;obtain ⟨k1,k2,_⟩:=iU.1 k;rcases o.tot _ _ (hS _ t1) (hS _ k1) (fun e=>k2 e.symm) with w|w
     · exact w
     · exact absurd w (t2 _ k1)
   · exact ⟨(iU.1 q1).1,q2⟩
  refine ⟨?_,fun e he=>?_⟩
  · simp only [gH,List.map_cons,List.map_append]
    refine (List.Perm.cons _ ((ih 0).1.append (ih 1).1)).trans ?_;refine tB (List.nodup_cons.2 ⟨fun hm=>?_,List.nodup_append.2 ⟨vA nd _ d 0,vA nd _ d 1,fun a ha b hb' e=>?_⟩⟩) (fun y hy=>?_) ?_
    · rcases List.mem_append.1 hm with hm|hm<;>exact (iU.1 hm).2.1 rfl
    · have w1:=(iU.1 ha).2.2
      have w2:=(iU.1 hb').2.2;rw [e,w2] at w1;omega
    · rcases List.mem_cons.1 hy with rfl|hy
      · exact t1
      · rcases List.mem_append.1 hy with hy|hy<;>exact (iU.1 hy).1
    · have sub:(x::r).length<=(mM P (x::r)::(qO bit (x::r) (mM P (x::r)) d 0++qO bit (x::r) (mM P (x::r)) d 1)).length:=N5 nd fun y hy=>by
       by_cases c:y=mM P (x::r)
       · rw [c];exact List.mem_cons_self
       · refine List.mem_cons_of_mem _ (List.mem_append.2 ?_)
         have:=hb y d
         by_cases z:bit y d=0
         · exact .inl (iU.2 ⟨hy,c,z⟩)
         · exact .inr (iU.2 ⟨hy,c,by omega⟩)
      exact sub
  · simp only [gH] at he
    rcases List.mem_cons.1 he with rfl|he
    · exact .inl rfl
    · rcases List.mem_append.1 he with he|he
      · exact .inr (pb 0 e he)
      · exact .inr (pb 1 e he)
end
noncomputable def oN (f:List Pt) (es:List (Int×Int)):Int:=if¬(∀x∈es,fK x) then 8 else if¬es.Nodup then 14 else if¬(∀x∈es,kD f x) then 6 else 0
def rP (c:aO) (f:List Pt) (es:List (Int×Int)) (i:Nat):=
 (es,es,(es.length:Int),(i:Int),c.now.1,c.now.2,c.field.points,c.certs.next_,c.certs.list,c.agenda.slots.uses,c.agenda.slots.used,c.agenda.slots.free,c.agenda.heap,c.agenda.where_,c.due,f,(0:Int),(0:Int),(0:Int))
theorem N6 {c:aO} (ok:bF c) {f:List Pt} (fok:bM f) {es:List (Int×Int)} (hl:es.length<=1000) {r:aO×Int} (hr:oN f es=0->uS c ⟨f⟩ es=some r):
 qF c ⟨f⟩ es=some (if oN f es=0 then r else (dE,oN f es)):=by
 have bd:=ok.bd;have ab:=ok.agd.bd;have sl:=ok.agd.so.fl;have sn:=ok.agd.so.n2;have su:=ok.agd.so.ul;have el:decide ((es.length:Int)<(es.length:Int))=false:=aM (by omega)
 have hc:gX c=some 0:=by rw [nY ok.fit,if_pos ok]
 have hf:gS ⟨f⟩=some 0:=by rw [nV];exact congrArg some (lR.2 fok)
 have tw:wU (aO.mk (c.now.1,c.now.2) (Field.mk c.field.points) (aV.mk c.certs.next_ c.certs.list) (aH.mk (aR.mk c.agenda.slots.uses c.agenda.slots.used c.agenda.slots.free) c.agenda.heap c.agenda.where_) c.due)=some c:=by
  unfold wU;simp only [bE (show c.field.points.length<=1048576 by omega),bE (show c.certs.list.length<=1048576 by omega),bE (show c.due.length<=1048576 by omega),bE (show c.agenda.heap.length<=1048576 by omega),bE (show c.agenda.where_.length<=1048576 by omega),
   bE (show c.agenda.slots.uses.length<=1048576 by omega),bE (show c.agenda.slots.used.length<=1048576 by omega),bE (show c.agenda.slots.free.length<=1048576 by omega),aE]
 have k3: ∀e2:aO×Int,aI eD (rP c f es 0)=some (.done e2)->aI eE (rP c f es 0)=some (if∀i,i<es.length->fK es[i]! then e2 else (dE,8)):=by
  intro e2 h2;refine JK (body:=eE) (fun i=>rP c f es i) es.length (fun i=>fK es[i]!) (r:=(dE,8)) (e:=e2) (fun i hi=>?_) ?_
  · have e1:decide ((i:Int)<(es.length:Int))=true:=aQ (by omega)
    unfold eE rP fK;simp only [e1,cond_true,aD es i hi,aE,aW (show i<1000000000 by omega)]
    generalize es[i]! =x
    by_cases a1:x.1<0
    · rw [aQ a1];exact ⟨fun _=>rfl,fun h=>by omega⟩
    rw [aM a1]
    by_cases a2:x.2<0
    · rw [aQ a2];exact ⟨fun _=>rfl,fun h=>by omega⟩
    rw [aM a2]
    by_cases a3:65535<x.1
    · rw [aQ a3];exact ⟨fun _=>rfl,fun h=>by omega⟩
    rw [aM a3]
    by_cases a4:65535<x.2
    · rw [aQ a4];exact ⟨fun _=>rfl,fun h=>by omega⟩
    rw [aM a4]
    by_cases a5:x.1=x.2
    · rw [fQ a5];exact ⟨fun _=>rfl,fun h=>absurd a5 h.2.2.2.2⟩
    · rw [eG a5];exact ⟨fun h=>absurd ⟨by omega,by omega,by omega,by omega,a5⟩ h,fun _=>rfl⟩
  · unfold eE rP
    simp only [aF,el,cond_false];exact h2
 have k2: ∀e1:aO×Int,aI fA (rP c f es 0)=some (.done (.done e1))->aI eD (rP c f es 0)=some (.done (if∀i,i<es.length->es[i]!∉es.take i then e1 else (dE,14))):=by
  intro e0 h2
  have:=JK (body:=eD) (fun i=>rP c f es i) es.length (fun i=>es[i]!∉es.take i) (r:= .done (dE,14)) (e:= .done e0) (fun i hi=>by
   have e1:decide ((i:Int)<(es.length:Int))=true:=aQ (by omega)
   unfold eD rP;simp only [e1,cond_true,aD es i hi,oL es i (by omega),aE,pA _ _ (show (es.take i).length<=1000000 by rw [List.length_take];omega),aW (show i<1000000000 by omega)]
   by_cases h:es[i]!∈es.take i
   · rw [aQ h];exact ⟨fun _=>rfl,fun k=>absurd h k⟩
   · rw [aM h];exact ⟨fun k=>absurd h k,fun _=>rfl⟩) (by
   unfold eD rP;simp only [aF,el,cond_false];exact h2)
  refine this.trans ?_
  by_cases hb: ∀i,i<es.length->es[i]!∉es.take i
  · rw [if_pos hb,if_pos hb]
  · rw [if_neg hb,if_neg hb]
 have step1: ∀i,i<es.length->(¬kD f es[i]!->fA (rP c f es i)=some (.done (.done (.done (dE,6)))))/\(kD f es[i]!->fA (rP c f es i)=some (.next (rP c f es (i+1)))):=by
  intro i hi;have e1:decide ((i:Int)<(es.length:Int))=true:=aQ (by omega)
  obtain ⟨p,e,a1,a2⟩:=FC fok (es[i]!).1;obtain ⟨q,g,b1,b2⟩:=FC fok (es[i]!).2;unfold fA rP kD;simp only [e1,cond_true,aD es i hi,aE,a1,b1,aW (show i<1000000000 by omega)]
  by_cases h1:oR f (es[i]!).1
  · rw [cA (a2.2 h1)]
    by_cases h2:oR f (es[i]!).2
    · rw [cA (b2.2 h2)]
      exact ⟨fun h=>absurd ⟨h1,h2⟩ h,fun _=>rfl⟩
    · rw [dB (fun h=>h2 (b2.1 h))]
      exact ⟨fun _=>rfl,fun h=>absurd h.2 h2⟩
  · rw [dB (fun h=>h1 (a2.1 h))]
    exact ⟨fun _=>rfl,fun h=>absurd h.1 h1⟩
 have start:qF c ⟨f⟩ es=aI eE (rP c f es 0):=by
  unfold qF;simp only [hc,aE,show ((0:Int) !=0)=false from rfl,cond_false,hf];rfl
 rw [start]
 by_cases h1: ∀x∈es,fK x
 case neg=>
  have er:oN f es=8:=by unfold oN;rw [if_pos h1]
  rw [er,if_neg (by omega)]
  have:=cZ (body:=eE) (fun i=>rP c f es i) es.length (fun i=> ¬fK es[i]!) (r:=(dE,8)) (e:=r)
  have k3':=k3;rw [HT (P:=fK)] at h1;obtain ⟨i,h⟩:=Classical.not_forall.1 h1;obtain ⟨hi,hx⟩:=Classical.not_imp.1 h;obtain ⟨m,m1,m2,m3⟩:=J3 (c:=fun i=> ¬fK es[i]!) ⟨i,hi,hx⟩
  have go: ∀j,j<es.length->(¬fK es[j]!->eE (rP c f es j)=some (.done (dE,8)))/\(fK es[j]!->eE (rP c f es j)=some (.next (rP c f es (j+1)))):=by
   intro j hj;have e1:decide ((j:Int)<(es.length:Int))=true:=aQ (by omega)
   unfold eE rP fK;simp only [e1,cond_true,aD es j hj,aE,aW (show j<1000000000 by omega)]
   generalize es[j]! =x
   by_cases a1:x.1<0
   · rw [aQ a1];exact ⟨fun _=>rfl,fun h=>by omega⟩
   rw [aM a1]
   by_cases a2:x.2<0
   · rw [aQ a2];exact ⟨fun _=>rfl,fun h=>by omega⟩
   rw [aM a2]
   by_cases a3:65535<x.1
   · rw [aQ a3];exact ⟨fun _=>rfl,fun h=>by omega⟩
   rw [aM a3]
   by_cases a4:65535<x.2
   · rw [aQ a4];exact ⟨fun _=>rfl,fun h=>by omega⟩
   rw [aM a4]
   by_cases a5:x.1=x.2
   · rw [fQ a5];exact ⟨fun _=>rfl,fun h=>absurd a5 h.2.2.2.2⟩
   · rw [eG a5];exact ⟨fun h=>absurd ⟨by omega,by omega,by omega,by omega,a5⟩ h,fun _=>rfl⟩
  rw [bP (body:=eE) (fun i=>rP c f es i) m fun j hj=>(go j (by omega)).2 (Classical.not_not.1 (m3 j hj))]
  exact aL ((go m m1).1 m2)
 have h1':=(HT (P:=fK)).1 h1
 by_cases h2:es.Nodup
 case neg=>
  have er:oN f es=14:=by unfold oN;rw [if_neg (Classical.not_not.2 h1),if_pos h2]
  rw [er,if_neg (by omega)]
  have h2':=h2;rw [N3] at h2';obtain ⟨i,h⟩:=Classical.not_forall.1 h2';obtain ⟨hi,hx⟩:=Classical.not_imp.1 h;obtain ⟨m,m1,m2,m3⟩:=J3 (c:=fun i=> ¬es[i]!∉es.take i) ⟨i,hi,hx⟩
  have go: ∀j,j<es.length->(es[j]!∈es.take j->eD (rP c f es j)=some (.done (.done (dE,14))))/\(es[j]!∉es.take j->eD (rP c f es j)=some (.next (rP c f es (j+1)))):=by
   intro j hj;have e1:decide ((j:Int)<(es.length:Int))=true:=aQ (by omega)
   unfold eD rP;simp only [e1,cond_true,aD es j hj,oL es j (by omega),aE,pA _ _ (show (es.take j).length<=1000000 by rw [List.length_take];omega),aW (show j<1000000000 by omega)]
   by_cases h:es[j]!∈es.take j
   · rw [aQ h];exact ⟨fun _=>rfl,fun k=>absurd h k⟩
   · rw [aM h];exact ⟨fun k=>absurd k h,fun _=>rfl⟩
  have l2:aI eD (rP c f es 0)=some (.done (dE,14)):=by
   rw [bP (body:=eD) (fun i=>rP c f es i) m fun j hj=>(go j (by omega)).2 (Classical.not_not.1 (m3 j hj))]
   exact aL ((go m m1).1 (Classical.not_not.1 m2))
  rw [k3 _ l2,if_pos h1']
 have h2':=N3.1 h2
 by_cases h3: ∀x∈es,kD f x
 case neg=>
  have er:oN f es=6:=by unfold oN;rw [if_neg (Classical.not_not.2 h1),if_neg (Classical.not_not.2 h2),if_pos h3]
  rw [er,if_neg (by omega)]
  have h3':=h3;rw [HT (P:=kD f)] at h3';obtain ⟨i,h⟩:=Classical.not_forall.1 h3';obtain ⟨hi,hx⟩:=Classical.not_imp.1 h;obtain ⟨m,m1,m2,m3⟩:=J3 (c:=fun i=> ¬kD f es[i]!) ⟨i,hi,hx⟩
  have l1:aI fA (rP c f es 0)=some (.done (.done (dE,6))):=by
   rw [bP (body:=fA) (fun i=>rP c f es i) m fun j hj=>(step1 j (by omega)).2 (Classical.not_not.1 (m3 j hj))]
   exact aL ((step1 m m1).1 m2)
  rw [k3 _ (k2 _ l1),if_pos h1',if_pos h2']
 have h3':=(HT (P:=kD f)).1 h3;have er:oN f es=0:=by unfold oN;rw [if_neg (Classical.not_not.2 h1),if_neg (Classical.not_not.2 h2),if_neg (Classical.not_not.2 h3)]
 rw [er,if_pos rfl];have l1:aI fA (rP c f es 0)=some (.done (.done r)):=by
  rw [bP (body:=fA) (fun i=>rP c f es i) es.length fun j hj=>(step1 j hj).2 (h3' j hj)]
  refine aL ?_;unfold fA rP;simp only [el,cond_false,tw,aE,hr er]
 rw [k3 _ (k2 _ l1),if_pos h1',if_pos h2']
theorem tk {l:List Int} {m:Nat} {x:Int} (h:l.length=m):(l++[x]).take m=l:=by rw [<- h,List.take_left]
section
variable {k : E5} {f : List Pt} {m n0 : Nat} {x : Int}
end
section
variable {k : E5} {P : Pt} {f : List Pt} {m : Nat}
end
end Go.Proofs.YtbncnimfgdelaaaGreat
namespace Go.Proofs.YtbncnimfgdelaaaGreat
abbrev Nd:=Int×Int×Int
structure VM (P:Nat->Nat->Prop) (a b i:Nat):Prop where
 lo:a<=i
 hi:i<b
 top: ∀j,a<=j->j<b->j≠i->P i j
inductive rX (P:Nat->Nat->Prop) (N:List Nd):Nat->Nat->Int->Prop
 |nil {a b:Nat} (h:b<=a):rX P N a b (-1)
 |node {a b i:Nat} (h:VM P a b i) (l:rX P N a i (N[i]!).2.1) (r:rX P N (i+1) b (N[i]!).2.2):rX P N a b (i:Int)
structure aKl (P:Nat->Nat->Prop) (n:Nat):Prop where
 tr: ∀i j k,i<n->j<n->k<n->P i j->P j k->P i k
 asy: ∀i j,i<n->j<n->P i j-> ¬P j i
 tot: ∀i j,i<n->j<n->i≠j-> ¬P i j->P j i
theorem VM.one {P:Nat->Nat->Prop} {n a b i j:Nat} (o:aKl P n) (hb:b<=n) (h:VM P a b i) (k:VM P a b j):i=j:=by
 refine Classical.byContradiction fun hne=>?_
 have:=h.hi;have:=k.hi
 exact o.asy i j (by omega) (by omega) (h.top j k.lo k.hi (fun e=>hne e.symm)) (k.top i h.lo h.hi hne)
theorem rX.link {P:Nat->Nat->Prop} {N:List Nd} {a b:Nat} {r:Int} (h:rX P N a b r):(b<=a/\r= -1)\/(∃i:Nat,r=(i:Int)/\a<=i/\i<b):=by
 cases h with
 |nil h=>exact .inl ⟨h,rfl⟩
 |node h l r=>exact .inr ⟨_,rfl,h.lo,h.hi⟩
theorem rX.unique {P:Nat->Nat->Prop} {n:Nat} (o:aKl P n) {N N':List Nd} {a b:Nat} {r:Int} (h:rX P N a b r): ∀{r':Int},b<=n->rX P N' a b r'->r=r'/\ ∀k,a<=k->k<b->(N[k]!).2=(N'[k]!).2:=by
 induction h with
 |nil h=>
  intro r' hb h';cases h' with
  |nil _=>exact ⟨rfl,fun k h1 h2=>by omega⟩
  |node t _ _=>have:=t.lo;have:=t.hi;omega
 | @node a b i h l r ihl ihr=>
  intro r' hb h';have lo:=h.lo;have hi:=h.hi;cases h' with
  |nil q=>omega
  | @node _ _ j t l' r'=>
   have e:=h.one o hb t;subst e;obtain ⟨e1,f1⟩:=ihl (by omega) l'
   obtain ⟨e2,f2⟩:=ihr hb r';refine ⟨rfl,fun k h1 h2=>?_⟩
   rcases Nat.lt_trichotomy k i with q|q|q
   · exact f1 k h1 q
   · subst q;exact Prod.ext e1 e2
   · exact f2 k (by omega) h2
theorem rX.other {P Q:Nat->Nat->Prop} {n:Nat} (o:aKl Q n) {N:List Nd} {a b:Nat} {r:Int} (h:rX P N a b r):b<=n->(∀k j:Nat,a<=k->k<b->a<=j->j<b->((N[k]!).2.1=(j:Int)\/(N[k]!).2.2=(j:Int))->Q k j)->rX Q N a b r:=by
 induction h with
 |nil h=>exact fun _ _=> .nil h
 | @node a b i h l r ihl ihr=>
  intro hb q;have lo:=h.lo;have hi:=h.hi;have tl:=ihl (by omega) fun k j h1 h2 h3 h4=>q k j h1 (by omega) h3 (by omega)
  have tr:=ihr hb fun k j h1 h2 h3 h4=>q k j (by omega) h2 (by omega) h4
  refine .node ⟨lo,hi,fun j h1 h2 hne=>?_⟩ tl tr
  rcases Nat.lt_or_ge j i with hj|hj
  · generalize hr:(N[i]!).2.1=s at tl
    cases tl with
    |nil q=>omega
    | @node _ _ m t _ _=>
     have t1:=t.lo;have t2:=t.hi;have qm:=q i m lo hi t1 (by omega) (.inl hr)
     by_cases e:j=m
     · rw [e];exact qm
     · exact o.tr i m j (by omega) (by omega) (by omega) qm (t.top j h1 hj e)
  · generalize hr:(N[i]!).2.2=s at tr
    cases tr with
    |nil q=>omega
    | @node _ _ m t _ _=>
     have t1:=t.lo;have t2:=t.hi;have qm:=q i m lo hi (by omega) t2 (.inr hr)
     by_cases e:j=m
     · rw [e];exact qm
     · exact o.tr i m j (by omega) (by omega) (by omega) qm (t.top j (by omega) h2 e)
theorem rX.kids {P:Nat->Nat->Prop} {N:List Nd} {a b:Nat} {r:Int} (h:rX P N a b r): ∀k,a<=k->k<b-> ∀c:Int,((N[k]!).2.1=c\/(N[k]!).2.2=c)->c= -1\/ ∃j:Nat,c=(j:Int)/\a<=j/\j<b/\j≠k/\P k j/\r≠c:=by
 induction h with
 |nil h=>intro k h1 h2;omega
 | @node a b i h l r ihl ihr=>
  have lo:=h.lo;have hi:=h.hi;intro k h1 h2 c hc;rcases Nat.lt_trichotomy k i with q|q|q
  · rcases ihl k h1 q c hc with e|⟨j,e,j1,j2,j3,j4,_⟩
    · exact .inl e
    · exact .inr ⟨j,e,j1,by omega,j3,j4,by rw [e];omega⟩
  · subst q
    rcases hc with hc|hc
    · rcases l.link with ⟨_,e⟩|⟨j,e,j1,j2⟩
      · exact .inl (hc▸e)
      · exact .inr ⟨j,hc▸e,j1,by omega,by omega,h.top j j1 (by omega) (by omega),by rw [<- hc,e];omega⟩
    · rcases r.link with ⟨_,e⟩|⟨j,e,j1,j2⟩
      · exact .inl (hc▸e)
      · exact .inr ⟨j,hc▸e,by omega,j2,by omega,h.top j (by omega) j2 (by omega),by rw [<- hc,e];omega⟩
  · rcases ihr k (by omega) h2 c hc with e|⟨j,e,j1,j2,j3,j4,_⟩
    · exact .inl e
    · exact .inr ⟨j,e,by omega,j2,j3,j4,by rw [e];omega⟩
theorem rX.up {P:Nat->Nat->Prop} {N:List Nd} {a b:Nat} {r:Int} (h:rX P N a b r): ∀k:Nat,a<=k->k<b->(k:Int)≠r-> ∃j,a<=j/\j<b/\((N[j]!).2.1=(k:Int)\/(N[j]!).2.2=(k:Int))/\ ∀m,a<=m->m<b->((N[m]!).2.1=(k:Int)\/(N[m]!).2.2=(k:Int))->m=j:=by
 induction h with
 |nil h=>intro k h1 h2;omega
 | @node a b i h l r ihl ihr=>
  have lo:=h.lo;have hi:=h.hi;have lk:=l.kids;have rk:=r.kids;intro k h1 h2 hne;have hki:k≠i:=fun e=>hne (by rw [e])
  rcases Nat.lt_or_ge k i with q|q
  · by_cases er:(k:Int)=(N[i]!).2.1
    · refine ⟨i,lo,hi,.inl er.symm,fun m m1 m2 hm=>?_⟩
      rcases Nat.lt_trichotomy m i with w|w|w
      · rcases lk m m1 w _ hm with e|⟨j,e,_,_,_,_,hr⟩
        · omega
        · exact absurd er.symm hr
      · exact w
      · rcases rk m (by omega) m2 _ hm with e|⟨j,e,j1,_⟩<;>omega
    · obtain ⟨j,j1,j2,j3,j4⟩:=ihl k h1 q er
      refine ⟨j,j1,by omega,j3,fun m m1 m2 hm=>?_⟩
      rcases Nat.lt_trichotomy m i with w|w|w
      · exact j4 m m1 w hm
      · subst w
        rcases hm with hm|hm
        · exact absurd hm.symm er
        · rcases r.link with ⟨_,e⟩|⟨p,e,p1,p2⟩<;>omega
      · rcases rk m (by omega) m2 _ hm with e|⟨p,e,p1,_⟩<;>omega
  · by_cases er:(k:Int)=(N[i]!).2.2
    · refine ⟨i,lo,hi,.inr er.symm,fun m m1 m2 hm=>?_⟩
      rcases Nat.lt_trichotomy m i with w|w|w
      · rcases lk m m1 w _ hm with e|⟨j,e,_,j2,_⟩<;>omega
      · exact w
      · rcases rk m (by omega) m2 _ hm with e|⟨j,e,_,_,_,_,hr⟩
        · omega
        · exact absurd er.symm hr
    · obtain ⟨j,j1,j2,j3,j4⟩:=ihr k (by omega) h2 er
      refine ⟨j,by omega,j2,j3,fun m m1 m2 hm=>?_⟩
      rcases Nat.lt_trichotomy m i with w|w|w
      · rcases lk m m1 w _ hm with e|⟨p,e,_,p2,_⟩<;>omega
      · subst w
        rcases hm with hm|hm
        · rcases l.link with ⟨_,e⟩|⟨p,e,p1,p2⟩<;>omega
        · exact absurd hm.symm er
      · exact j4 m (by omega) m2 hm
inductive N7 (P:Nat->Nat->Prop) (N:List Nd):Nat->Nat->Int->List Nat->Prop
 |nil {a b:Nat} (h:b<=a):N7 P N a b (-1) []
 |cons {a b k:Nat} {es:List Nat} (h:VM P a b k) (l:rX P N a k (N[k]!).2.1) (r:N7 P N (k+1) b (N[k]!).2.2 es):N7 P N a b (k:Int) (k::es)
theorem N7.tree {P:Nat->Nat->Prop} {N:List Nd} {a b:Nat} {r:Int} {es:List Nat} (h:N7 P N a b r es):rX P N a b r:=by
 induction h with
 |nil h=>exact .nil h
 |cons h l r ih=>exact .node h l ih
theorem N7.mem {P:Nat->Nat->Prop} {N:List Nd} {a b:Nat} {r:Int} {es:List Nat} (h:N7 P N a b r es): ∀e∈es,a<=e/\e<b:=by
 induction h with
 |nil h=>intro e he;cases he
 |cons h l r ih=>
  intro e he;have lo:=h.lo;have hi:=h.hi;rcases List.mem_cons.1 he with rfl|he
  · exact ⟨lo,hi⟩
  · have:=ih e he;omega
end Go.Proofs.YtbncnimfgdelaaaGreat
namespace Go.Proofs.YtbncnimfgdelaaaGreat
open Go.Vm Classical
def V0 (f:List Pt) (t:Int×Int) (i j:Nat):Prop:=cT f[i]! f[j]! t
theorem qP {p q:Pt} {t:Int×Int} (h:cT p q t): ¬cT q p t:=by
 unfold cT at*;rw [R7] at*;generalize p.2.1*t.2+p.2.2*t.1=a at*;generalize q.2.1*t.2+q.2.2*t.1=b at*;omega
theorem HU {f:List Pt} (h:fB f) (t:Int×Int):aKl (V0 f t) f.length where
 tr:=fun _ _ _ _ _ _ h1 h2=>KF h1 h2
 asy:=fun _ _ _ _ h=>qP h
 tot:=fun _ _ hi hj hne hn=>DP t (fun e=>hne (xD h hi hj e)) hn
structure DQ (f:List Pt) (t:Int×Int) (N:List Nd) (r:Int):Prop where
 len:N.length=f.length
 ids: ∀k,k<f.length->(N[k]!).1=(f[k]!).1
 tree:rX (V0 f t) N 0 f.length r
theorem DQ.same {f:List Pt} (h:fB f) {t:Int×Int} {N N':List Nd} {r r':Int} (a:DQ f t N r) (b:DQ f t N' r'):N=N'/\r=r':=by
 obtain ⟨e1,e2⟩:=a.tree.unique (HU h t) (Nat.le_refl _) b.tree;refine ⟨rR (by rw [a.len,b.len]) fun k hk=>?_,e1⟩
 have hk:k<f.length:=by rw [<- a.len];exact hk
 exact Prod.ext (by rw [a.ids k hk,b.ids k hk]) (e2 k (Nat.zero_le _) hk)
def Below (N:List Nd) (k j:Nat):Prop:=(N[j]!).2.1=(k:Int)\/(N[j]!).2.2=(k:Int)
noncomputable def KS (N:List Nd) (k:Nat):Nat:=if h: ∃j,j<N.length/\Below N k j then h.choose else N.length
noncomputable def aSx (N:List Nd) (k:Nat):List (Int×Int):=if KS N k<N.length then [((N[k]!).1,(N[KS N k]!).1)] else []
noncomputable def aDz (N:List Nd):Nat->List (Int×Int)
 |0=>[]
 |k+1=>aDz N k++aSx N k
section
variable {f : List Pt} {t : Int × Int} {N : List Nd} {r : Int}
theorem DQ.par (h:DQ f t N r) {k:Nat} (hk:k<f.length):((k:Int)=r->KS N k=N.length)/\((k:Int)≠r->KS N k<N.length/\Below N k (KS N k)/\KS N k≠k/\V0 f t (KS N k) k)/\ ∀m,m<N.length->Below N k m->m=KS N k:=by
 have ln:=h.len
 by_cases hr:(k:Int)=r
 · have none: ¬ ∃j,j<N.length/\Below N k j:=by
    rintro ⟨j,hj,hb⟩;rcases h.tree.kids j (Nat.zero_le _) (by omega) (k:Int) hb with e|⟨_,_,_,_,_,_,e⟩
    · omega
    · exact e hr.symm
   have e:KS N k=N.length:=by unfold KS;rw [dif_neg none]
   exact ⟨fun _=>e,fun q=>absurd hr q,fun m hm hb=>absurd ⟨m,hm,hb⟩ none⟩
 · obtain ⟨j,_,j2,j3,j4⟩:=h.tree.up k (Nat.zero_le _) hk hr
   have ex: ∃j,j<N.length/\Below N k j:=⟨j,by omega,j3⟩
   have e:KS N k=j:=by
    unfold KS;rw [dif_pos ex]
    have:=ex.choose_spec
    exact j4 _ (Nat.zero_le _) (by omega) this.2
   refine ⟨fun q=>absurd q hr,fun _=>?_,fun m hm hb=>by rw [e];exact j4 m (Nat.zero_le _) (by omega) hb⟩
   rw [e];refine ⟨by omega,j3,?_,?_⟩
   · rcases h.tree.kids j (Nat.zero_le _) j2 (k:Int) j3 with q|⟨i,q,_,_,q2,_⟩
     · omega
     · intro w;omega
   · rcases h.tree.kids j (Nat.zero_le _) j2 (k:Int) j3 with q|⟨i,q,_,_,_,q2,_⟩
     · omega
     · have:i=k:=by omega
       rw [<- this];exact q2
end
def o1 (f:List Pt) (t:Int×Int) (e c:Nat) (i:Nat) (root:Int) (N:List Nd) (E:List Int) (left:Int):=
 (e,c,(i:Int),f,(f.length:Int),(i:Int),f,t.1,t.2,(0:Int),root,N,E,(f[i]!).1,(f[i]!).2.1,(f[i]!).2.2,(f[i]!).1,left,(-1:Int))
section
variable {f : List Pt} {t : Int × Int} {N : List Nd} {r : Int}
theorem DQ.link (h:DQ f t N r) {j:Nat} (hj:j<f.length) {c:Int} (hc:(N[j]!).2.1=c\/(N[j]!).2.2=c):c= -1\/(0<=c/\c<N.length):=by
 have ln:=h.len;rcases h.tree.kids j (Nat.zero_le _) hj c hc with e|⟨k,e,_,k2,_⟩
 · exact .inl e
 · exact .inr ⟨by omega,by omega⟩
end
structure aDA (k:I9):Prop where
 clk:bF k.clock
 tree:DQ k.clock.field.points k.clock.now k.tree.nodes k.tree.root
 cert:(k.clock.certs.list.map fun x=>x.2).Perm (aDz k.tree.nodes k.clock.field.points.length)
structure aP3 (k:I9):Prop where
 c:P7 k.clock
 n:k.tree.nodes.length<=1000
theorem N8 {α:Type} [BEq α] [LawfulBEq α]: ∀{a b:List α},a.Nodup->(∀x∈a,x∈b)->a.length<=b.length
 | [],_,_,_=>Nat.zero_le _
 |x::a,b,hd,h=>by
  rw [List.nodup_cons] at hd;have hx:=h x List.mem_cons_self
  have:=N8 (a:=a) (b:=b.erase x) hd.2 (fun y hy=>by
   rw [List.mem_erase_of_ne (fun e=>hd.1 (by rw [<- e];exact hy))]
   exact h y (List.mem_cons_of_mem _ hy))
  rw [List.length_erase_of_mem hx] at this
  have:=List.length_pos_of_mem hx
  rw [List.length_cons];omega
theorem VN {α:Type} [BEq α] [LawfulBEq α] {a b:List α} (ha:a.Nodup) (hb:b.Nodup) (h1: ∀x∈a,x∈b) (h2: ∀x∈b,x∈a):a.Perm b:=tB ha h1 (N8 hb h2)
structure YA (R:I9) (F:List Pt) (t:Int×Int):Prop where
 ok:aDA R
 fld:R.clock.field.points=F
 now:R.clock.now=t
theorem YA.short {R:I9} {F:List Pt} {t:Int×Int} (h:YA R F t):aP3 R:=by
 have:=h.ok.clk.fld.1
 refine ⟨h.ok.clk.short,?_⟩
 have:=h.ok.tree.len
 omega
theorem YA.nums {R:I9} {F:List Pt} {t:Int×Int} (h:YA R F t):rW R.clock:=h.ok.clk.fit
theorem YA.same {R S:I9} {F:List Pt} {t:Int×Int} (h:YA R F t) (k:YA S F t):R.tree=S.tree:=by
 have a:=h.ok.tree;rw [h.fld,h.now] at a;have b:=k.ok.tree;rw [k.fld,k.now] at b;obtain ⟨e1,e2⟩:=a.same (by rw [<- h.fld];exact h.ok.clk.fld.2.2) b
 obtain ⟨_,⟨r,N⟩⟩:=R;obtain ⟨_,⟨r',N'⟩⟩:=S;simp only at e1 e2;subst e1 e2;rfl
theorem AN {f:List Pt} (hs:fB f) {q:Pt} (h:q∈f):eO f q.1=q:=by
 obtain ⟨i,hi,rfl⟩:=aY.1 h;exact oM hs hi rfl
theorem HV {f:List Pt} (hs:fB f) {x:Int} (h:oR f x):eO f x∈f/\(eO f x).1=x:=by
 obtain ⟨i,hi,rfl⟩:=h;rw [AN hs (bB hi)];exact ⟨bB hi,rfl⟩
theorem yR {f:List Pt} (hs:fB f) (t:Int×Int):SO (fun a b=>cT (eO f a) (eO f b) t) (oR f) where
 irr:=fun a _ h=>qP h h
 tr:=fun _ _ _ _ _ _ h k=>KF h k
 tot:=fun a b ha hb hne=>by
  rcases Classical.em (cT (eO f a) (eO f b) t) with h|h
  · exact .inl h
  · exact .inr (DP t (by rw [(HV hs ha).2,(HV hs hb).2];exact hne) h)
abbrev fL (f:List Pt) (t:Int×Int) (a b:Int):Prop:=cT (eO f a) (eO f b) t
theorem P8 {f:List Pt} (hs:fB f) {t:Int×Int} {l:List Int} (hp: ∀x∈l,oR f x) (nd:l.Nodup):(∀e∈GA l,cT (eO f e.2) (eO f e.1) t)↔Hp (fL f t) l:=by
 constructor
 · intro h j h1 h2 c
   have hm:(l[j]!,l[par j]!)∈GA l:=by
    refine aY.2 ⟨j-1,by rw [GB];omega,?_⟩
    rw [KE l (show j-1<l.length-1 by omega),show j-1+1=j by omega]
   exact qP c (h _ hm)
 · intro h e he
   obtain ⟨i,hi,rfl⟩:=aY.1 he;rw [GB] at hi;rw [KE l hi]
   have:=h (i+1) (by omega) (by omega)
   have pe:par (i+1)=i / 2:=by simp only [par];omega
   rw [pe] at this;refine DP t ?_ this;rw [(HV hs (hp _ (bB (by omega)))).2,(HV hs (hp _ (bB (by omega)))).2]
   exact fun e=>eW.1 nd (i / 2) (i+1) (by omega) (by omega) e.symm
structure aT8 (R:E5) (F:List Pt) (t:Int×Int):Prop where
 ok:xI R
 fld:R.clock.field.points=F
 now:R.clock.now=t
theorem xI.len {k:E5} (h:xI k):k.heap.length=k.clock.field.points.length:=by rw [<- h.perm.length_eq];exact List.length_map ..
theorem xI.bd {k:E5} (h:xI k):k.heap.length<=64:=by have:=h.len;have:=h.clk.fld.1;omega
theorem xI.has {k:E5} (h:xI k): ∀x∈k.heap,oR k.clock.field.points x:=fun _ hx=>iP.1 (h.perm.mem_iff.2 hx)
theorem xI.nd {k:E5} (h:xI k):k.heap.Nodup:=h.perm.nodup_iff.1 (lI h.clk.fld.2.2)
theorem xI.hp {k:E5} (h:xI k):Hp (fL k.clock.field.points k.clock.now) k.heap:=(P8 h.clk.fld.2.2 h.has h.nd).1 h.lead
theorem HS.heap {c:aO} {f:List Pt} (fok:bM f) {l:List Int} (pm:(iB f).Perm l) {R:E5} (e:R.heap=l) (q:HS c f (GA l) R.clock) (h:Hp (fL f c.now) l):aT8 R f c.now:=by
 have nd:=pm.nodup_iff.1 (lI fok.2.2);refine ⟨⟨q.ok,by rw [q.fld,e];exact pm,?_,?_⟩,q.fld,q.now⟩
 · rw [e]
   exact VN (DO q.ok.crt) (VJ nd) (fun x hx=>by obtain ⟨y,hy,rfl⟩:=List.mem_map.1 hx;exact q.sub y hy) (fun x hx=>AM.1 (q.has x hx))
 · rw [e,q.fld,q.now]
   exact (P8 fok.2.2 (fun x hx=>iP.1 (pm.mem_iff.2 hx)) nd).2 h
theorem VO {α:Type} (z:α): ∀(l:List (Int×α)) (k:Int) (a:α) (j:Int),kF z (mZ l k a) j=if j=k then a else kF z l j
 | [],k,a,j=>by
  simp only [mZ,kF]
  by_cases h:j=k
  · rw [if_pos h,fQ h];rfl
  · rw [if_neg h,eG h];rfl
 |p::l,k,a,j=>by
  simp only [mZ]
  by_cases h:k=p.1
  · rw [fQ h,cond_true]
    simp only [kF]
    by_cases c:j=k
    · rw [if_pos c,fQ c];rfl
    · rw [if_neg c,eG c,cond_false,eG (by rw [<- h];exact c),cond_false]
  · rw [eG h,cond_false]
    simp only [kF];rw [VO z l k a j]
    by_cases c:j=p.1
    · rw [fQ c,cond_true,cond_true,if_neg (by rw [c];exact fun e=>h e.symm)]
    · rw [eG c,cond_false,cond_false]
def jW (m:List (Int×Int)) (l:List (Int×Int)):List (Int×Int):=l.foldl (fun m e=>mZ m e.1 e.2) m
theorem KG (m l l':List (Int×Int)):jW m (l++l')=jW (jW m l) l':=List.foldl_append ..
theorem VP: ∀(l m:List (Int×Int)) (j:Int),(l.map fun e=>e.1).Nodup->kF 0 (jW m l) j=if j∈l.map fun e=>e.1 then kF 0 l j else kF 0 m j
 | [],m,j,_=>by simp only [jW,List.foldl_nil,List.map_nil,List.not_mem_nil,if_false]
 |e::l,m,j,nd=>by
  obtain ⟨h1,h2⟩:=List.nodup_cons.1 (by simpa using nd:(e.1::l.map fun e=>e.1).Nodup)
  show kF 0 (jW (mZ m e.1 e.2) l) j=_;rw [VP l _ j h2,VO];simp only [List.map_cons,List.mem_cons,kF]
  by_cases c:j=e.1
  · rw [if_neg (by rw [c];exact h1),if_pos c,if_pos (.inl c),fQ c];rfl
  · rw [if_neg c,eG c,cond_false]
    by_cases d:j∈l.map fun e=>e.1
    · rw [if_pos d,if_pos (.inr d)]
    · rw [if_neg d,if_neg (fun h=>h.elim c d)]
theorem HW: ∀{l:List (Int×Int)} {j v:Int},(l.map fun e=>e.1).Nodup->(j,v)∈l->kF 0 l j=v
 |e::l,j,v,nd,h=>by
  obtain ⟨h1,h2⟩:=List.nodup_cons.1 (by simpa using nd:(e.1::l.map fun e=>e.1).Nodup)
  simp only [kF];rcases List.mem_cons.1 h with rfl|h
  · rw [fQ rfl];rfl
  · have:j≠e.1:=fun c=>h1 (by rw [<- c];exact List.mem_map.2 ⟨_,h,rfl⟩)
    rw [eG this,cond_false];exact HW h2 h
def kI (x:Int) (d:Nat):Nat:=x.toNat / 2^(min d 64)%2
theorem HX (x:Int) (d:Nat):kI x d<2:=Nat.mod_lt _ (by omega)
noncomputable def mX (f:List Pt) (t:Int×Int):List (Int×Int):=gH (fL f t) kI f.length (iB f) (-1) 0
noncomputable def sA (f:List Pt) (t:Int×Int):List Int:=f.map fun p=>kF 0 (mX f t) p.1
def dS (f:List Pt) (U:List Int):Nat->List (Int×Int)
 |0=>[]
 |i+1=>dS f U i++(if 0<=U[i]! then [((f[i]!).1,U[i]!)] else [])
section
variable {f : List Pt} {t : Int × Int}
theorem DR (fok:bM f):((mX f t).map fun e=>e.1).Perm (iB f)/\ ∀e∈mX f t,e.2= -1\/(e.2∈iB f/\fL f t e.2 e.1):=
 B0 (yR fok.2.2 t) HX f.length (iB f) (-1) 0 (fun x hx=>iP.1 hx) (lI fok.2.2) (by unfold iB;rw [List.length_map];exact Nat.le_refl _)
theorem yS (f:List Pt) (t:Int×Int):(sA f t).length=f.length:=List.length_map ..
theorem R8 {i:Nat} (hi:i<f.length):(sA f t)[i]! =kF 0 (mX f t) (f[i]!).1:=by
 unfold sA;rw [getElem!_pos _ i (by rw [List.length_map];exact hi),List.getElem_map,getElem!_pos f i hi]
theorem aAj (fok:bM f) {i:Nat} (hi:i<f.length):((f[i]!).1,(sA f t)[i]!)∈mX f t:=by
 obtain ⟨h1,_⟩:=DR (t:=t) fok;obtain ⟨e,he,h2⟩:=List.mem_map.1 (h1.mem_iff.2 (iP.2 ⟨i,hi,rfl⟩));have nd:=h1.nodup_iff.2 (lI fok.2.2);rw [R8 hi,<- h2,HW nd (show (e.1,e.2)∈mX f t from he)];exact he
theorem aP4 (fok:bM f) {i:Nat} (hi:i<f.length):(sA f t)[i]! = -1\/(0<=(sA f t)[i]!/\oR f (sA f t)[i]!/\(sA f t)[i]!≠(f[i]!).1/\cT (eO f (sA f t)[i]!) f[i]! t):=by
 rcases (DR (t:=t) fok).2 _ (aAj fok hi) with h|⟨h1,h2⟩
 · exact .inl h
 · have hp:=iP.1 h1
   have hp:oR f (sA f t)[i]!:=hp;have pk:=hO fok hp;have h2:cT (eO f (sA f t)[i]!) (eO f (f[i]!).1) t:=h2;rw [oM fok.2.2 hi rfl] at h2;refine .inr ⟨?_,hp,fun e=>?_,h2⟩
   · have:=pk.1.1
     rw [pk.2] at this;exact this
   · have:eO f (sA f t)[i]! =f[i]!:=by rw [e,oM fok.2.2 hi rfl]
     rw [this] at h2;exact qP h2 h2
theorem GD {U:List Int}: ∀{n:Nat} {e:Int×Int},e∈dS f U n↔ ∃i,i<n/\0<=U[i]!/\e=((f[i]!).1,U[i]!)
 |0,e=>by
  constructor
  · intro h;cases h
  · rintro ⟨i,h,_⟩;omega
 |n+1,e=>by
  rw [dS,List.mem_append,GD];constructor
  · rintro (⟨i,h1,h2,h3⟩|h)
    · exact ⟨i,by omega,h2,h3⟩
    · split at h
      · rename_i hc;exact ⟨n,by omega,hc,List.mem_singleton.1 h⟩
      · cases h
  · rintro ⟨i,h1,h2,h3⟩
    by_cases c:i=n
    · subst c;rw [if_pos h2];exact .inr (List.mem_singleton.2 h3)
    · exact .inl ⟨i,by omega,h2,h3⟩
theorem pT (U:List Int): ∀n,(dS f U n).length<=n
 |0=>Nat.le_refl _
 |n+1=>by
  have:=pT U n
  rw [dS,List.length_append];split
  · rw [List.length_singleton];omega
  · rw [List.length_nil];omega
theorem HY (hs:fB f) (U:List Int): ∀n,n<=f.length->(dS f U n).Nodup
 |0,_=>List.nodup_nil
 |n+1,h=>by
  rw [dS];refine List.nodup_append.2 ⟨HY hs U n (by omega),by split<;>simp,fun a ha b hb e=>?_⟩
  obtain ⟨i,h1,_,h3⟩:=GD.1 ha;split at hb
  · have hb:=List.mem_singleton.1 hb
    rw [hb] at e;rw [h3] at e
    have:(f[i]!).1=(f[n]!).1:=by injection e
    have:=sW hs h1 h
    omega
  · cases hb
theorem JN (fok:bM f):K8 f (dS f (sA f t) f.length)/\(dS f (sA f t) f.length).Nodup/\ ∀e∈dS f (sA f t) f.length,cT (eO f e.2) (eO f e.1) t:=by
 have f1:=fok.1;have el:=pT (f:=f) (sA f t) f.length;have key: ∀e∈dS f (sA f t) f.length,kD f e/\e.1≠e.2/\cT (eO f e.2) (eO f e.1) t:=fun e he=>by
  obtain ⟨i,hi,h0,rfl⟩:=GD.1 he;rcases aP4 (t:=t) fok hi with h|⟨_,h2,h3,h4⟩
  · omega
  · exact ⟨⟨⟨i,hi,rfl⟩,h2⟩,fun e=>h3 e.symm,by rw [oM fok.2.2 hi rfl];exact h4⟩
 refine ⟨⟨by omega,fun e he=>?_,fun e he=>(key e he).1⟩,HY fok.2.2 _ _ (Nat.le_refl _),fun e he=>(key e he).2.2⟩
 obtain ⟨hb,ne,_⟩:=key e he;obtain ⟨⟨p1,p2⟩,q1,q2⟩:=And.intro (hO fok hb.1) (hO fok hb.2);unfold iH at p1 q1;unfold fK;omega
theorem aAk (fok:bM f) {i:Nat} (hi:i<f.length):(sA f t)[i]! = -1↔ ∀q∈f,¬cT q f[i]! t:=by
 have so:=yR fok.2.2 t;have hS: ∀x∈iB f,oR f x:=fun x hx=>iP.1 hx
 have im:(f[i]!).1∈iB f:=iP.2 ⟨i,hi,rfl⟩;obtain ⟨t1,t2⟩:=tC so (List.ne_nil_of_mem im) hS;have nd:=(DR (t:=t) fok).1.nodup_iff.2 (lI fok.2.2);have head:(mM (fL f t) (iB f),(-1:Int))∈mX f t:=by
  unfold mX;have ln:(iB f).length=f.length:=List.length_map ..;generalize hx:iB f=l at*;cases l with
  |nil=>cases im
  |cons a l=>
   rw [<- ln];simp only [List.length_cons,gH];exact List.mem_cons_self
 constructor
 · intro h q hq hl
   rcases Classical.em ((f[i]!).1=mM (fL f t) (iB f)) with e|e
   · refine t2 q.1 (List.mem_map.2 ⟨q,hq,rfl⟩) ?_
     show cT (eO f q.1) (eO f _) t;rw [<- e,AN fok.2.2 hq,oM fok.2.2 hi rfl];exact hl
   ·
    have hm:=aAj (t:=t) fok hi;rw [h] at hm;exact e (ups_root fok hm)
 · intro h
   have e:(f[i]!).1=mM (fL f t) (iB f):=by
    rcases Classical.em ((f[i]!).1=mM (fL f t) (iB f)) with e|e
    · exact e
    · rcases so.tot _ _ (hS _ im) (hS _ t1) e with k|k
      · exact absurd k (t2 _ im)
      · have k:cT (eO f _) (eO f (f[i]!).1) t:=k
        rw [oM fok.2.2 hi rfl] at k;exact absurd k (h _ (HV fok.2.2 (hS _ t1)).1)
   rw [R8 hi,e];exact HW nd head
where
 ups_root {f:List Pt} {t:Int×Int} (fok:bM f) {x:Int} (h:(x,(-1:Int))∈mX f t):x=mM (fL f t) (iB f):=by
  have so:=yR fok.2.2 t;have hS: ∀x∈iB f,oR f x:=fun x hx=>iP.1 hx
  have ln:(iB f).length=f.length:=List.length_map ..;have nd:=lI fok.2.2;have pos: ∀y∈iB f,(0:Int)<=y:=fun y hy=>by
   have:=hO fok (iP.1 hy)
   have h1:=this.1.1;rw [this.2] at h1;exact h1
  unfold mX at h;generalize hx:iB f=l at*;cases l with
  |nil=>rw [<- ln] at h;simp only [List.length_nil,gH] at h;cases h
  |cons a l=>
   obtain ⟨t1,t2⟩:=tC so (List.cons_ne_nil a l) hS;rw [<- ln] at h;simp only [List.length_cons,gH] at h;rcases List.mem_cons.1 h with e|e
   · exact congrArg Prod.fst e
   · exfalso
     have bad: ∀b,(x,(-1:Int))∈gH (fL f t) kI l.length (qO kI (a::l) (mM (fL f t) (a::l)) 0 b) (mM (fL f t) (a::l)) 1->False:=fun b hb=>by
      have sl:=EO (bit:=kI) t1 0 b;rw [List.length_cons] at sl;rcases (B0 so HX l.length (qO kI (a::l) (mM (fL f t) (a::l)) 0 b) (mM (fL f t) (a::l)) 1 (fun z hz=>hS z (iU.1 hz).1) (vA nd _ 0 b) (Nat.le_of_lt_succ sl)).2 _ hb with k|⟨k,_⟩
      · have h0:=pos _ t1
        rw [<- show (-1:Int)=mM (fL f t) (a::l) from k] at h0;exact absurd h0 (by decide)
      · exact absurd (show (0:Int)<= -1 from pos _ (iU.1 k).1) (by decide)
     rcases List.mem_append.1 e with e|e
     · exact bad 0 e
     · exact bad 1 e
end
theorem aDB {x:Int} (h0:0<=x) (d:Nat):jM .i64 x (d:Int)=((x.toNat / 2^(min d 64):Nat):Int):=by
 unfold jM;rw [show (IntKind.bits .i64)=64 from rfl,Int.toNat_natCast,Int.fdiv_eq_ediv_of_nonneg _ (Int.le_of_lt (Int.pow_pos (by decide)))]
 obtain ⟨n,rfl⟩: ∃n:Nat,x=(n:Int):=⟨x.toNat,by omega⟩
 rw [Int.toNat_natCast]
 norm_cast
theorem aKm {n:Nat} (h:n<9223372036854775808):sJ .i64 (n:Int) 1=((n%2:Nat):Int):=by
 unfold sJ;have e:(BitVec.ofInt (IntKind.bits .i64) (n:Int)&&&BitVec.ofInt (IntKind.bits .i64) 1).toNat=n%2:=by
  rw [BitVec.toNat_and,BitVec.toNat_ofInt,BitVec.toNat_ofInt];rw [show (IntKind.bits .i64)=64 from rfl];have e64:((2^64:Nat):Int)=18446744073709551616:=rfl;have e1:((n:Int)%((2^64:Nat):Int)).toNat=n:=by rw [e64];omega
  have e2:((1:Int)%((2^64:Nat):Int)).toNat=1:=by rw [e64];rfl
  rw [e1,e2,Nat.and_one_is_mod]
 rw [e]
 have:=Nat.mod_lt n (show 0<2 by decide)
 have c:n%2=0\/n%2=1:=by omega
 rcases c with c|c<;>rw [c]<;>rfl
theorem aAl {x:Int} (h0:0<=x) (h1:x<=65535) (d:Nat):sJ .i64 (jM .i64 x (d:Int)) 1=(kI x d:Int):=by
 rw [aDB h0,aKm]
 · rfl
 · have:=Nat.div_le_self x.toNat (2^(min d 64));omega
theorem aKn {x:Int} (h0:0<=x) (d:Nat):Int.tmod (jM .i64 x (d:Int)) 2=(kI x d:Int):=by
 rw [aDB h0];show Int.tmod _ ((2:Nat):Int)=_;rw [<- Int.ofNat_tmod];rfl
section
variable {f : List Pt} {t : Int × Int}
noncomputable def fF (t:Int×Int) (r:List Pt) (x:Pt):Pt:=r.foldl (fun a p=>if cT p a t then p else a) x
theorem K9 (fok:bM f): ∀(r:List Pt) (x:Pt),x∈f->(∀p∈r,p∈f)->(fF t r x).1=(r.map fun p=>p.1).foldl (fun a y=>if fL f t y a then y else a) x.1/\fF t r x∈f
 | [],x,hx,_=>⟨rfl,hx⟩
 |p::r,x,hx,hr=>by
  have hp:=hr p List.mem_cons_self;have e:fL f t p.1 x.1↔cT p x t:=by show cT (eO f p.1) (eO f x.1) t↔_;rw [AN fok.2.2 hp,AN fok.2.2 hx]
  show (fF t r (if cT p x t then p else x)).1=_/\fF t r (if cT p x t then p else x)∈f
  rw [List.map_cons,List.foldl_cons]
  by_cases c:cT p x t
  · rw [if_pos c,if_pos (e.2 c)];exact K9 fok r p hp fun q hq=>hr q (List.mem_cons_of_mem _ hq)
  · rw [if_neg c,if_neg (fun k=>c (e.1 k))];exact K9 fok r x hx fun q hq=>hr q (List.mem_cons_of_mem _ hq)
def dT (l:List Pt) (top:Int) (d b:Nat):List Pt:=l.filter fun p=>decide (p.1≠top)&&decide (kI p.1 d=b)
theorem tD (l:List Pt) (top:Int) (d b:Nat):(dT l top d b).map (fun p=>p.1)=qO kI (l.map fun p=>p.1) top d b:=by
 unfold dT qO
 induction l with
 |nil=>rfl
 |cons p l ih=>
  rw [List.filter_cons,List.map_cons,List.filter_cons]
  by_cases c:p.1≠top/\kI p.1 d=b
  · rw [if_pos (by simpa using c),if_pos (by simpa using c),List.map_cons,ih]
  · rw [if_neg (by simpa using c),if_neg (by simpa using c),ih]
theorem aBl {l:List Pt} {top:Int} {d b:Nat} {p:Pt} (h:p∈dT l top d b):p∈l:=(List.mem_filter.1 h).1
theorem AO (l:List Pt) (top:Int) (d b:Nat):(dT l top d b).length<=l.length:=List.length_filter_le ..
theorem B1 (l:List Pt) (p:Pt) (top:Int) (d b:Nat):dT (l++[p]) top d b=dT l top d b++(if p.1≠top/\kI p.1 d=b then [p] else []):=by
 unfold dT;rw [List.filter_append]
 congr 1
 by_cases c:p.1≠top/\kI p.1 d=b
 · rw [if_pos c,List.filter_cons,if_pos (by simpa using c)];rfl
 · rw [if_neg c,List.filter_cons,if_neg (by simpa using c)];rfl
theorem aDC (fok:bM f) (r:bT t) (r64:pK t) {p q:Pt} (hp:p∈f) (hq:q∈f) (hne:p.1≠q.1):lV p q (t.1,t.2)=some (decide (cT p q t),0):=by
 rcases KR (fok.2.1 _ hp) (fok.2.1 _ hq) r64 r with h|⟨h,_⟩
 · rw [show ((t.1,t.2):Int×Int)=t from rfl,h,if_neg hne]
 · exact absurd h hne
theorem VQ {l:List Pt} {x:Pt} (i:Nat) (hi:i<l.length):fF t (l.take (i+1)) x=if cT l[i]! (fF t (l.take i) x) t then l[i]! else fF t (l.take i) x:=by
 rw [dQ hi];unfold fF;rw [List.foldl_append];rfl
structure LOK (f:List Pt) (l:List Pt):Prop where
 sub: ∀p∈l,p∈f
 nd:(l.map fun p=>p.1).Nodup
 len:l.length<=64
theorem LOK.side {l:List Pt} (h:LOK f l) (top:Int) (d b:Nat):LOK f (dT l top d b) where
 sub:=fun p hp=>h.sub p (aBl hp)
 nd:=by rw [tD];exact vA h.nd _ _ _
 len:=Nat.le_trans (AO ..) h.len
theorem LOK.bits (fok:bM f) {l:List Pt} (h:LOK f l) {p:Pt} (hp:p∈l):0<=p.1/\p.1<=65535:=by
 have:=fok.2.1 p (h.sub p hp)
 unfold iH at this;omega
theorem LOK.ne {l:List Pt} (h:LOK f l) {i j:Nat} (hi:i<l.length) (hj:j<l.length) (hne:i≠j):(l[i]!).1≠(l[j]!).1:=by
 have ll:(l.map fun p=>p.1).length=l.length:=List.length_map ..
 have b: ∀k,k<l.length->(l.map fun p=>p.1)[k]! =(l[k]!).1:=fun k hk=>by
  rw [getElem!_pos _ k (by rw [ll];exact hk),List.getElem_map,getElem!_pos l k hk]
 intro e;rcases Nat.lt_trichotomy i j with c|c|c
 · exact eW.1 h.nd i j c (by omega) (by rw [b i hi,b j hj];exact e)
 · exact hne c
 · exact eW.1 h.nd j i c (by omega) (by rw [b i hi,b j hj];exact e.symm)
theorem DS (t:Int×Int): ∀(r:List Pt) (x:Pt),fF t r x=x\/fF t r x∈r
 | [],_=> .inl rfl
 |p::r,x=>by
  show fF t r (if cT p x t then p else x)=x\/fF t r (if cT p x t then p else x)∈_
  by_cases c:cT p x t
  · rw [if_pos c]
    rcases DS t r p with e|e
    · rw [e];exact .inr List.mem_cons_self
    · exact .inr (List.mem_cons_of_mem _ e)
  · rw [if_neg c]
    exact (DS t r x).imp id (List.mem_cons_of_mem _)
theorem aDD {l:List Pt} (h:LOK f l) {i:Nat} (hi:i+1<l.length):(l[i+1]!).1≠(fF t ((l.drop 1).take i) l[0]!).1:=by
 rcases DS t ((l.drop 1).take i) l[0]! with e|e
 · rw [e];exact h.ne hi (by omega) (by omega)
 · obtain ⟨j,hj,ej⟩:=aY.1 e
   rw [List.length_take,List.length_drop] at hj
   have:((l.drop 1).take i)[j]! =l[1+j]!:=by
    rw [List.getElem!_eq_getElem?_getD,List.getElem?_take_of_lt (by omega),List.getElem?_drop,<- List.getElem!_eq_getElem?_getD]
   rw [<- ej,this];exact h.ne hi (by omega) (by omega)
theorem HZ {l:List Pt} {i:Nat} (_:i+1<l.length):(l.drop 1)[i]! =l[i+1]!:=by
 rw [List.getElem!_eq_getElem?_getD,List.getElem?_drop,<- List.getElem!_eq_getElem?_getD,Nat.add_comm 1 i]
def g1S (t:Int×Int) (l:List Pt) (M:List (Int×Int)) (d:Nat) (top:Pt) (s0 s1:List Pt) (i:Nat):=
 ((d:Int),(l.length:Int),(i:Int),l,M,t.1,t.2,top.1,top.2.1,top.2.2,s0,s1)
def g2S (t:Int×Int) (l:List Pt) (M:List (Int×Int)) (u:Int) (d:Nat) (top:Pt) (i:Nat):=
 (u,(d:Int),(1:Nat),l.length-1,l.length-1,((l.length-1:Nat):Int),(i:Int),l,M,t.1,t.2,top)
theorem aP5 (fok:bM f) {l:List Pt} (h:LOK f l) {d:Nat} (hd:d<=1000) {top:Pt} {M:List (Int×Int)} {u:Int} {c0:_} {c1:_} (hc:c1.2.2.2.2.1.length=l.length)
 {M2 M3:List (Int×Int)} (r1:c0 (t.1,t.2,top.1,((d+1:Nat):Int),dT l top.1 d 0,M)=some (dT l top.1 d 0,M2)) (r2:c0 (t.1,t.2,top.1,((d+1:Nat):Int),dT l top.1 d 1,M2)=some (dT l top.1 d 1,M3)):
 aI (gU c0 c1) (g1S t l M d top [] [] 0)=some (.done (l,M3)):=by
 have hl:=h.len;have st:=bP (body:=gU c0 c1) (fun i=>g1S t l M d top (dT (l.take i) top.1 d 0) (dT (l.take i) top.1 d 1) i) l.length (fun i hi=>by
  have pm:=bB hi;obtain ⟨b0,b1⟩:=h.bits fok pm;have bt:=aAl b0 b1 d;have lt:=HX (l[i]!).1 d;have s0:=B1 (l.take i) l[i]! top.1 d 0;have s1:=B1 (l.take i) l[i]! top.1 d 1;rw [<- dQ hi] at s0 s1;have l0:(dT (l.take i) top.1 d 0).length<=64:=Nat.le_trans (AO ..) (by rw [List.length_take];omega)
  have l1:(dT (l.take i) top.1 d 1).length<=64:=Nat.le_trans (AO ..) (by rw [List.length_take];omega)
  have a0:bG (dT (l.take i) top.1 d 0) [l[i]!]=some (dT (l.take i) top.1 d 0++[l[i]!]):=cY (by rw [List.length_singleton];omega)
  have a1:bG (dT (l.take i) top.1 d 1) [l[i]!]=some (dT (l.take i) top.1 d 1++[l[i]!]):=cY (by rw [List.length_singleton];omega)
  rw [s0,s1];unfold gU g1S;simp only [aQ (show (i:Int)<(l.length:Int) by omega),cond_true,aD l i hi,aE,aW (show i<1000000000 by omega),aM (show¬(d:Int)<0 by omega),cond_false,bt,a0,a1]
  by_cases c:(l[i]!).1=top.1
  · rw [cA (show (l[i]!).1=top.1 from c),cond_false,if_neg (fun k=>k.1 c),if_neg (fun k=>k.1 c),List.append_nil,List.append_nil]
  · rw [dB c,cond_true]
    by_cases e:kI (l[i]!).1 d=0
    · rw [e,if_pos ⟨c,rfl⟩,if_neg (fun k=>by omega),List.append_nil];rfl
    · have e1:kI (l[i]!).1 d=1:=by omega
      rw [e1,if_neg (fun k=>by omega),if_pos ⟨c,rfl⟩,List.append_nil];rfl)
 rw [List.take_length] at st;refine (show _=_ from st).trans (aL ?_);unfold gU g1S;simp only [aM (show¬(l.length:Int)<(l.length:Int) by omega),cond_false,aW (show d<1000000000 by omega),r1,r2,aE,hc,beq_self_eq_true,cond_true]
theorem aK2 {l:List Pt} (h0:l≠[]):aN l 0=some l[0]!:=aD l 0 (List.length_pos_iff.2 h0)
theorem aSy (fok:bM f) (r:bT t) (r64:pK t) {l:List Pt} (h:LOK f l) (h0:l≠[]) {d:Nat} (hd:d<=1000) {M:List (Int×Int)} {u:Int} {c0:_}
 {M2 M3:List (Int×Int)} (r1:c0 (t.1,t.2,(fF t (l.drop 1) l[0]!).1,((d+1:Nat):Int),dT l (fF t (l.drop 1) l[0]!).1 d 0,mZ M (fF t (l.drop 1) l[0]!).1 u)=some (dT l (fF t (l.drop 1) l[0]!).1 d 0,M2))
 (r2:c0 (t.1,t.2,(fF t (l.drop 1) l[0]!).1,((d+1:Nat):Int),dT l (fF t (l.drop 1) l[0]!).1 d 1,M2)=some (dT l (fF t (l.drop 1) l[0]!).1 d 1,M3)):
 oQ c0 (t.1,t.2,u,(d:Int),l,M)=some (l,M3):=by
 have hl:=h.len;have hp:=List.length_pos_iff.2 h0;have ld:(l.drop 1).length=l.length-1:=List.length_drop;have dt:(l.drop 1).take (l.length-1)=l.drop 1:=List.take_of_length_le (by omega)
 have st:=bP (body:=jQ c0 (t.1,t.2,u,(d:Int),l,M)) (fun i=>g2S t l M u d (fF t ((l.drop 1).take i) l[0]!) i) (l.length-1) (fun i hi=>by
  have q:=aD (l.drop 1) i (by omega)
  rw [HZ (by omega)] at q
  have ne:=aDD (t:=t) h (i:=i) (by omega)
  have m1:=h.sub _ (bB (l:=l) (i:=i+1) (by omega))
  have m2:fF t ((l.drop 1).take i) l[0]!∈f:=by
   rcases DS t ((l.drop 1).take i) l[0]! with e|e
   · rw [e];exact h.sub _ (bB hp)
   · exact h.sub _ (List.mem_of_mem_drop (List.mem_of_mem_take e))
  have A:=aDC fok r r64 m1 m2 ne;have tt:=VQ (t:=t) (l:=l.drop 1) (x:=l[0]!) i (by omega)
  rw [HZ (by omega)] at tt
  rw [tt];unfold jQ g2S;simp only [aQ (show (i:Int)<((l.length-1:Nat):Int) by omega),cond_true,dt,q,aE,A,aW (show i<1000000000 by omega)]
  by_cases c:cT l[i+1]! (fF t ((l.drop 1).take i) l[0]!) t
  · rw [decide_eq_true c,cond_true,if_pos c]
  · rw [decide_eq_false c,cond_false,if_neg c])
 rw [List.take_of_length_le (l:=l.drop 1) (i:=l.length-1) (by omega)] at st
 have ol:=aP5 fok h hd (c0:=c0) (c1:=(t.1,t.2,u,(d:Int),l,M)) rfl (u:=u) r1 r2;have e1:((Int.ofNat l.length).toNat) -1=l.length-1:=rfl;unfold oQ;have en:((Int.ofNat l.length)==0)=false:=eG (by show¬(l.length:Int)=0;omega)
 have e2:(((decide ((0:Nat)<=1))&&(decide ((1:Int)<=(Int.ofNat l.length))))&&(decide ((Int.ofNat l.length)<=(Int.ofNat l.length))))=true:=by
  rw [aQ (show (1:Int)<=Int.ofNat l.length by show (1:Int)<=(l.length:Int);omega),aQ (Int.le_refl _)];rfl
 simp only [en,cond_false,aK2 h0,aE];rw [show (((decide ((0:Nat)<=1))&&(decide ((1:Int)<=(Int.ofNat l.length))))&&(decide ((Int.ofNat l.length)<=(Int.ofNat l.length))))=true from e2,cond_true];refine (show _=_ from st).trans (aL ?_);unfold jQ g2S;simp only [aM (Int.lt_irrefl _),cond_false];exact ol
theorem aAn (fok:bM f) (r:bT t) (r64:pK t): ∀(k n:Nat) (l:List Pt) (u:Int) (d:Nat) (M:List (Int×Int)),LOK f l->l.length<=k->k+1<=n->d+k<=1000->
 gE n (t.1,t.2,u,(d:Int),l,M)=some (l,jW M (gH (fL f t) kI k (l.map fun p=>p.1) u d))
 |k,0,l,u,d,M,_,_,hn,_=>absurd hn (by omega)
 |k,n+1,[],u,d,M,_,_,_,_=>by cases k<;>rfl
 |0,n+1,x::l,u,d,M,_,hk,_,_=>absurd hk (by rw [List.length_cons];omega)
 |k+1,n+1,x::l,u,d,M,h,hk,hn,hd=>by
  have ti:=K9 (t:=t) fok l x (h.sub x List.mem_cons_self) (fun p hp=>h.sub p (List.mem_cons_of_mem _ hp))
  have tl:mM (fL f t) ((x::l).map fun p=>p.1)=(fF t l x).1:=ti.1.symm
  have so:=yR fok.2.2 t;have sl: ∀b,(dT (x::l) (fF t l x).1 d b).length<=k:=fun b=>by
   have hS: ∀y∈((x::l).map fun p=>p.1),oR f y:=fun y hy=>by
    obtain ⟨p,hp,e⟩:=List.mem_map.1 hy;exact iP.1 (List.mem_map.2 ⟨p,h.sub p hp,e⟩)
   have t1:=(tC so (l:=(x::l).map fun p=>p.1) (by simp) hS).1
   rw [tl] at t1
   have:=EO (bit:=kI) t1 d b
   rw [<- tD,List.length_map,List.length_map] at this;omega
  have A:=aAn fok r r64 k n (dT (x::l) (fF t l x).1 d 0) (fF t l x).1 (d+1) (mZ M (fF t l x).1 u) (h.side _ _ _) (sl 0) (by omega) (by omega)
  have B:=aAn fok r r64 k n (dT (x::l) (fF t l x).1 d 1) (fF t l x).1 (d+1) (jW (mZ M (fF t l x).1 u) (gH (fL f t) kI k ((dT (x::l) (fF t l x).1 d 0).map fun p=>p.1) (fF t l x).1 (d+1))) (h.side _ _ _) (sl 1) (by omega) (by omega)
  have C:=aSy fok r r64 h (List.cons_ne_nil x l) (d:=d) (by omega) (u:=u) (M:=M) (c0:=gE n) A B
  refine (show _=_ from C).trans ?_;rw [tD,tD,<- KG];refine congrArg some (Prod.ext rfl ?_);show jW (mZ M (fF t l x).1 u) _=jW M (gH (fL f t) kI (k+1) (x.1::l.map fun p=>p.1) u d)
  simp only [gH];rw [<- show mM (fL f t) (x.1::l.map fun p=>p.1)=(fF t l x).1 from tl]
  rfl
end
section
variable {f : List Pt} {t : Int × Int}
def h1S (t:Int×Int) (l:List Pt) (M:List (Int×Int)) (d:Nat) (top:Pt) (s0 s1:List Pt) (i:Nat):=
 ((d:Int),l,(l.length:Int),(i:Int),M,t.1,t.2,top.1,top.2.1,top.2.2,s0,s1)
def h2S (t:Int×Int) (l:List Pt) (M:List (Int×Int)) (u:Int) (d:Nat) (top:Pt) (i:Nat):=
 (l,u,(d:Int),l.drop 1,((l.drop 1).length:Int),(i:Int),M,t.1,t.2,top)
theorem aP6 (fok:bM f) {l:List Pt} (h:LOK f l) {d:Nat} (hd:d<=1000) {top:Pt} {M:List (Int×Int)}
 {M2 M3:List (Int×Int)} (r1:fW (t.1,t.2,top.1,((d+1:Nat):Int),dT l top.1 d 0,M)=some (dT l top.1 d 0,M2)) (r2:fW (t.1,t.2,top.1,((d+1:Nat):Int),dT l top.1 d 1,M2)=some (dT l top.1 d 1,M3)):
 aI gV (h1S t l M d top [] [] 0)=some (.done M3):=by
 have hl:=h.len;have st:=bP (body:=gV) (fun i=>h1S t l M d top (dT (l.take i) top.1 d 0) (dT (l.take i) top.1 d 1) i) l.length (fun i hi=>by
  have pm:=bB hi;obtain ⟨b0,b1⟩:=h.bits fok pm;have bt:=aAl b0 b1 d;have lt:=HX (l[i]!).1 d;have s0:=B1 (l.take i) l[i]! top.1 d 0;have s1:=B1 (l.take i) l[i]! top.1 d 1;rw [<- dQ hi] at s0 s1;have l0:(dT (l.take i) top.1 d 0).length<=64:=Nat.le_trans (AO ..) (by rw [List.length_take];omega)
  have l1:(dT (l.take i) top.1 d 1).length<=64:=Nat.le_trans (AO ..) (by rw [List.length_take];omega)
  have a0:bG (dT (l.take i) top.1 d 0) [l[i]!]=some (dT (l.take i) top.1 d 0++[l[i]!]):=cY (by rw [List.length_singleton];omega)
  have a1:bG (dT (l.take i) top.1 d 1) [l[i]!]=some (dT (l.take i) top.1 d 1++[l[i]!]):=cY (by rw [List.length_singleton];omega)
  rw [s0,s1];unfold gV h1S;simp only [aQ (show (i:Int)<(l.length:Int) by omega),cond_true,aD l i hi,aE,aW (show i<1000000000 by omega),aM (show¬(d:Int)<0 by omega),cond_false,bt,a0,a1]
  by_cases c:(l[i]!).1=top.1
  · rw [cA (show (l[i]!).1=top.1 from c),cond_false,if_neg (fun k=>k.1 c),if_neg (fun k=>k.1 c),List.append_nil,List.append_nil]
  · rw [dB c,cond_true]
    by_cases e:kI (l[i]!).1 d=0
    · rw [e,if_pos ⟨c,rfl⟩,if_neg (fun k=>by omega),List.append_nil];rfl
    · have e1:kI (l[i]!).1 d=1:=by omega
      rw [e1,if_neg (fun k=>by omega),if_pos ⟨c,rfl⟩,List.append_nil];rfl)
 rw [List.take_length] at st;refine (show _=_ from st).trans (aL ?_);unfold gV h1S;simp only [aM (show¬(l.length:Int)<(l.length:Int) by omega),cond_false,aW (show d<1000000000 by omega),r1,r2,aE]
theorem aSz (fok:bM f) (r:bT t) (r64:pK t) {l:List Pt} (h:LOK f l) (h0:l≠[]) {d:Nat} (hd:d<=1000) {M:List (Int×Int)} {u:Int} {c0:_}
 {M2 M3:List (Int×Int)} (r1:fW (t.1,t.2,(fF t (l.drop 1) l[0]!).1,((d+1:Nat):Int),dT l (fF t (l.drop 1) l[0]!).1 d 0,mZ M (fF t (l.drop 1) l[0]!).1 u)=some (dT l (fF t (l.drop 1) l[0]!).1 d 0,M2))
 (r2:fW (t.1,t.2,(fF t (l.drop 1) l[0]!).1,((d+1:Nat):Int),dT l (fF t (l.drop 1) l[0]!).1 d 1,M2)=some (dT l (fF t (l.drop 1) l[0]!).1 d 1,M3)):
 kJ c0 (l,t.1,t.2,u,(d:Int),M)=some M3:=by
 have hl:=h.len;have hp:=List.length_pos_iff.2 h0;have ld:(l.drop 1).length=l.length-1:=List.length_drop;have st:=bP (body:=jR) (fun i=>h2S t l M u d (fF t ((l.drop 1).take i) l[0]!) i) (l.drop 1).length (fun i hi=>by
  have q:=aD (l.drop 1) i hi;rw [HZ (by omega)] at q
  have ne:=aDD (t:=t) h (i:=i) (by omega)
  have m1:=h.sub _ (bB (l:=l) (i:=i+1) (by omega))
  have m2:fF t ((l.drop 1).take i) l[0]!∈f:=by
   rcases DS t ((l.drop 1).take i) l[0]! with e|e
   · rw [e];exact h.sub _ (bB hp)
   · exact h.sub _ (List.mem_of_mem_drop (List.mem_of_mem_take e))
  have A:=aDC fok r r64 m1 m2 ne;have tt:=VQ (t:=t) (l:=l.drop 1) (x:=l[0]!) i hi;rw [HZ (by omega)] at tt
  rw [tt];unfold jR h2S;simp only [aQ (show (i:Int)<((l.drop 1).length:Int) by omega),cond_true,q,aE,A,aW (show i<1000000000 by omega)]
  by_cases c:cT l[i+1]! (fF t ((l.drop 1).take i) l[0]!) t
  · rw [decide_eq_true c,cond_true,if_pos c]
  · rw [decide_eq_false c,cond_false,if_neg c])
 rw [List.take_length] at st;have ol:=aP6 (t:=t) fok h hd r1 r2;have e1:iE l 1 (Int.ofNat l.length)=some (l.drop 1):=by
  unfold iE;rw [if_pos (by refine ⟨by decide,?_,Int.le_refl _⟩;show (1:Int)<=(l.length:Int);omega)]
  refine congrArg some ?_;show (l.drop 1).take _=_;exact List.take_of_length_le (by rw [ld];exact Nat.le_refl _)
 unfold kJ;have en:((Int.ofNat l.length)==0)=false:=eG (by show¬(l.length:Int)=0;omega)
 simp only [en,cond_false,aK2 h0,aE,e1];refine (show _=_ from st).trans (aL ?_);unfold jR h2S;simp only [aM (Int.lt_irrefl _),cond_false];exact ol
theorem aKo (fok:bM f) (r:bT t) (r64:pK t):rB (f,t.1,t.2,-1,0,[])=some (jW [] (mX f t)):=by
 have h:LOK f f:=⟨fun p hp=>hp,lI fok.2.2,fok.1⟩
 have f1:=fok.1;unfold mX;show kJ (gF 999999) _=_;cases hf:f with
 |nil=>rfl
 |cons x l=>
  rw [<- hf];have fl:f.length=l.length+1:=by rw [hf];rfl
  have d1:f.drop 1=l:=by rw [hf];rfl
  have g0:f[0]! =x:=by rw [hf];rfl
  have ti:=K9 (t:=t) fok l x (by rw [hf];exact List.mem_cons_self) (fun p hp=>by rw [hf];exact List.mem_cons_of_mem _ hp)
  have ei:iB f=x.1::l.map fun p=>p.1:=by unfold iB;rw [hf];rfl
  have tl:mM (fL f t) (iB f)=(fF t l x).1:=by rw [ei];exact ti.1.symm
  have so:=yR fok.2.2 t;have sl: ∀b,(dT f (fF t l x).1 0 b).length<=l.length:=fun b=>by
   have hS: ∀y∈iB f,oR f y:=fun y hy=>iP.1 hy
   have t1:=(tC so (l:=iB f) (by unfold iB;rw [hf];simp) hS).1
   rw [tl] at t1
   have:=EO (bit:=kI) t1 0 b
   unfold iB at this;rw [<- tD,List.length_map,List.length_map] at this;omega
  have A:=aAn fok r r64 l.length 1000000 (dT f (fF t l x).1 0 0) (fF t l x).1 1 (mZ [] (fF t l x).1 (-1)) (h.side _ _ _) (sl 0) (by omega) (by omega)
  have B:=aAn fok r r64 l.length 1000000 (dT f (fF t l x).1 0 1) (fF t l x).1 1 (jW (mZ [] (fF t l x).1 (-1)) (gH (fL f t) kI l.length ((dT f (fF t l x).1 0 0).map fun p=>p.1) (fF t l x).1 1)) (h.side _ _ _) (sl 1) (by omega) (by omega)
  have C:=aSz fok r r64 h (by rw [hf];exact List.cons_ne_nil x l) (d:=0) (by omega) (u:= -1) (M:=[]) (c0:=gF 999999) (M2:=jW (mZ [] (fF t l x).1 (-1)) (gH (fL f t) kI l.length ((dT f (fF t l x).1 0 0).map fun p=>p.1) (fF t l x).1 1)) (M3:=jW (jW (mZ [] (fF t l x).1 (-1)) (gH (fL f t) kI l.length ((dT f (fF t l x).1 0 0).map fun p=>p.1) (fF t l x).1 1)) (gH (fL f t) kI l.length ((dT f (fF t l x).1 0 1).map fun p=>p.1) (fF t l x).1 1)) (by rw [d1,g0];exact A) (by rw [d1,g0];exact B)
  refine (show _=_ from C).trans (congrArg some ?_);rw [tD,tD,<- KG,fl];rw [show (f.map fun p=>p.1)=iB f from rfl,<- tl]
  generalize fL f t=P;rw [ei];simp only [gH];rfl
end
def hP (c:aO) (r:Int) (N:List Nd) (to:Int×Int) (out:List (Int×Int)):=
 (c.now.1,c.now.2,c.field.points,c.certs.next_,c.certs.list,c.agenda.slots.uses,c.agenda.slots.used,c.agenda.slots.free,c.agenda.heap,c.agenda.where_,c.due,r,N,to.1,to.2,(0:Int),(0:Int),(0:Int),(0:Int),out)
def xJ:aR:=⟨List.replicate 200 0,List.replicate 200 false,(List.range 200).map fun j:Nat=>(199:Int) - (j:Int)⟩
def IA:aH:=⟨xJ,[],List.replicate 200 (-1)⟩
def N9 (f:Field) (t:Int×Int):aO:=⟨t,f,⟨0,[]⟩,IA,[]⟩
theorem VS:HA 200=some (xJ,0):=
 (by kernel_rfl:HA 200=aI J2 (200,200,0,List.replicate 200 0,List.replicate 200 false,List.replicate 200 0)).trans (nT.2 ⟨300,by kernel_rfl⟩)
theorem aBm:jO [-1] 200=some (List.replicate 200 (-1)):=by
 unfold jO zA;have m:gG (aA .u64 (Int.ofNat ([-1]:List Int).length)) (aA .u64 200)=some (0,200):=by
  rw [show aA .u64 (Int.ofNat ([-1]:List Int).length)=1 from by kernel_rfl,show aA .u64 200=200 from by kernel_rfl,HG ⟨by decide,by decide⟩ ⟨by decide,by decide⟩]
  rfl
 rw [m];exact (by kernel_rfl:_=aI nJ (1,-1::List.replicate 199 0)).trans (nT.2 ⟨20,by kernel_rfl⟩)
theorem OP:BD 200=some (IA,0):=by
 unfold BD;rw [VS,aE,cA rfl,cond_false,aBm];rfl
theorem YB:yD 200=some xJ:=
 (by kernel_rfl:yD 200=aI DF (199,List.replicate 200 0,List.replicate 200 false,[])).trans (nT.2 ⟨300,by kernel_rfl⟩)
theorem YC:yE 200=some IA:=by
 unfold yE;rw [YB,aE];exact nT.2 ⟨300,by kernel_rfl⟩
theorem YD {f:Field} (hf:f.points.length<=64) (t:Int×Int):yF f t=some (N9 f t):=by
 unfold yF nO;rw [bE (by omega),aE,aE,YC]
 rfl
theorem R9 (f:Field) {t:Int×Int} (r64:pK t):D6 f t=some (if jV f.points≠0 then (dE,jV f.points) else if bT t then (N9 f t,0) else (dE,8)):=by
 unfold D6;rw [nV,aE]
 by_cases h:jV f.points=0
 · have fok:=lR.1 h
   have f1:=fok.1;rw [cA h,cond_false,gA r64,aE,if_neg (show¬jV f.points≠0 from fun k=>k h)]
   by_cases rt:bT t
   · rw [if_pos rt,if_pos rt,cA rfl,cond_false,OP,aE,bE (show f.points.length<=1048576 by omega),aE]
     rfl
   · rw [if_neg rt,if_neg rt,dB (by decide),cond_true]
 · rw [dB h,cond_true,if_pos h]
theorem DT {α:Type} [Inhabited α] {n i:Nat} (a:α) (h:i<n):(List.replicate n a)[i]! =a:=by
 rw [getElem!_pos _ i (by rw [List.length_replicate];exact h),List.getElem_replicate]
theorem aKp {i:Nat} (hi:i<200):(i:Int)∈xJ.free:=by
 refine List.mem_map.2 ⟨199-i,List.mem_range.2 (by omega),?_⟩
 show (199:Int) - ((199-i:Nat):Int)=(i:Int);omega
theorem pB:xJ.uses.length=200:=List.length_replicate ..
set_option maxRecDepth 100000 in
theorem aDE:xJ.free.length=200:=by
 unfold xJ;exact (List.length_map _).trans List.length_range
theorem aBn:eM xJ where
 n1:=by rw [pB];omega
 n2:=by rw [pB];omega
 ul:=by rw [pB];exact List.length_replicate ..
 fr:=fun x hx=>by
  obtain ⟨j,hj,rfl⟩:=List.mem_map.1 hx
  have:=List.mem_range.1 hj
  rw [pB];omega
 fd:=by
  refine xH List.nodup_range fun i hi j hj h=>?_
  have h:(199:Int) - (i:Int)=199- (j:Int):=h;omega
 uf:=fun i hi=>by
  rw [pB] at hi;rw [show xJ.used[i]! =false from DT false hi];constructor
  · intro h;cases h
  · intro h;exact absurd (aKp hi) h
 us:=fun i hi=>by
  rw [pB] at hi;rw [show xJ.uses[i]! =0 from DT 0 hi,show xJ.used[i]! =false from DT false hi];exact ⟨by decide,by decide,fun h=>by cases h⟩
set_option maxRecDepth 100000 in
theorem YE:eS IA where
 so:=aBn
 wl:=(List.length_replicate (n:=200) (a:=(-1:Int))).trans pB.symm
 hl:=((Nat.zero_add _).trans aDE).trans pB.symm
 fwd:=fun i hi h=>by
  rw [show IA.slots.used[i]! =false from DT false (by rw [<- pB];exact hi)] at h
  cases h
 un:=fun i hi _=>DT (-1) (by rw [<- pB];exact hi)
 ev:=fun w hw=>absurd hw (Nat.not_lt_zero w)
 nd:=fun v w _ hw=>absurd hw (Nat.not_lt_zero w)
 ord:=fun k _ hk=>absurd hk (Nat.not_lt_zero k)
theorem aBo {f:Field} (fok:bM f.points) {t:Int×Int} (r:bT t) (r64:pK t):bF (N9 f t) where
 nowv:=r
 now64:=r64
 fld:=fok
 crt:=(⟨by decide,by decide,by decide,fun i hi=>absurd hi (Nat.not_lt_zero i),fun i hi=>absurd hi (Nat.not_lt_zero i),fun i j _ hj=>absurd hj (Nat.not_lt_zero j),fun i j _ hj=>absurd hj (Nat.not_lt_zero j)⟩:eN ⟨0,[]⟩)
 agd:=YE
 w200:=List.length_replicate ..
 hd:=rfl
 known:=fun i hi=>absurd hi (Nat.not_lt_zero i)
 fol:=rfl
noncomputable def P9 (f:List Pt) (t:Int×Int) (k:Nat):Nat->Nat
 |0=>0
 |j+1=>P9 f t k j+(if j≠k/\V0 f t j k then 1 else 0)
theorem JO (f:List Pt) (t:Int×Int) (k:Nat): ∀j,P9 f t k j<=j/\(k<j->P9 f t k j+1<=j)
 |0=>⟨Nat.le_refl _,fun h=>by omega⟩
 |j+1=>by
  obtain ⟨h1,h2⟩:=JO f t k j;rw [P9]
  by_cases c:j≠k/\V0 f t j k
  · rw [if_pos c]
    exact ⟨by omega,fun h=>by have:=h2 (by omega);omega⟩
  · rw [if_neg c]
    exact ⟨by omega,fun h=>by omega⟩
theorem aBp {f:List Pt} (fok:bM f) {t:Int×Int} (r64:pK t) {k:Nat} (hk:k<f.length):vX ⟨f⟩ f[k]! t=some (P9 f t k f.length:Int):=by
 have f1:=fok.1;have key:=bP (body:=mJ) (fun j=>((P9 f t k j:Int),(j:Int),f,(f[k]!).1,(f[k]!).2.1,(f[k]!).2.2,t)) f.length (fun j hj=>by
  have g:=aD f j hj;have le:=(JO f t k j).1;have ld:=ND (fok.2.1 _ (bB hj)) (fok.2.1 _ (bB hk)) r64;have peta:((f[k]!).1,(f[k]!).2.1,(f[k]!).2.2)=f[k]!:=rfl;unfold mJ;rw [P9]
  by_cases q:j=k
  · subst q
    simp only [aF,aQ (show (j:Int)<(f.length:Int) by omega),cond_true,g,aE,cA rfl,cond_false,aW (show j<1000000000 by omega),if_neg (show¬(j≠j/\V0 f t j j) from fun w=>w.1 rfl),Nat.add_zero]
  · have ne:(f[j]!).1≠(f[k]!).1:=fun h=>q (xD fok.2.2 hj hk h)
    by_cases c:V0 f t j k
    · rw [show decide (cT f[j]! f[k]! t)=true from aQ c] at ld
      simp only [aF,aQ (show (j:Int)<(f.length:Int) by omega),cond_true,g,aE,dB ne,peta,ld,aW (show j<1000000000 by omega),aW (show P9 f t k j<1000000000 by omega),if_pos (show j≠k/\V0 f t j k from ⟨q,c⟩)]
    · rw [show decide (cT f[j]! f[k]! t)=false from aM c] at ld
      simp only [aF,aQ (show (j:Int)<(f.length:Int) by omega),cond_true,g,aE,dB ne,peta,ld,cond_false,aW (show j<1000000000 by omega),if_neg (show¬(j≠k/\V0 f t j k) from fun w=>c w.2),Nat.add_zero])
 unfold vX;rw [show aI mJ (0,0,f,(f[k]!).1,(f[k]!).2.1,(f[k]!).2.2,t)=_ from key];refine aL ?_;unfold mJ;simp only [aF,aM (show¬(f.length:Int)<(f.length:Int) by omega),cond_false]
noncomputable def CI (f:List Pt) (t:Int×Int):Nat->List Int
 |0=>List.replicate f.length 0
 |i+1=>(CI f t i).set (P9 f t i f.length) (f[i]!).1
theorem rY (f:List Pt) (t:Int×Int): ∀i,(CI f t i).length=f.length
 |0=>List.length_replicate ..
 |i+1=>by rw [CI,List.length_set,rY f t i]
theorem OA {f:List Pt} (fok:bM f) {t:Int×Int} (r64:pK t):mR ⟨f⟩ t=some (CI f t f.length):=by
 have f1:=fok.1;have mk:uK (f.length:Int) (0:Int)=some (List.replicate f.length 0):=by
  unfold uK;rw [if_pos ⟨by omega,by omega⟩,Int.toNat_natCast]
 have key:=bP (body:=kZ) (fun i=>((i:Int),f,t.1,t.2,CI f t i)) f.length (fun i hi=>by
  have g:=aD f i hi;have le:=(JO f t i f.length).2 hi;have go:=aD (CI f t i) (P9 f t i f.length) (by rw [rY];omega)
  unfold kZ;simp only [aF,aQ (show (i:Int)<(f.length:Int) by omega),cond_true,g,aE,show ((t.1,t.2):Int×Int)=t from rfl,aBp fok r64 hi,go,uZ,aW (show i<1000000000 by omega)]
  rfl)
 unfold mR;simp only [aF,beq_self_eq_true,cond_true,mk,aE];rw [show aI kZ (0,f,t.1,t.2,List.replicate f.length 0)=_ from key];refine aL ?_;unfold kZ;simp only [aF,aM (show¬(f.length:Int)<(f.length:Int) by omega),cond_false]
theorem SA {f : List Pt} (h : fB f) {t : Int × Int} {i k : Nat} (hi : i < f.length) (hk : k < f.length) (a : V0 f t i k) : ∀ j, j <= f.length -> P9 f t i j + (if i < j then 1 else 0) <= P9 f t k j
  | 0, _ => by rw [if_neg (by omega)]; exact Nat.le_refl _
  | j + 1, hj => by
    have o := HU h t
    have ih := SA h hi hk a j (by omega)
    have ik : i ≠ k := fun e => by subst e; exact o.asy i i hi hi a a
    rw [P9, P9]
    by_cases e : j = i
    · subst e
      rw [if_neg (show ¬ (j ≠ j /\ _) from fun w => w.1 rfl), if_pos (show j ≠ k /\ V0 f t j k from ⟨ik, a⟩), if_pos (by omega)]
      rw [if_neg (by omega)] at ih
      omega
    · have e2 : (if i < j + 1 then 1 else 0) = (if i < j then 1 else 0) := by
        by_cases c : i < j
        · rw [if_pos c, if_pos (by omega)]
        · rw [if_neg c, if_neg (by omega)]
      rw [e2]
      by_cases c : j ≠ i /\ V0 f t j i
      · have c2 : j ≠ k /\ V0 f t j k := by
          have q := o.tr j i k (by omega) hi hk c.2 a
          exact ⟨fun z => by subst z; exact o.asy j j (by omega) (by omega) q q, q⟩
        rw [if_pos c, if_pos c2]; omega
      · rw [if_neg c]; omega
theorem aKq {f:List Pt} (h:fB f) {t:Int×Int} {i k:Nat} (hi:i<f.length) (hk:k<f.length) (ne:i≠k):P9 f t i f.length≠P9 f t k f.length:=by
 have o:=HU h t;intro e
 by_cases a:V0 f t i k
 · have:=SA h hi hk a f.length (Nat.le_refl _)
   rw [if_pos hi] at this;omega
 · have:=SA h hk hi (o.tot i k hi hk ne a) f.length (Nat.le_refl _)
   rw [if_pos hk] at this;omega
theorem SC {f:List Pt} (h:fB f) {t:Int×Int} {i:Nat}: ∀j,j<=f.length->i<j->(CI f t j)[P9 f t i f.length]! =(f[i]!).1
 |0,_,hi=>by omega
 |j+1,hj,hi=>by
  rw [CI,bD];have hr:=(JO f t i f.length).2 (by omega)
  by_cases q:i=j
  · subst q
    rw [if_pos ⟨rfl,by rw [rY];omega⟩]
  · rw [if_neg (fun w=>aKq h (by omega) (by omega) q w.1)]
    exact SC h j (by omega) (by omega)
theorem JP {f:List Pt} (h:fB f) (t:Int×Int):(iB f).Perm (CI f t f.length):=by
 have il:(iB f).length=f.length:=List.length_map ..;refine tB (lI h) (fun x hx=>?_) (by rw [rY,il];exact Nat.le_refl _)
 obtain ⟨i,hi,e⟩:=iP.1 hx;have hr:=(JO f t i f.length).2 hi;exact aY.2 ⟨P9 f t i f.length,by rw [rY];omega,by rw [SC h _ (Nat.le_refl _) hi];exact e⟩
theorem OB {f:List Pt} (h:fB f) (t:Int×Int) {p q:Nat} (hpq:p<q) (hq:q<f.length):fL f t (CI f t f.length)[p]! (CI f t f.length)[q]!:=by
 have pm:=JP h t;have nd:=pm.nodup_iff.1 (lI h);have ol:=rY f t f.length;have o:=HU h t;have at': ∀x,x<f.length-> ∃i,i<f.length/\(CI f t f.length)[x]! =(f[i]!).1/\P9 f t i f.length=x:=fun x hx=>by
  obtain ⟨i,hi,e⟩:=iP.1 (pm.mem_iff.2 (bB (l:=CI f t f.length) (i:=x) (by omega)))
  have hr:=(JO f t i f.length).2 hi;have e2:=SC h (t:=t) f.length (Nat.le_refl _) hi;rw [e] at e2;refine ⟨i,hi,e.symm,?_⟩;rcases Nat.lt_trichotomy (P9 f t i f.length) x with c|c|c
  · exact absurd e2 (eW.1 nd _ _ c (by omega))
  · exact c
  · exact absurd e2.symm (eW.1 nd _ _ c (by omega))
 obtain ⟨i,hi,e1,r1⟩:=at' p (by omega)
 obtain ⟨k,hk,e2,r2⟩:=at' q hq;rw [e1,e2];show cT (eO f (f[i]!).1) (eO f (f[k]!).1) t;rw [oM h hi rfl,oM h hk rfl]
 by_cases a:V0 f t i k
 · exact a
 · have:=SA h hk hi (o.tot i k hi hk (fun e=>by subst e;omega) a) f.length (Nat.le_refl _)
   rw [if_pos hk] at this;omega
theorem aBq {f:List Pt} (h:fB f) (t:Int×Int):(CI f t f.length).Pairwise (fL f t):=by
 refine List.pairwise_iff_getElem.2 fun i j hi hj hij=>?_
 have:=OB h t hij (by rw [<- rY f t f.length];exact hj)
 rw [getElem!_pos _ i hi,getElem!_pos _ j hj] at this;exact this
section
variable {f : List Pt} {t : Int × Int}
theorem aDF {P:Int->Int->Prop} {S:Int->Prop} (o:SO P S) {x:Int} {r:List Int} (hS: ∀y∈x::r,S y) (pw:(x::r).Pairwise P):mM P (x::r)=x:=by
 obtain ⟨p1,_⟩:=List.pairwise_cons.1 pw;refine VL o hS List.mem_cons_self fun y hy=>?_
 rcases List.mem_cons.1 hy with rfl|hy
 · exact o.irr _ (hS _ List.mem_cons_self)
 · exact o.asym (hS _ List.mem_cons_self) (hS _ (List.mem_cons_of_mem _ hy)) (p1 y hy)
def pC (r:List Int) (d b:Nat):List Int:=r.filter fun x=>decide (kI x d=b)
theorem VT {P:Int->Int->Prop} {S:Int->Prop} (o:SO P S) {x:Int} {r:List Int} (hS: ∀y∈x::r,S y) (pw:(x::r).Pairwise P) (d b:Nat):qO kI (x::r) x d b=pC r d b:=by
 obtain ⟨p1,_⟩:=List.pairwise_cons.1 pw;unfold qO pC;rw [List.filter_cons,if_neg (by simp)]
 refine List.filter_congr fun y hy=>?_
 have ne:y≠x:=fun e=>o.irr x (hS x List.mem_cons_self) (by have:=p1 y hy;rwa [e] at this)
 by_cases c:kI y d=b
 · rw [aQ (show y≠x/\kI y d=b from ⟨ne,c⟩),aQ c]
 · rw [aM (fun k=>c k.2),aM c]
theorem YF (r:List Int) (x:Int) (d b:Nat):pC (r++[x]) d b=pC r d b++(if kI x d=b then [x] else []):=by
 unfold pC;rw [List.filter_append]
 congr 1
 by_cases c:kI x d=b
 · rw [if_pos c,List.filter_cons,if_pos (aQ c)];rfl
 · rw [if_neg c,List.filter_cons,if_neg (by rw [aM c];decide)];rfl
theorem aDG {x:Int} {r:List Int} (hr:r.length<=64) (pos: ∀y∈r,0<=y) {d:Nat} (hd:d<=1000) {b:Nat} {out A:List (Int×Int)} {c0:_} (hout:out.length+A.length<=1000) (hb:b<=2) (rec:c0 (pC r d b,x,((d+1:Nat):Int))=some A):
 aI (oX c0) (x::r,(d:Int),(b:Int),1,out,[])=some (.next (x::r,(d:Int),((b+1:Nat):Int),out++A)):=by
 have st:=bP (body:=oX c0) (fun i=>(x::r,(d:Int),(b:Int),((i+1:Nat):Int),out,pC (r.take i) d b)) r.length (fun i hi=>by
  have g:=aD (x::r) (i+1) (by rw [List.length_cons];omega)
  have gi:(x::r)[i+1]! =r[i]!:=by
   rw [getElem!_pos _ _ (by rw [List.length_cons];omega),getElem!_pos r i hi];rfl
  rw [gi] at g;have s:=YF (r.take i) r[i]! d b;rw [<- dQ hi] at s;have lim:(pC (r.take i) d b).length<=64:=Nat.le_trans (List.length_filter_le ..) (by rw [List.length_take];omega)
  have ap:bG (pC (r.take i) d b) [r[i]!]=some (pC (r.take i) d b++[r[i]!]):=cY (by rw [List.length_singleton];omega)
  have bt:=aKn (pos _ (bB hi)) d;rw [s];unfold oX;simp only [aF,List.length_cons,aQ (show ((i+1:Nat):Int)<((r.length+1:Nat):Int) by omega),cond_true,g,aE,aM (show¬(d:Int)<0 by omega),cond_false,bt,ap,aW (show i+1<1000000000 by omega)]
  by_cases c:kI r[i]! d=b
  · rw [fQ (by omega),cond_true,if_pos c]
  · rw [eG (by omega),cond_false,if_neg c,List.append_nil])
 rw [List.take_length] at st;refine (show _=_ from st).trans (aL ?_);have g0:aN (x::r) 0=some x:=aD (x::r) 0 (by rw [List.length_cons];omega)
 have ap:bG out A=some (out++A):=cY (by omega)
 unfold oX;simp only [aF,List.length_cons,aM (show¬((r.length+1:Nat):Int)<((r.length+1:Nat):Int) by omega),cond_false,g0,aE,aW (show d<1000000000 by omega),rec,aW (show b<1000000000 by omega)]
 cases hA:A with
 |nil=>rw [List.append_nil];rfl
 |cons a A'=>rw [hA] at ap;rw [show (a::A').isEmpty=false from rfl,cond_false,ap,aE]
theorem aBr {P:Int->Int->Prop} {S:Int->Prop} (o:SO P S) {n:Nat} {l:List Int} {u:Int} {d:Nat} (hS: ∀x∈l,S x) (nd:l.Nodup) (h:l.length<=n):(gH P kI n l u d).length=l.length:=by
 have:=(B0 o HX n l u d hS nd h).1.length_eq
 rw [List.length_map] at this;exact this
theorem aKr {P:Int->Int->Prop} {S:Int->Prop} (o:SO P S) {l:List Int} (hS: ∀x∈l,S x) (pw:l.Pairwise P):l.Nodup:=by
 induction l with
 |nil=>exact List.nodup_nil
 |cons x l ih=>
  obtain ⟨p1,p2⟩:=List.pairwise_cons.1 pw;exact List.nodup_cons.2 ⟨fun h=>o.irr x (hS x List.mem_cons_self) (p1 x h),ih (fun y hy=>hS y (List.mem_cons_of_mem _ hy)) p2⟩
theorem aK3 (fok:bM f): ∀(k n:Nat) (l:List Int) (u:Int) (d:Nat),(∀x∈l,oR f x)->l.Pairwise (fL f t)->l.length<=k->k<=64->k+1<=n->d+k<=1000->
 gO n (l,u,(d:Int))=some (gH (fL f t) kI k l u d)
 |k,0,l,u,d,_,_,_,_,hn,_=>absurd hn (by omega)
 |k,n+1,[],u,d,_,_,_,_,_,_=>by cases k<;>rfl
 |0,n+1,x::r,u,d,_,_,hk,_,_,_=>absurd hk (by rw [List.length_cons];omega)
 |k+1,n+1,x::r,u,d,hS,pw,hk,h64,hn,hd=>by
  have o:=yR fok.2.2 t;have th:=aDF o hS pw;rw [List.length_cons] at hk;have hr: ∀b,(∀y∈pC r d b,oR f y)/\(pC r d b).Pairwise (fL f t)/\(pC r d b).length<=k:=fun b=>
   ⟨fun y hy=>hS y (List.mem_cons_of_mem _ (List.mem_filter.1 hy).1),(List.pairwise_cons.1 pw).2.filter _,Nat.le_trans (List.length_filter_le ..) (by omega)⟩
  have pos: ∀y∈r,0<=y:=fun y hy=>by
   have p0:=hO fok (hS y (List.mem_cons_of_mem _ hy));have p1:=p0.1.1;rw [p0.2] at p1;exact p1
  have rc: ∀b,gO n (pC r d b,x,((d+1:Nat):Int))=some (gH (fL f t) kI k (pC r d b) x (d+1)):=fun b=>aK3 fok k n _ x (d+1) (hr b).1 (hr b).2.1 (hr b).2.2 (by omega) (by omega) (by omega)
  have ln: ∀b,(gH (fL f t) kI k (pC r d b) x (d+1)).length<=64:=fun b=>by
   rw [aBr o (hr b).1 (aKr o (hr b).1 (hr b).2.1) (hr b).2.2];have:=(hr b).2.2;omega
  have l0:=ln 0;have l1:=ln 1;have A:=aDG (x:=x) (r:=r) (by omega) pos (d:=d) (by omega) (b:=0) (out:=[(x,u)]) (by rw [List.length_singleton];omega) (by omega) (rc 0)
  have B:=aDG (x:=x) (r:=r) (by omega) pos (d:=d) (by omega) (b:=1) (out:=[(x,u)]++gH (fL f t) kI k (pC r d 0) x (d+1)) (by rw [List.length_append,List.length_singleton];omega) (by omega) (rc 1)
  show BJ (gO n) (x::r,u,(d:Int))=_;have g0:aN (x::r) 0=some x:=aD (x::r) 0 (by rw [List.length_cons];omega)
  have en:((Int.ofNat (x::r).length)==0)=false:=eG (by show¬((x::r).length:Int)=0;rw [List.length_cons];omega)
  unfold BJ;simp only [en,cond_false,g0,aE];have s1:tO (gO n) (x::r,(d:Int),0,[(x,u)])=some (.next (x::r,(d:Int),((0+1:Nat):Int),[(x,u)]++gH (fL f t) kI k (pC r d 0) x (d+1))):=A
  have s2:tO (gO n) (x::r,(d:Int),((0+1:Nat):Int),[(x,u)]++gH (fL f t) kI k (pC r d 0) x (d+1))=some (.next (x::r,(d:Int),((1+1:Nat):Int),([(x,u)]++gH (fL f t) kI k (pC r d 0) x (d+1))++gH (fL f t) kI k (pC r d 1) x (d+1))):=B
  rw [bA s1,bA s2];refine (aL (show tO (gO n) (x::r,(d:Int),((1+1:Nat):Int),_)=some (.done _) from rfl)).trans ?_;simp only [gH];rw [th,VT o hS pw,VT o hS pw];rfl
theorem VU (fok:bM f):F2 (CI f t f.length) (-1) 0=some (mX f t):=by
 have f1:=fok.1;have pm:=JP fok.2.2 t;have h:=aK3 (t:=t) fok f.length 1000000 (CI f t f.length) (-1) 0 (fun x hx=>iP.1 (pm.mem_iff.2 hx)) (aBq fok.2.2 t) (by rw [rY];exact Nat.le_refl _) f1 (by omega) (by omega)
 refine (show _=_ from h).trans (congrArg some ?_);exact (GC (yR fok.2.2 t) f.length _ _ (-1) 0 (fun x hx=>iP.1 hx) pm).symm
theorem QA (fok:bM f) (r64:pK t):AE ⟨f⟩ t=some (sA f t):=by
 have f1:=fok.1;obtain ⟨k1,k2⟩:=DR (t:=t) fok;have nd:=k1.nodup_iff.2 (lI fok.2.2);have ll:(mX f t).length=f.length:=by have:=k1.length_eq;rw [List.length_map] at this;rw [this];exact List.length_map ..
 have mk:uK (f.length:Int) (0:Int)=some (List.replicate f.length 0):=by
  unfold uK;rw [if_pos ⟨by omega,by omega⟩,Int.toNat_natCast]
 let U:Nat->List Int:=fun j=>f.map fun p=>if p.1∈((mX f t).take j).map (fun e=>e.1) then kF 0 (mX f t) p.1 else 0
 have Ul: ∀j,(U j).length=f.length:=fun j=>List.length_map ..
 have Ua: ∀j i,i<f.length->(U j)[i]! =if (f[i]!).1∈((mX f t).take j).map (fun e=>e.1) then kF 0 (mX f t) (f[i]!).1 else 0:=fun j i hi=>by
  rw [getElem!_pos _ i (by rw [Ul];exact hi),List.getElem_map,getElem!_pos f i hi]
 have st:=bP (body:=yG) (fun j=>(mX f t,(j:Int),f,U j)) (mX f t).length (fun j hj=>by
  have g:=aD (mX f t) j hj;have hm:=bB hj;have hp:oR f ((mX f t)[j]!).1:=iP.1 (k1.mem_iff.1 (List.mem_map.2 ⟨_,hm,rfl⟩));obtain ⟨i,hi,ei⟩:=hp;have ga:=PU fok.2.2 (by omega) hi ei
  have gu:=aD (U j) i (by rw [Ul];exact hi)
  unfold yG;simp only [aF,aQ (show (j:Int)<((mX f t).length:Int) by omega),cond_true,g,aE,ga,gu,uZ,aW (show j<1000000000 by omega)]
  have eU:(U j).set i ((mX f t)[j]!).2=U (j+1):=by
   refine rR (by rw [List.length_set,Ul,Ul]) fun k hk=>?_
   rw [List.length_set,Ul] at hk;have mm:(f[k]!).1∈((mX f t).take (j+1)).map (fun e=>e.1)↔(f[k]!).1∈((mX f t).take j).map (fun e=>e.1)\/(f[k]!).1∈[(mX f t)[j]!].map (fun e=>e.1):=by rw [dQ hj,List.map_append,List.mem_append]
   rw [bD,Ul,Ua _ k hk,Ua _ k hk]
   by_cases c:k=i
   · subst c
     rw [if_pos ⟨rfl,hi⟩,if_pos (mm.2 (.inr (by rw [ei];exact List.mem_singleton.2 rfl))),ei]
     exact (HW nd (show (((mX f t)[j]!).1,((mX f t)[j]!).2)∈mX f t from hm)).symm
   · rw [if_neg (fun w=>c w.1)]
     have ne: ¬(f[k]!).1∈[(mX f t)[j]!].map fun e=>e.1:=fun w=>c (xD fok.2.2 hk hi ((List.mem_singleton.1 w).trans ei.symm))
     by_cases q:(f[k]!).1∈((mX f t).take j).map fun e=>e.1
     · rw [if_pos q,if_pos (mm.2 (.inl q))]
     · rw [if_neg q,if_neg (fun w=>(mm.1 w).elim q ne)]
  rw [eU])
 have U0:U 0=List.replicate f.length 0:=by
  refine rR (by rw [Ul,List.length_replicate]) fun k hk=>?_
  rw [Ul] at hk;rw [Ua 0 k hk,List.take_zero,List.map_nil,if_neg List.not_mem_nil,getElem!_pos _ k (by rw [List.length_replicate];exact hk),List.getElem_replicate]
 have Un:U (mX f t).length=sA f t:=by
  refine rR (by rw [Ul,yS]) fun k hk=>?_
  rw [Ul] at hk;rw [Ua _ k hk,List.take_length,if_pos (k1.mem_iff.2 (iP.2 ⟨k,hk,rfl⟩)),R8 hk]
 unfold AE;rw [OA fok r64,aE,VU fok,aE];simp only [aF,beq_self_eq_true,cond_true,mk,aE];rw [<- U0];refine (show _=_ from st).trans (aL ?_);unfold yG;simp only [aF,aM (show¬((mX f t).length:Int)<((mX f t).length:Int) by omega),cond_false]
 rw [Un]
theorem KH (U:List Int) (i:Nat):dS f U (i+1)=dS f U i++(if 0<=U[i]! then [((f[i]!).1,U[i]!)] else []):=rfl
theorem JQ {U:List Int} (hU:U.length=f.length) (hf:f.length<=1000):uV ⟨f⟩ U=some (dS f U f.length):=by
 have st:=bP (body:=yH) (fun i=>(U,(i:Int),f,dS f U i)) f.length (fun i hi=>by
  have gu:=aD U i (by omega)
  have gf:=aD f i hi;have el:=pT (f:=f) U i;have ap:bG (dS f U i) [((f[i]!).1,U[i]!)]=some (dS f U i++[((f[i]!).1,U[i]!)]):=cY (by rw [List.length_singleton];omega)
  rw [KH];unfold yH;simp only [aF,aQ (show (i:Int)<(U.length:Int) by omega),cond_true,gu,gf,aE,ap,aW (show i<1000000000 by omega)]
  by_cases c:0<=U[i]!
  · rw [aQ c,cond_true,if_pos c]
  · rw [aM c,cond_false,if_neg c,List.append_nil])
 unfold uV;refine (show _=_ from st).trans (aL ?_);unfold yH;simp only [aF,aM (show¬(f.length:Int)<(U.length:Int) by omega),cond_false]
theorem SD (fok:bM f) (r:bT t) (r64:pK t):lO ⟨f⟩ t=some (sA f t,dS f (sA f t) f.length):=by
 have f1:=fok.1;obtain ⟨k1,_⟩:=DR (t:=t) fok;have nd:=k1.nodup_iff.2 (lI fok.2.2);have ul:=yS f t;have st:=bP (body:=rC) (fun i=>(f,(f.length:Int),(i:Int),jW [] (mX f t),(sA f t).take i,dS f (sA f t) i)) f.length (fun i hi=>by
  have gf:=aD f i hi;have gm:kF 0 (jW [] (mX f t)) (f[i]!).1=(sA f t)[i]!:=by
   rw [VP _ _ _ nd,if_pos (k1.mem_iff.2 (iP.2 ⟨i,hi,rfl⟩)),R8 hi]
  have el:=pT (f:=f) (sA f t) i;have a1:bG ((sA f t).take i) [(sA f t)[i]!]=some ((sA f t).take (i+1)):=by
   rw [dQ (by omega)];exact cY (by rw [List.length_take,List.length_singleton];omega)
  have a2:bG (dS f (sA f t) i) [((f[i]!).1,(sA f t)[i]!)]=some (dS f (sA f t) i++[((f[i]!).1,(sA f t)[i]!)]):=cY (by rw [List.length_singleton];omega)
  rw [KH];unfold rC;simp only [aQ (show (i:Int)<(f.length:Int) by omega),cond_true,gf,aE,gm,a1,a2,aW (show i<1000000000 by omega)]
  by_cases c:0<=(sA f t)[i]!
  · rw [aQ c,cond_true,if_pos c]
  · rw [aM c,cond_false,if_neg c,List.append_nil])
 have en:(sA f t).take f.length=sA f t:=List.take_of_length_le (by omega)
 unfold lO;rw [aKo fok r r64,aE];refine (show _=_ from st).trans (aL ?_);unfold rC;simp only [aM (show¬(f.length:Int)<(f.length:Int) by omega),cond_false,en]
end
theorem YG (a b:List Int) (hl:a.length<=1000000):oG a b=some (decide (a=b)):=by
 unfold oG;simp only [aF]
 by_cases h:a.length=b.length
 case neg=>rw [dB (by omega),aM (fun k=>h (by rw [k]))];rfl
 rw [cA (by omega)]
 simp only [cond_false];have key:=JK (body:=kN) (fun i=>(a,b,(a.length:Int),(i:Int))) a.length (fun i=>a[i]! =b[i]!) (r:=false) (e:=true) (fun i hi=>by
  unfold kN;simp only [aQ (show (i:Int)<(a.length:Int) by omega),cond_true,aD a i hi,aD b i (by omega),aE,aW (show i<1000000000 by omega)]
  constructor
  · intro h;rw [dB h];rfl
  · intro h;rw [cA h];rfl) (by
  unfold kN;simp only [aM (show¬(a.length:Int)<(a.length:Int) by omega),cond_false])
 refine (show _=_ from key).trans ?_
 by_cases q:a=b
 · rw [if_pos (fun i _=>by rw [q]),aQ q]
 · rw [if_neg (fun w=>q (rR h w)),aM q]
theorem VV (a b:List Int) (hl:a.length<=1000000):oY a b=some (decide (a=b)):=by
 unfold oY;simp only [aF]
 by_cases h:a.length=b.length
 case neg=>rw [dB (by omega),aM (fun k=>h (by rw [k]))];rfl
 rw [cA (by omega)]
 simp only [cond_false];have key:=JK (body:=oH) (fun i=>(a,b,(i:Int))) a.length (fun i=>a[i]! =b[i]!) (r:=false) (e:=true) (fun i hi=>by
  unfold oH;simp only [aF,aQ (show (i:Int)<(a.length:Int) by omega),cond_true,aD a i hi,aD b i (by omega),aE,aW (show i<1000000000 by omega)]
  constructor
  · intro h;rw [dB h];rfl
  · intro h;rw [cA h];rfl) (by
  unfold oH;simp only [aF,aM (show¬(a.length:Int)<(a.length:Int) by omega),cond_false])
 refine (show _=_ from key).trans ?_
 by_cases q:a=b
 · rw [if_pos (fun i _=>by rw [q]),aQ q]
 · rw [if_neg (fun w=>q (rR h w)),aM q]
structure jX (k:dP):Prop where
 clk:bF k.clock
 up:sA k.clock.field.points k.clock.now=k.up
 cert:(k.clock.certs.list.map fun x=>x.2).Perm (dS k.clock.field.points k.up k.clock.field.points.length)
theorem OQ {c:aO} (ok:bF c) (E:List (Int×Int)):
 (E.length=c.certs.list.length/\ ∀i,i<c.certs.list.length->(c.certs.list[i]!).2∈E)↔(c.certs.list.map fun x=>x.2).Perm E:=by
 have cl:(c.certs.list.map fun x=>x.2).length=c.certs.list.length:=List.length_map ..
 constructor
 · rintro ⟨h1,h2⟩
   refine tB (DO ok.crt) (fun x hx=>?_) (by omega)
   obtain ⟨i,hi,rfl⟩:=AM.2 hx;exact h2 i hi
 · intro h
   exact ⟨by rw [<- h.length_eq,cl],fun i hi=>h.mem_iff.1 (AM.1 ⟨i,hi,rfl⟩)⟩
theorem SF {c:aO} {E:List (Int×Int)} (nd:E.Nodup) (ld: ∀e∈E,cT (eO c.field.points e.2) (eO c.field.points e.1) c.now):
 (c.certs.list.length=E.length/\ ∀i,i<E.length->xF c.certs.list E[i]!/\cT (eO c.field.points (E[i]!).2) (eO c.field.points (E[i]!).1) c.now)↔(c.certs.list.map fun x=>x.2).Perm E:=by
 have cl:(c.certs.list.map fun x=>x.2).length=c.certs.list.length:=List.length_map ..
 constructor
 · rintro ⟨h1,h2⟩
   refine (tB nd (fun x hx=>?_) (by omega)).symm
   obtain ⟨i,hi,rfl⟩:=aY.1 hx;exact AM.1 (h2 i hi).1
 · intro h
   exact ⟨by rw [<- h.length_eq,cl],fun i hi=>⟨AM.2 (h.mem_iff.2 (bB hi)),ld _ (bB hi)⟩⟩
theorem aBs (es:List (Int×Int)) (l:List vB) (h1:es.length<=1000000) (_:l.length<=1000000):
 aI mK (es,l,(l.length:Int),0)=some (if∀i,i<l.length->(l[i]!).2∈es then 0 else 8):=by
 have key:=JK (body:=mK) (fun i=>(es,l,(l.length:Int),(i:Int))) l.length (fun i=>(l[i]!).2∈es) (r:=8) (e:=0) (fun i hi=>by
  unfold mK;simp only [aQ (show (i:Int)<(l.length:Int) by omega),cond_true,aD l i hi,aE,pA es _ h1,aW (show i<1000000000 by omega)]
  refine ⟨fun q=>?_,fun q=>?_⟩
  · rw [aM q];rfl
  · rw [aQ q];rfl) (by
  unfold mK;simp only [aM (show¬(l.length:Int)<(l.length:Int) by omega),cond_false])
 refine (show _=_ from key).trans ?_
 by_cases q: ∀i,i<l.length->(l[i]!).2∈es
 · rw [if_pos q,if_pos q]
 · rw [if_neg q,if_neg q]
theorem KT {k:dP} (fit:rW k.clock):jU k=some (if jX k then 0 else 8):=by
 unfold jU;rw [nY fit,aE]
 by_cases ok:bF k.clock
 case neg=>rw [if_neg ok,if_neg (fun h=>ok h.clk)];rfl
 rw [if_pos ok,cA rfl,cond_false];have bd:=ok.bd;have f1:=ok.fld.1;have hh:=SD ok.fld ok.nowv ok.now64;have hh:lO k.clock.field k.clock.now=_:=hh;have ul:=yS k.clock.field.points k.clock.now;rw [hh,aE,YG _ _ (show (sA k.clock.field.points k.clock.now).length<=1000000 by omega),aE]
 by_cases hn:sA k.clock.field.points k.clock.now=k.up
 case neg=>rw [aM hn,if_neg (fun h:jX k=>hn h.up)];rfl
 have el:=pT (f:=k.clock.field.points) k.up k.clock.field.points.length;have iff:=OQ ok (dS k.clock.field.points k.up k.clock.field.points.length);rw [aQ hn,Bool.not_true,cond_false,hn];simp only [aF]
 by_cases hc:(dS k.clock.field.points k.up k.clock.field.points.length).length=k.clock.certs.list.length
 case neg=>rw [dB (by omega),cond_true,if_neg (fun h:jX k=>hc (iff.2 h.cert).1)]
 rw [cA (by omega),cond_false,aBs _ _ (by omega) (by omega)]
 by_cases hj: ∀i,i<k.clock.certs.list.length->(k.clock.certs.list[i]!).2∈dS k.clock.field.points k.up k.clock.field.points.length
 · rw [if_pos hj,if_pos (show jX k from ⟨ok,hn,iff.1 ⟨hc,hj⟩⟩)]
 · rw [if_neg hj,if_neg (fun h:jX k=>hj (iff.2 h.cert).2)]
theorem OC {k:dP} (fit:rW k.clock):iS k=some (if jX k then 0 else 8):=by
 unfold iS;rw [N1 fit,aE]
 by_cases ok:bF k.clock
 case neg=>rw [if_neg ok,if_neg (fun h=>ok h.clk)];rfl
 rw [if_pos ok,cA rfl,cond_false];have bd:=ok.bd;have f1:=ok.fld.1;have hu:AE k.clock.field k.clock.now=_:=QA ok.fld ok.now64;have ul:=yS k.clock.field.points k.clock.now;rw [hu,aE,VV _ _ (show (sA k.clock.field.points k.clock.now).length<=1000000 by omega),aE]
 by_cases hn:sA k.clock.field.points k.clock.now=k.up
 case neg=>rw [aM hn,if_neg (fun h:jX k=>hn h.up)];rfl
 have of:uV k.clock.field (sA k.clock.field.points k.clock.now)=_:=JQ (f:=k.clock.field.points) ul (by omega)
 obtain ⟨eok,nd,ld⟩:=JN (t:=k.clock.now) ok.fld;rw [aQ hn,Bool.not_true,cond_false,of,aE,aKk ok _ eok.kn,aE];have iff:=SF (c:=k.clock) nd ld
 by_cases hj:k.clock.certs.list.length=(dS k.clock.field.points (sA k.clock.field.points k.clock.now) k.clock.field.points.length).length/\ ∀i,i<(dS k.clock.field.points (sA k.clock.field.points k.clock.now) k.clock.field.points.length).length->xF k.clock.certs.list (dS k.clock.field.points (sA k.clock.field.points k.clock.now) k.clock.field.points.length)[i]!/\cT (eO k.clock.field.points ((dS k.clock.field.points (sA k.clock.field.points k.clock.now) k.clock.field.points.length)[i]!).2) (eO k.clock.field.points ((dS k.clock.field.points (sA k.clock.field.points k.clock.now) k.clock.field.points.length)[i]!).1) k.clock.now
 · rw [aQ hj,if_pos (show jX k from ⟨ok,hn,by rw [<- hn];exact iff.1 hj⟩)];rfl
 · rw [aM hj,if_neg (fun h:jX k=>hj (iff.2 (by rw [hn];exact h.cert)))];rfl
structure OD (k:dP):Prop where
 c:P7 k.clock
 n:k.up.length<=1000
theorem xK:OD ⟨dE,[]⟩:=⟨OO,Nat.zero_le _⟩
theorem VW {k:dP} (h:OD k):BP k k=some true:=by
 have hn:=h.n;unfold BP;rw [X8 h.c,aE,cond_true,VV _ _ (by omega),aE,aQ rfl]
theorem SG (k:dP):uP k=some true\/(uP k=some false/\OD k):=by
 unfold uP
 rcases VI k.clock with e|⟨e,sh⟩
 · rw [e];exact .inl rfl
 rw [e,aE,cond_false,aF]
 by_cases h:70<k.up.length
 · rw [aQ (by omega)];exact .inl rfl
 · rw [aM (by omega)];exact .inr ⟨rfl,sh,by omega⟩
theorem YH {c:aO} (ok:bF c) {f:List Pt} (fok:bM f):
 ∃R:aO×Int,qF c ⟨f⟩ (dS f (sA f c.now) f.length)=some R/\mT c ⟨f⟩ (dS f (sA f c.now) f.length)=some R/\(R.2=0/\HS c f (dS f (sA f c.now) f.length) R.1\/R=(dE,18)):=by
 have f1:=fok.1;obtain ⟨eok,nd,_⟩:=JN (t:=c.now) fok;have el:=pT (f:=f) (sA f c.now) f.length;obtain ⟨R,r1,r2,r3⟩:=aKg ok fok eok;have ee:oN f (dS f (sA f c.now) f.length)=0:=by
  unfold oN;rw [if_neg (Classical.not_not.2 eok.cv),if_neg (Classical.not_not.2 nd),if_neg (fun h=>h eok.kn)]
 have rn:=N6 ok fok (es:=dS f (sA f c.now) f.length) (by omega) (fun _=>r1)
 rw [if_pos ee] at rn;exact ⟨R,rn,r2,r3⟩
structure aP7 (c:aO) (f:List Pt) (R:dP×Int):Prop where
 err:R.2=0
 up:R.1.up=sA f c.now
 ren:HS c f (dS f (sA f c.now) f.length) R.1.clock
theorem SH {c:aO} (ok:bF c) {f:List Pt} (fok:bM f):
 ∃R:dP×Int,nM c ⟨f⟩=some R/\wZ c ⟨f⟩=some R/\(aP7 c f R\/R=(⟨dE,[]⟩,18)):=by
 have f1:=fok.1;obtain ⟨R,r1,r2,r3⟩:=YH ok fok;have hh:=SD fok ok.nowv ok.now64;have hu:=QA fok ok.now64;have of:=JQ (f:=f) (yS f c.now) (by omega)
 unfold nM wZ;rw [hh,aE,hu,aE,of,aE];rcases r3 with ⟨q0,qq⟩|he
 · refine ⟨(⟨R.1,sA f c.now⟩,0),?_,?_,.inl ⟨rfl,rfl,qq⟩⟩
   · rw [r1,aE,cA q0,cond_false]
   · rw [r2,aE,cA q0,cond_false]
 · refine ⟨(⟨dE,[]⟩,18),?_,?_,.inr rfl⟩
   · rw [r1,aE,he];rfl
   · rw [r2,aE,he];rfl
theorem HS.same {c:aO} {f:List Pt} {es:List (Int×Int)} {r:aO} (h:HS c f es r) (nd:es.Nodup):(r.certs.list.map fun x=>x.2).Perm es:=by
 refine (List.perm_ext_iff_of_nodup (DO h.ok.crt) nd).2 fun x=>⟨fun hx=>?_,fun hx=>AM.1 (h.has x hx)⟩
 obtain ⟨y,hy,rfl⟩:=List.mem_map.1 hx;exact h.sub y hy
theorem aP7.ok {c:aO} {f:List Pt} {R:dP×Int} (fok:bM f) (h:aP7 c f R):jX R.1 where
 clk:=h.ren.ok
 up:=by rw [h.ren.fld,h.ren.now,h.up]
 cert:=by rw [h.ren.fld,h.up];exact h.ren.same (JN fok).2.1
theorem jX.short {k:dP} (h:jX k):OD k:=⟨h.clk.short,by have:=h.clk.fld.1;rw [<- h.up,yS];omega⟩
theorem IB (f:Field) {t:Int×Int} (r64:pK t): ∃R:dP×Int,oD f t=some R/\qL f t=some R/\OD R.1:=by
 have cn:=R9 f r64
 by_cases h:jV f.points=0
 case neg=>
  rw [if_pos h] at cn;refine ⟨(⟨dE,[]⟩,jV f.points),?_,?_,xK⟩
  · unfold oD
    rw [cn,aE,dB h,cond_true]
  · unfold qL
    rw [rU,aE,dB h,cond_true,aE]
 rw [if_neg (show¬jV f.points≠0 from fun k=>k h)] at cn
 have fok:=lR.1 h;have f1:=fok.1
 by_cases rt:bT t
 case neg=>
  rw [if_neg rt] at cn;refine ⟨(⟨dE,[]⟩,8),?_,?_,xK⟩
  · unfold oD
    rw [cn,aE,dB (by decide),cond_true]
  · unfold qL
    rw [rU,aE,cA h,cond_false,rT r64,if_neg rt,aE,dB (by decide),cond_true]
 rw [if_pos rt] at cn;obtain ⟨R,r1,r2,r3⟩:=SH (aBo fok rt r64) fok;have r1:nM (N9 f t) f=some R:=r1;have r2:wZ (N9 f t) f=some R:=r2;refine ⟨R,?_,?_,?_⟩
 · unfold oD
   rw [cn,aE,cA rfl,cond_false,r1,aE]
 · unfold qL
   rw [rU,aE,cA h,cond_false,rT r64,if_pos rt,aE,cA rfl,cond_false,YD f1 t,aE,r2,aE]
 · rcases r3 with q|e
   · exact (q.ok fok).short
   · rw [e];exact xK
theorem VX {k:dP} (ok:jX k) (c1:jU k=some 0) (c2:iS k=some 0): ∃b:Int×Int,mU k=some b/\oJ k=some b:=by
 have fok:=ok.clk.fld;have f1:=fok.1;have ul:=yS k.clock.field.points k.clock.now;rw [ok.up] at ul;unfold mU oJ;rw [c1,c2,aE,aE,cA rfl,cond_false,cond_false,aF]
 by_cases h0:k.up.length=0
 · refine ⟨(0,42),?_,?_⟩
   · rw [(VK k.up (-1) (by omega)).2 (fun j hj=>by omega),aE,aQ (by decide),cond_true]
   · rw [fQ (by omega),cond_true]
 have so:=yR fok.2.2 k.clock.now;have op:=JP fok.2.2 k.clock.now;have ol:=rY k.clock.field.points k.clock.now k.clock.field.points.length;obtain ⟨i,hi,ei⟩:=iP.1 (op.mem_iff.2 (bB (l:=CI k.clock.field.points k.clock.now k.clock.field.points.length) (i:=0) (by omega)))
 have first: ∀q∈k.clock.field.points,¬cT q (k.clock.field.points[i]!) k.clock.now:=fun q hq hl=>by
  obtain ⟨p,hp,ep⟩:=aY.1 (op.mem_iff.1 (show q.1∈iB k.clock.field.points from List.mem_map.2 ⟨q,hq,rfl⟩))
  by_cases z:p=0
  · subst z
    rw [<- ei] at ep
    have:k.clock.field.points[i]! =q:=by
     have a1:=oM fok.2.2 hi rfl;have a2:=AN fok.2.2 hq;rw [ep] at a1;rw [<- a1,a2]
    rw [this] at hl;exact qP hl hl
  · have lo:=OB fok.2.2 k.clock.now (p:=0) (q:=p) (by omega) (by omega)
    rw [ep,<- ei] at lo;have lo:cT (eO k.clock.field.points (k.clock.field.points[i]!).1) (eO k.clock.field.points q.1) k.clock.now:=lo;rw [oM fok.2.2 hi rfl,AN fok.2.2 hq] at lo;exact qP lo hl
 have ui:k.up[i]! = -1:=by rw [<- ok.up];exact (aAk fok hi).2 first
 have uo: ∀j,j<i->k.up[j]!≠ -1:=fun j hj e=>by
  rw [<- ok.up] at e;have fj:=(aAk fok (show j<k.clock.field.points.length by omega)).1 e
  have o:=HU fok.2.2 k.clock.now
  by_cases c:V0 k.clock.field.points k.clock.now j i
  · exact first _ (bB (by omega)) c
  · exact fj _ (bB hi) (o.tot j i (by omega) hi (by omega) c)
 refine ⟨((k.clock.field.points[i]!).1,0),?_,?_⟩
 · rw [(VK k.up (-1) (by omega)).1 i (by omega) ui uo,aE,aM (by omega),cond_false,aD _ i hi,aE]
 · have g:=aD (CI k.clock.field.points k.clock.now k.clock.field.points.length) 0 (by omega)
   rw [show ((0:Nat):Int)=0 from rfl,<- ei] at g;rw [eG (by omega),cond_false,show mR k.clock.field k.clock.now=_ from OA fok ok.clk.now64,aE,g,aE]
theorem SI {k:dP} (fit:rW k.clock): ∃(a:List (Int×Int)×Int) (b:Int×Int) (m:Int),rM k=some a/\uY k=some a/\mU k=some b/\oJ k=some b/\jU k=some m/\iS k=some m/\a.1.length<=1000:=by
 have c1:=KT fit;have c2:=OC fit
 by_cases ok:jX k
 case neg=>
  rw [if_neg ok] at c1 c2;refine ⟨([],8),(0,8),8,?_,?_,?_,?_,c1,c2,Nat.zero_le _⟩
  · unfold rM;rw [c1];rfl
  · unfold uY;rw [c2];rfl
  · unfold mU;rw [c1];rfl
  · unfold oJ;rw [c2];rfl
 rw [if_pos ok] at c1 c2;have fok:=ok.clk.fld;have f1:=fok.1;have ul:=yS k.clock.field.points k.clock.now;have hh:lO k.clock.field k.clock.now=_:=SD fok ok.clk.nowv ok.clk.now64;have of:uV k.clock.field (sA k.clock.field.points k.clock.now)=_:=JQ (f:=k.clock.field.points) ul (by omega)
 rw [ok.up] at of hh;have el:=pT (f:=k.clock.field.points) k.up k.clock.field.points.length;obtain ⟨b,l1,l2⟩:=VX ok c1 c2;refine ⟨(dS k.clock.field.points k.up k.clock.field.points.length,0),b,0,?_,?_,l1,l2,c1,c2,by show (dS _ _ _).length<=1000;omega⟩
 · unfold rM
   rw [c1,aE,cA rfl,cond_false,hh,aE]
 · unfold uY
   rw [c2,aE,cA rfl,cond_false,of,aE]
theorem AP (f:Field) (t:Int×Int) (k:dP) (r64:pK t) (n:aKh k.clock):pS f t k=some true:=by
 unfold pS;rcases KD f with e|⟨e,_⟩
 · rw [e];rfl
 rw [e,aE,cond_false];rcases SG k with e|⟨e,sh⟩
 · rw [e];rfl
 rw [e,aE,cond_false];obtain ⟨R,b1,b2,b3⟩:=IB f r64;have fit:rW k.clock:=⟨n.now,⟨sh.c.s3,sh.c.h,sh.c.w,n.at64⟩,sh.c.d⟩;obtain ⟨a,b,m,m1,m2,m3,m4,m5,m6,m7⟩:=SI fit;simp only [b1,b2,aE,m1,m2,m3,m4,VW b3,cond_true,m5,m6,beq_self_eq_true,X9 a.1 (by omega)]
theorem aKh.of {c:aO} (h1:RT.wf [.i .i64,.i .i64] c.now) (h2: ∀a∈c.agenda.heap,RT.wf [.i .i64,.i .i64,.i .i64,.i .i64,.i .i64] a):aKh c where
 now:=⟨I5 h1.1,I5 h1.2⟩
 at64 w hw:=by
  have:=h2 (c.agenda.heap[w]!) (by rw [getElem!_pos c.agenda.heap w hw];exact List.getElem_mem hw)
  exact ⟨I5 this.1,I5 this.2.1⟩
end Go.Proofs.YtbncnimfgdelaaaGreat
