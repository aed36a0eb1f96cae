/- Plain laws (4). -/
import Derived.Test.YtbncnimfgdelaaaGreatFEQM3
import Derived.Test.YtbncnimfgdelaaaGreatFEQS1
import Derived.Test.YtbncnimfgdelaaaGreatFEVm3
namespace Go.Proofs.YtbncnimfgdelaaaGreat
open Go.Vm Classical
theorem OT (p q:Pt) (t:Int×Int):MU p q t=(p.2.1*t.2+p.2.2*t.1) - (q.2.1*t.2+q.2.2*t.1):=by
 rw [aGB,Int.sub_mul,Int.sub_mul];omega
theorem HM {p q r:Pt} {t:Int×Int} (h1:cN p q t) (h2:cN q r t):cN p r t:=by
 unfold cN at*;rw [OT] at*;generalize p.2.1*t.2+p.2.2*t.1=a at*;generalize q.2.1*t.2+q.2.2*t.1=b at*;generalize r.2.1*t.2+r.2.2*t.1=c at*;omega
theorem AY {p q:Pt} (t:Int×Int) (h:p.1≠q.1) (hn: ¬cN p q t):cN q p t:=by
 unfold cN at*;rw [OT] at*;generalize p.2.1*t.2+p.2.2*t.1=a at*;generalize q.2.1*t.2+q.2.2*t.1=b at*;omega
structure SO (P:Int->Int->Prop) (S:Int->Prop):Prop where
 irr: ∀a,S a-> ¬P a a
 tr: ∀a b c,S a->S b->S c->P a b->P b c->P a c
 tot: ∀a b,S a->S b->a≠b->P a b\/P b a
abbrev par (j:Nat):Nat:=(j-1) / 2
def Hp (P:Int->Int->Prop) (l:List Int):Prop:= ∀j,0<j->j<l.length-> ¬P l[j]! l[par j]!
section
variable {P : Int -> Int -> Prop} {S : Int -> Prop}
theorem SO.asym (o:SO P S) {a b:Int} (ha:S a) (hb:S b) (h:P a b): ¬P b a:=fun k=>o.irr a ha (o.tr a b a ha hb ha h k)
theorem SO.ntr (o:SO P S) {a b c:Int} (ha:S a) (hb:S b) (hc:S c) (h1: ¬P a b) (h2: ¬P b c): ¬P a c:=fun h=>by
 by_cases e:b=c
 · exact h1 (e▸h)
 · rcases o.tot b c hb hc e with k|k
   · exact h2 k
   · exact h1 (o.tr a c b ha hc hb h k)
theorem SO.up (o:SO P S) {a b c:Int} (ha:S a) (hb:S b) (hc:S c) (h1:P b c) (h2: ¬P a c): ¬P a b:=fun h=>h2 (o.tr a b c ha hb hc h h1)
end
noncomputable def kO (P:Int->Int->Prop):List Int->Int
 | []=>0
 |x::r=>r.foldl (fun t y=>if P y t then y else t) x
noncomputable def gE (bit:Int->Nat->Nat) (l:List Int) (top:Int) (d b:Nat):List Int:=l.filter fun x=>decide (x≠top/\bit x d=b)
noncomputable def dC (P:Int->Int->Prop) (bit:Int->Nat->Nat):Nat->List Int->Int->Nat->List (Int×Int)
 |0,_,_,_=>[]
 |_+1,[],_,_=>[]
 |n+1,x::r,u,d=>(kO P (x::r),u)::(dC P bit n (gE bit (x::r) (kO P (x::r)) d 0) (kO P (x::r)) (d+1)++dC P bit n (gE bit (x::r) (kO P (x::r)) d 1) (kO P (x::r)) (d+1))
section
variable {P : Int -> Int -> Prop} {S : Int -> Prop} {bit : Int -> Nat -> Nat}
theorem K7 (o : SO P S) : ∀ (r : List Int) (x : Int), S x -> (∀ y ∈ r, S y) -> (r.foldl (fun t y => if P y t then y else t) x = x \/ r.foldl (fun t y => if P y t then y else t) x ∈ r) /\
    ¬ P x (r.foldl (fun t y => if P y t then y else t) x) /\ ∀ y ∈ r, ¬ P y (r.foldl (fun t y => if P y t then y else t) x)
  | [], x, hx, _ => ⟨.inl rfl, o.irr x hx, fun y h => by cases h⟩
  | z :: r, x, hx, hr => by
    rw [List.foldl_cons]
    have hz := hr z List.mem_cons_self
    have hr' : ∀ y ∈ r, S y := fun y hy => hr y (List.mem_cons_of_mem _ hy)
    by_cases c : P z x
    · rw [if_pos c]
      obtain ⟨a1, a2, a3⟩ := K7 o r z hz hr'
      have hT : S (r.foldl (fun t y => if P y t then y else t) z) := by
        rcases a1 with e | e
        · rw [e]; exact hz
        · exact hr' _ e
      refine ⟨.inr (by rcases a1 with e | e; · rw [e]; exact List.mem_cons_self
                       · exact List.mem_cons_of_mem _ e), ?_, fun y hy => ?_⟩
      · exact o.ntr hx hz hT (o.asym hz hx c) a2
      · rcases List.mem_cons.1 hy with rfl | hy
        · exact a2
        · exact a3 y hy
    · rw [if_neg c]
      obtain ⟨a1, a2, a3⟩ := K7 o r x hx hr'
      have hT : S (r.foldl (fun t y => if P y t then y else t) x) := by
        rcases a1 with e | e
        · rw [e]; exact hx
        · exact hr' _ e
      refine ⟨a1.imp id (List.mem_cons_of_mem _), a2, fun y hy => ?_⟩
      rcases List.mem_cons.1 hy with rfl | hy
      · exact o.ntr hz hx hT c a2
      · exact a3 y hy
theorem pW (o:SO P S) {l:List Int} (h0:l≠[]) (hS: ∀x∈l,S x):kO P l∈l/\ ∀y∈l,¬P y (kO P l):=by
 cases l with
 |nil=>exact absurd rfl h0
 |cons x r=>
  obtain ⟨a1,a2,a3⟩:=K7 o r x (hS x List.mem_cons_self) (fun y hy=>hS y (List.mem_cons_of_mem _ hy))
  refine ⟨?_,fun y hy=>?_⟩
  · rcases a1 with e|e
    · show r.foldl _ x∈_;rw [e];exact List.mem_cons_self
    · exact List.mem_cons_of_mem _ e
  · rcases List.mem_cons.1 hy with rfl|hy
    · exact a2
    · exact a3 y hy
theorem RX (o:SO P S) {l:List Int} (hS: ∀x∈l,S x) {a:Int} (ha:a∈l) (h: ∀y∈l,¬P y a):kO P l=a:=by
 obtain ⟨b1,b2⟩:=pW o (List.ne_nil_of_mem ha) hS;rcases Classical.em (kO P l=a) with e|e
 · exact e
 · rcases o.tot _ _ (hS _ b1) (hS _ ha) e with k|k
   · exact absurd k (h _ b1)
   · exact absurd k (b2 _ ha)
theorem XO (o:SO P S) {l l':List Int} (hS: ∀x∈l,S x) (p:l.Perm l'):kO P l=kO P l':=by
 by_cases h0:l=[]
 · subst h0;rw [List.nil_perm.1 p]
 · have h0':l'≠[]:=fun e=>by subst e;exact h0 (List.perm_nil.1 p)
   obtain ⟨b1,b2⟩:=pW o h0' (fun x hx=>hS x (p.mem_iff.2 hx))
   exact RX o hS (p.mem_iff.2 b1) fun y hy=>b2 y (p.mem_iff.1 hy)
theorem cC {l:List Int} {top:Int} {d b:Nat} {x:Int}:x∈gE bit l top d b↔x∈l/\x≠top/\bit x d=b:=by
 unfold gE;rw [List.mem_filter,decide_eq_true_iff]
theorem sU {l:List Int} {top:Int} (h:top∈l) (d b:Nat):(gE bit l top d b).length<l.length:=by
 unfold gE;refine List.length_filter_lt_length_iff_exists.2 ⟨top,h,?_⟩;simp
theorem jA {l:List Int} (h:l.Nodup) (top:Int) (d b:Nat):(gE bit l top d b).Nodup:=h.filter _
theorem DS (o:SO P S): ∀(n:Nat) (l l':List Int) (u:Int) (d:Nat),(∀x∈l,S x)->l.Perm l'->dC P bit n l u d=dC P bit n l' u d
 |0,_,_,_,_,_,_=>by simp only [dC]
 |n+1,[],l',u,d,_,p=>by rw [List.nil_perm.1 p]
 |n+1,x::r,[],u,d,_,p=>by have:=p.length_eq;simp at this
 |n+1,x::r,y::q,u,d,hS,p=>by
  have e:=XO o hS p;simp only [dC];rw [<- e];have sp: ∀b,(gE bit (x::r) (kO P (x::r)) d b).Perm (gE bit (y::q) (kO P (x::r)) d b):=fun b=>p.filter _
  rw [DS o n _ _ (kO P (x::r)) (d+1) (fun z hz=>hS z (cC.1 hz).1) (sp 0),DS o n _ _ (kO P (x::r)) (d+1) (fun z hz=>hS z (cC.1 hz).1) (sp 1)]
theorem K8 {α:Type} [BEq α] [LawfulBEq α]: ∀{a b:List α},a.Nodup->(∀x∈a,x∈b)->a.length<=b.length
 | [],_,_,_=>Nat.zero_le _
 |x::a,b,hd,h=>by
  rw [List.nodup_cons] at hd;have hx:=h x List.mem_cons_self
  have:=K8 (a:=a) (b:=b.erase x) hd.2 (fun y hy=>by
   rw [List.mem_erase_of_ne (fun e=>hd.1 (by rw [<- e];exact hy))]
   exact h y (List.mem_cons_of_mem _ hy))
  rw [List.length_erase_of_mem hx] at this
  have:=List.length_pos_of_mem hx
  rw [List.length_cons];omega
theorem pX (o:SO P S) (hb: ∀x d,bit x d<2): ∀(n:Nat) (l:List Int) (u:Int) (d:Nat),(∀x∈l,S x)->l.Nodup->l.length<=n->((dC P bit n l u d).map fun e=>e.1).Perm l/\ ∀e∈dC P bit n l u d,e.2=u\/(e.2∈l/\P e.2 e.1)
 |0,l,u,d,_,_,h=>by
  have:l=[]:=List.length_eq_zero_iff.1 (by omega)
  subst this;exact ⟨List.Perm.refl _,fun e he=>by simp only [dC] at he;cases he⟩
 |n+1,[],u,d,_,_,_=>⟨List.Perm.refl _,fun e he=>by simp only [dC] at he;cases he⟩
 |n+1,x::r,u,d,hS,nd,h=>by
  obtain ⟨t1,t2⟩:=pW o (List.cons_ne_nil x r) hS;have ih: ∀b,_:=fun b=>pX o hb n (gE bit (x::r) (kO P (x::r)) d b) (kO P (x::r)) (d+1) (fun z hz=>hS z (cC.1 hz).1) (jA nd _ d b) (by have:=sU (bit:=bit) t1 d b;omega)
  have pb: ∀b,∀e∈dC P bit n (gE bit (x::r) (kO P (x::r)) d b) (kO P (x::r)) (d+1),e.2∈x::r/\P e.2 e.1:=fun b e he=>by
   have k:e.1∈gE bit (x::r) (kO P (x::r)) d b:=(ih b).1.mem_iff.1 (List.mem_map.2 ⟨e,he,rfl⟩);rcases (ih b).2 e he with q|⟨q1,q2⟩
   · rw [q]
     refine ⟨t1,?_⟩;obtain ⟨k1,k2,_⟩:=cC.1 k;rcases o.tot _ _ (hS _ t1) (hS _ k1) (fun e=>k2 e.symm) with w|w
     · exact w
     · exact absurd w (t2 _ k1)
   · exact ⟨(cC.1 q1).1,q2⟩
  refine ⟨?_,fun e he=>?_⟩
  · simp only [dC,List.map_cons,List.map_append]
    refine (List.Perm.cons _ ((ih 0).1.append (ih 1).1)).trans ?_;refine tZ (List.nodup_cons.2 ⟨fun hm=>?_,List.nodup_append.2 ⟨jA nd _ d 0,jA nd _ d 1,fun a ha b hb' e=>?_⟩⟩) (fun y hy=>?_) ?_
    · rcases List.mem_append.1 hm with hm|hm<;>exact (cC.1 hm).2.1 rfl
    · have w1:=(cC.1 ha).2.2
      have w2:=(cC.1 hb').2.2;rw [e,w2] at w1;omega
    · rcases List.mem_cons.1 hy with rfl|hy
      · exact t1
      · rcases List.mem_append.1 hy with hy|hy<;>exact (cC.1 hy).1
    · have sub:(x::r).length<=(kO P (x::r)::(gE bit (x::r) (kO P (x::r)) d 0++gE bit (x::r) (kO P (x::r)) d 1)).length:=K8 nd fun y hy=>by
       by_cases c:y=kO P (x::r)
       · rw [c];exact List.mem_cons_self
       · refine List.mem_cons_of_mem _ (List.mem_append.2 ?_)
         have:=hb y d
         by_cases z:bit y d=0
         · exact .inl (cC.2 ⟨hy,c,z⟩)
         · exact .inr (cC.2 ⟨hy,c,by omega⟩)
      exact sub
  · simp only [dC] at he
    rcases List.mem_cons.1 he with rfl|he
    · exact .inl rfl
    · rcases List.mem_append.1 he with he|he
      · exact .inr (pb 0 e he)
      · exact .inr (pb 1 e he)
end
noncomputable def mE (f:List Pt) (es:List (Int×Int)):Int:=if¬(∀x∈es,eT x) then 8 else if¬es.Nodup then 14 else if¬(∀x∈es,jZ f x) then 6 else 0
def rP (c:aR) (f:List Pt) (es:List (Int×Int)) (i:Nat):=
 (es,es,(es.length:Int),(i:Int),c.now.1,c.now.2,c.field.points,c.certs.next_,c.certs.list,c.agenda.slots.uses,c.agenda.slots.used,c.agenda.slots.free,c.agenda.heap,c.agenda.where_,c.due,f,(0:Int),(0:Int),(0:Int))
theorem K9 {c:aR} (ok:bH c) {f:List Pt} (fok:bC f) {es:List (Int×Int)} (hl:es.length<=1000) {r:aR×Int} (hr:mE f es=0->rG c ⟨f⟩ es=some r):
 nJ c ⟨f⟩ es=some (if mE f es=0 then r else (iF,mE f es)):=by
 have bd:=ok.bd;have ab:=ok.agd.bd;have sl:=ok.agd.so.fl;have sn:=ok.agd.so.n2;have su:=ok.agd.so.ul;have el:decide ((es.length:Int)<(es.length:Int))=false:=aL (by omega)
 have hc:fZ c=some 0:=by rw [AW ok.fit,if_pos ok]
 have hf:hH ⟨f⟩=some 0:=by rw [oN];exact congrArg some (kH.2 fok)
 have tw:tK (aR.mk (c.now.1,c.now.2) (Field.mk c.field.points) (aZ.mk c.certs.next_ c.certs.list) (aO.mk (aW.mk c.agenda.slots.uses c.agenda.slots.used c.agenda.slots.free) c.agenda.heap c.agenda.where_) c.due)=some c:=by
  unfold tK;simp only [bG (show c.field.points.length<=1048576 by omega),bG (show c.certs.list.length<=1048576 by omega),bG (show c.due.length<=1048576 by omega),bG (show c.agenda.heap.length<=1048576 by omega),bG (show c.agenda.where_.length<=1048576 by omega),
   bG (show c.agenda.slots.uses.length<=1048576 by omega),bG (show c.agenda.slots.used.length<=1048576 by omega),bG (show c.agenda.slots.free.length<=1048576 by omega),aF]
 have k3: ∀e2:aR×Int,aE dH (rP c f es 0)=some (.done e2)->aE dI (rP c f es 0)=some (if∀i,i<es.length->eT es[i]! then e2 else (iF,8)):=by
  intro e2 h2;refine OS (body:=dI) (fun i=>rP c f es i) es.length (fun i=>eT es[i]!) (r:=(iF,8)) (e:=e2) (fun i hi=>?_) ?_
  · have e1:decide ((i:Int)<(es.length:Int))=true:=aQ (by omega)
    unfold dI rP eT;simp only [e1,cond_true,aD es i hi,aF,aX (show i<1000000000 by omega)]
    generalize es[i]! =x
    by_cases a1:x.1<0
    · rw [aQ a1];exact ⟨fun _=>rfl,fun h=>by omega⟩
    rw [aL a1]
    by_cases a2:x.2<0
    · rw [aQ a2];exact ⟨fun _=>rfl,fun h=>by omega⟩
    rw [aL a2]
    by_cases a3:65535<x.1
    · rw [aQ a3];exact ⟨fun _=>rfl,fun h=>by omega⟩
    rw [aL a3]
    by_cases a4:65535<x.2
    · rw [aQ a4];exact ⟨fun _=>rfl,fun h=>by omega⟩
    rw [aL a4]
    by_cases a5:x.1=x.2
    · rw [gL a5];exact ⟨fun _=>rfl,fun h=>absurd a5 h.2.2.2.2⟩
    · rw [dY a5];exact ⟨fun h=>absurd ⟨by omega,by omega,by omega,by omega,a5⟩ h,fun _=>rfl⟩
  · unfold dI rP
    simp only [aH,el,cond_false];exact h2
 have k2: ∀e1:aR×Int,aE dX (rP c f es 0)=some (.done (.done e1))->aE dH (rP c f es 0)=some (.done (if∀i,i<es.length->es[i]!∉es.take i then e1 else (iF,14))):=by
  intro e0 h2
  have:=OS (body:=dH) (fun i=>rP c f es i) es.length (fun i=>es[i]!∉es.take i) (r:= .done (iF,14)) (e:= .done e0) (fun i hi=>by
   have e1:decide ((i:Int)<(es.length:Int))=true:=aQ (by omega)
   unfold dH rP;simp only [e1,cond_true,aD es i hi,BM es i (by omega),aF,CW _ _ (show (es.take i).length<=1000000 by rw [List.length_take];omega),aX (show i<1000000000 by omega)]
   by_cases h:es[i]!∈es.take i
   · rw [aQ h];exact ⟨fun _=>rfl,fun k=>absurd h k⟩
   · rw [aL h];exact ⟨fun k=>absurd h k,fun _=>rfl⟩) (by
   unfold dH rP;simp only [aH,el,cond_false];exact h2)
  refine this.trans ?_
  by_cases hb: ∀i,i<es.length->es[i]!∉es.take i
  · rw [if_pos hb,if_pos hb]
  · rw [if_neg hb,if_neg hb]
 have step1: ∀i,i<es.length->(¬jZ f es[i]!->dX (rP c f es i)=some (.done (.done (.done (iF,6)))))/\(jZ f es[i]!->dX (rP c f es i)=some (.next (rP c f es (i+1)))):=by
  intro i hi;have e1:decide ((i:Int)<(es.length:Int))=true:=aQ (by omega)
  obtain ⟨p,e,a1,a2⟩:=CX fok (es[i]!).1;obtain ⟨q,g,b1,b2⟩:=CX fok (es[i]!).2;unfold dX rP jZ;simp only [e1,cond_true,aD es i hi,aF,a1,b1,aX (show i<1000000000 by omega)]
  by_cases h1:mQ f (es[i]!).1
  · rw [dA (a2.2 h1)]
    by_cases h2:mQ f (es[i]!).2
    · rw [dA (b2.2 h2)]
      exact ⟨fun h=>absurd ⟨h1,h2⟩ h,fun _=>rfl⟩
    · rw [dL (fun h=>h2 (b2.1 h))]
      exact ⟨fun _=>rfl,fun h=>absurd h.2 h2⟩
  · rw [dL (fun h=>h1 (a2.1 h))]
    exact ⟨fun _=>rfl,fun h=>absurd h.1 h1⟩
 have start:nJ c ⟨f⟩ es=aE dI (rP c f es 0):=by
  unfold nJ;simp only [hc,aF,show ((0:Int) !=0)=false from rfl,cond_false,hf];rfl
 rw [start]
 by_cases h1: ∀x∈es,eT x
 case neg=>
  have er:mE f es=8:=by unfold mE;rw [if_pos h1]
  rw [er,if_neg (by omega)]
  have:=cU (body:=dI) (fun i=>rP c f es i) es.length (fun i=> ¬eT es[i]!) (r:=(iF,8)) (e:=r)
  have k3':=k3;rw [FA (P:=eT)] at h1;obtain ⟨i,h⟩:=Classical.not_forall.1 h1;obtain ⟨hi,hx⟩:=Classical.not_imp.1 h;obtain ⟨m,m1,m2,m3⟩:=HE (c:=fun i=> ¬eT es[i]!) ⟨i,hi,hx⟩
  have go: ∀j,j<es.length->(¬eT es[j]!->dI (rP c f es j)=some (.done (iF,8)))/\(eT es[j]!->dI (rP c f es j)=some (.next (rP c f es (j+1)))):=by
   intro j hj;have e1:decide ((j:Int)<(es.length:Int))=true:=aQ (by omega)
   unfold dI rP eT;simp only [e1,cond_true,aD es j hj,aF,aX (show j<1000000000 by omega)]
   generalize es[j]! =x
   by_cases a1:x.1<0
   · rw [aQ a1];exact ⟨fun _=>rfl,fun h=>by omega⟩
   rw [aL a1]
   by_cases a2:x.2<0
   · rw [aQ a2];exact ⟨fun _=>rfl,fun h=>by omega⟩
   rw [aL a2]
   by_cases a3:65535<x.1
   · rw [aQ a3];exact ⟨fun _=>rfl,fun h=>by omega⟩
   rw [aL a3]
   by_cases a4:65535<x.2
   · rw [aQ a4];exact ⟨fun _=>rfl,fun h=>by omega⟩
   rw [aL a4]
   by_cases a5:x.1=x.2
   · rw [gL a5];exact ⟨fun _=>rfl,fun h=>absurd a5 h.2.2.2.2⟩
   · rw [dY a5];exact ⟨fun h=>absurd ⟨by omega,by omega,by omega,by omega,a5⟩ h,fun _=>rfl⟩
  rw [bU (body:=dI) (fun i=>rP c f es i) m fun j hj=>(go j (by omega)).2 (Classical.not_not.1 (m3 j hj))]
  exact aP ((go m m1).1 m2)
 have h1':=(FA (P:=eT)).1 h1
 by_cases h2:es.Nodup
 case neg=>
  have er:mE f es=14:=by unfold mE;rw [if_neg (Classical.not_not.2 h1),if_pos h2]
  rw [er,if_neg (by omega)]
  have h2':=h2;rw [K6] at h2';obtain ⟨i,h⟩:=Classical.not_forall.1 h2';obtain ⟨hi,hx⟩:=Classical.not_imp.1 h;obtain ⟨m,m1,m2,m3⟩:=HE (c:=fun i=> ¬es[i]!∉es.take i) ⟨i,hi,hx⟩
  have go: ∀j,j<es.length->(es[j]!∈es.take j->dH (rP c f es j)=some (.done (.done (iF,14))))/\(es[j]!∉es.take j->dH (rP c f es j)=some (.next (rP c f es (j+1)))):=by
   intro j hj;have e1:decide ((j:Int)<(es.length:Int))=true:=aQ (by omega)
   unfold dH rP;simp only [e1,cond_true,aD es j hj,BM es j (by omega),aF,CW _ _ (show (es.take j).length<=1000000 by rw [List.length_take];omega),aX (show j<1000000000 by omega)]
   by_cases h:es[j]!∈es.take j
   · rw [aQ h];exact ⟨fun _=>rfl,fun k=>absurd h k⟩
   · rw [aL h];exact ⟨fun k=>absurd k h,fun _=>rfl⟩
  have l2:aE dH (rP c f es 0)=some (.done (iF,14)):=by
   rw [bU (body:=dH) (fun i=>rP c f es i) m fun j hj=>(go j (by omega)).2 (Classical.not_not.1 (m3 j hj))]
   exact aP ((go m m1).1 (Classical.not_not.1 m2))
  rw [k3 _ l2,if_pos h1']
 have h2':=K6.1 h2
 by_cases h3: ∀x∈es,jZ f x
 case neg=>
  have er:mE f es=6:=by unfold mE;rw [if_neg (Classical.not_not.2 h1),if_neg (Classical.not_not.2 h2),if_pos h3]
  rw [er,if_neg (by omega)]
  have h3':=h3;rw [FA (P:=jZ f)] at h3';obtain ⟨i,h⟩:=Classical.not_forall.1 h3';obtain ⟨hi,hx⟩:=Classical.not_imp.1 h;obtain ⟨m,m1,m2,m3⟩:=HE (c:=fun i=> ¬jZ f es[i]!) ⟨i,hi,hx⟩
  have l1:aE dX (rP c f es 0)=some (.done (.done (iF,6))):=by
   rw [bU (body:=dX) (fun i=>rP c f es i) m fun j hj=>(step1 j (by omega)).2 (Classical.not_not.1 (m3 j hj))]
   exact aP ((step1 m m1).1 m2)
  rw [k3 _ (k2 _ l1),if_pos h1',if_pos h2']
 have h3':=(FA (P:=jZ f)).1 h3;have er:mE f es=0:=by unfold mE;rw [if_neg (Classical.not_not.2 h1),if_neg (Classical.not_not.2 h2),if_neg (Classical.not_not.2 h3)]
 rw [er,if_pos rfl];have l1:aE dX (rP c f es 0)=some (.done (.done r)):=by
  rw [bU (body:=dX) (fun i=>rP c f es i) es.length fun j hj=>(step1 j hj).2 (h3' j hj)]
  refine aP ?_;unfold dX rP;simp only [el,cond_false,tw,aF,hr er]
 rw [k3 _ (k2 _ l1),if_pos h1',if_pos h2']
theorem tk {l:List Int} {m:Nat} {x:Int} (h:l.length=m):(l++[x]).take m=l:=by rw [<- h,List.take_left]
section
variable {k : CG} {f : List Pt} {m n0 : Nat} {x : Int}
end
section
variable {k : CG} {P : Pt} {f : List Pt} {m : Nat}
end
end Go.Proofs.YtbncnimfgdelaaaGreat
namespace Go.Proofs.YtbncnimfgdelaaaGreat
abbrev Nd:=Int×Int×Int
structure RY (P:Nat->Nat->Prop) (a b i:Nat):Prop where
 lo:a<=i
 hi:i<b
 top: ∀j,a<=j->j<b->j≠i->P i j
inductive oQ (P:Nat->Nat->Prop) (N:List Nd):Nat->Nat->Int->Prop
 |nil {a b:Nat} (h:b<=a):oQ P N a b (-1)
 |node {a b i:Nat} (h:RY P a b i) (l:oQ P N a i (N[i]!).2.1) (r:oQ P N (i+1) b (N[i]!).2.2):oQ P N a b (i:Int)
structure aGE (P:Nat->Nat->Prop) (n:Nat):Prop where
 tr: ∀i j k,i<n->j<n->k<n->P i j->P j k->P i k
 asy: ∀i j,i<n->j<n->P i j-> ¬P j i
 tot: ∀i j,i<n->j<n->i≠j-> ¬P i j->P j i
theorem RY.one {P:Nat->Nat->Prop} {n a b i j:Nat} (o:aGE P n) (hb:b<=n) (h:RY P a b i) (k:RY P a b j):i=j:=by
 refine Classical.byContradiction fun hne=>?_
 have:=h.hi;have:=k.hi
 exact o.asy i j (by omega) (by omega) (h.top j k.lo k.hi (fun e=>hne e.symm)) (k.top i h.lo h.hi hne)
theorem oQ.link {P:Nat->Nat->Prop} {N:List Nd} {a b:Nat} {r:Int} (h:oQ P N a b r):(b<=a/\r= -1)\/(∃i:Nat,r=(i:Int)/\a<=i/\i<b):=by
 cases h with
 |nil h=>exact .inl ⟨h,rfl⟩
 |node h l r=>exact .inr ⟨_,rfl,h.lo,h.hi⟩
theorem oQ.unique {P:Nat->Nat->Prop} {n:Nat} (o:aGE P n) {N N':List Nd} {a b:Nat} {r:Int} (h:oQ P N a b r): ∀{r':Int},b<=n->oQ P N' a b r'->r=r'/\ ∀k,a<=k->k<b->(N[k]!).2=(N'[k]!).2:=by
 induction h with
 |nil h=>
  intro r' hb h';cases h' with
  |nil _=>exact ⟨rfl,fun k h1 h2=>by omega⟩
  |node t _ _=>have:=t.lo;have:=t.hi;omega
 | @node a b i h l r ihl ihr=>
  intro r' hb h';have lo:=h.lo;have hi:=h.hi;cases h' with
  |nil q=>omega
  | @node _ _ j t l' r'=>
   have e:=h.one o hb t;subst e;obtain ⟨e1,f1⟩:=ihl (by omega) l'
   obtain ⟨e2,f2⟩:=ihr hb r';refine ⟨rfl,fun k h1 h2=>?_⟩
   rcases Nat.lt_trichotomy k i with q|q|q
   · exact f1 k h1 q
   · subst q;exact Prod.ext e1 e2
   · exact f2 k (by omega) h2
theorem oQ.other {P Q:Nat->Nat->Prop} {n:Nat} (o:aGE Q n) {N:List Nd} {a b:Nat} {r:Int} (h:oQ P N a b r):b<=n->(∀k j:Nat,a<=k->k<b->a<=j->j<b->((N[k]!).2.1=(j:Int)\/(N[k]!).2.2=(j:Int))->Q k j)->oQ Q N a b r:=by
 induction h with
 |nil h=>exact fun _ _=> .nil h
 | @node a b i h l r ihl ihr=>
  intro hb q;have lo:=h.lo;have hi:=h.hi;have tl:=ihl (by omega) fun k j h1 h2 h3 h4=>q k j h1 (by omega) h3 (by omega)
  have tr:=ihr hb fun k j h1 h2 h3 h4=>q k j (by omega) h2 (by omega) h4
  refine .node ⟨lo,hi,fun j h1 h2 hne=>?_⟩ tl tr
  rcases Nat.lt_or_ge j i with hj|hj
  · generalize hr:(N[i]!).2.1=s at tl
    cases tl with
    |nil q=>omega
    | @node _ _ m t _ _=>
     have t1:=t.lo;have t2:=t.hi;have qm:=q i m lo hi t1 (by omega) (.inl hr)
     by_cases e:j=m
     · rw [e];exact qm
     · exact o.tr i m j (by omega) (by omega) (by omega) qm (t.top j h1 hj e)
  · generalize hr:(N[i]!).2.2=s at tr
    cases tr with
    |nil q=>omega
    | @node _ _ m t _ _=>
     have t1:=t.lo;have t2:=t.hi;have qm:=q i m lo hi (by omega) t2 (.inr hr)
     by_cases e:j=m
     · rw [e];exact qm
     · exact o.tr i m j (by omega) (by omega) (by omega) qm (t.top j (by omega) h2 e)
theorem oQ.kids {P:Nat->Nat->Prop} {N:List Nd} {a b:Nat} {r:Int} (h:oQ P N a b r): ∀k,a<=k->k<b-> ∀c:Int,((N[k]!).2.1=c\/(N[k]!).2.2=c)->c= -1\/ ∃j:Nat,c=(j:Int)/\a<=j/\j<b/\j≠k/\P k j/\r≠c:=by
 induction h with
 |nil h=>intro k h1 h2;omega
 | @node a b i h l r ihl ihr=>
  have lo:=h.lo;have hi:=h.hi;intro k h1 h2 c hc;rcases Nat.lt_trichotomy k i with q|q|q
  · rcases ihl k h1 q c hc with e|⟨j,e,j1,j2,j3,j4,_⟩
    · exact .inl e
    · exact .inr ⟨j,e,j1,by omega,j3,j4,by rw [e];omega⟩
  · subst q
    rcases hc with hc|hc
    · rcases l.link with ⟨_,e⟩|⟨j,e,j1,j2⟩
      · exact .inl (hc▸e)
      · exact .inr ⟨j,hc▸e,j1,by omega,by omega,h.top j j1 (by omega) (by omega),by rw [<- hc,e];omega⟩
    · rcases r.link with ⟨_,e⟩|⟨j,e,j1,j2⟩
      · exact .inl (hc▸e)
      · exact .inr ⟨j,hc▸e,by omega,j2,by omega,h.top j (by omega) j2 (by omega),by rw [<- hc,e];omega⟩
  · rcases ihr k (by omega) h2 c hc with e|⟨j,e,j1,j2,j3,j4,_⟩
    · exact .inl e
    · exact .inr ⟨j,e,by omega,j2,j3,j4,by rw [e];omega⟩
theorem oQ.up {P:Nat->Nat->Prop} {N:List Nd} {a b:Nat} {r:Int} (h:oQ P N a b r): ∀k:Nat,a<=k->k<b->(k:Int)≠r-> ∃j,a<=j/\j<b/\((N[j]!).2.1=(k:Int)\/(N[j]!).2.2=(k:Int))/\ ∀m,a<=m->m<b->((N[m]!).2.1=(k:Int)\/(N[m]!).2.2=(k:Int))->m=j:=by
 induction h with
 |nil h=>intro k h1 h2;omega
 | @node a b i h l r ihl ihr=>
  have lo:=h.lo;have hi:=h.hi;have lk:=l.kids;have rk:=r.kids;intro k h1 h2 hne;have hki:k≠i:=fun e=>hne (by rw [e])
  rcases Nat.lt_or_ge k i with q|q
  · by_cases er:(k:Int)=(N[i]!).2.1
    · refine ⟨i,lo,hi,.inl er.symm,fun m m1 m2 hm=>?_⟩
      rcases Nat.lt_trichotomy m i with w|w|w
      · rcases lk m m1 w _ hm with e|⟨j,e,_,_,_,_,hr⟩
        · omega
        · exact absurd er.symm hr
      · exact w
      · rcases rk m (by omega) m2 _ hm with e|⟨j,e,j1,_⟩<;>omega
    · obtain ⟨j,j1,j2,j3,j4⟩:=ihl k h1 q er
      refine ⟨j,j1,by omega,j3,fun m m1 m2 hm=>?_⟩
      rcases Nat.lt_trichotomy m i with w|w|w
      · exact j4 m m1 w hm
      · subst w
        rcases hm with hm|hm
        · exact absurd hm.symm er
        · rcases r.link with ⟨_,e⟩|⟨p,e,p1,p2⟩<;>omega
      · rcases rk m (by omega) m2 _ hm with e|⟨p,e,p1,_⟩<;>omega
  · by_cases er:(k:Int)=(N[i]!).2.2
    · refine ⟨i,lo,hi,.inr er.symm,fun m m1 m2 hm=>?_⟩
      rcases Nat.lt_trichotomy m i with w|w|w
      · rcases lk m m1 w _ hm with e|⟨j,e,_,j2,_⟩<;>omega
      · exact w
      · rcases rk m (by omega) m2 _ hm with e|⟨j,e,_,_,_,_,hr⟩
        · omega
        · exact absurd er.symm hr
    · obtain ⟨j,j1,j2,j3,j4⟩:=ihr k (by omega) h2 er
      refine ⟨j,by omega,j2,j3,fun m m1 m2 hm=>?_⟩
      rcases Nat.lt_trichotomy m i with w|w|w
      · rcases lk m m1 w _ hm with e|⟨p,e,_,p2,_⟩<;>omega
      · subst w
        rcases hm with hm|hm
        · rcases l.link with ⟨_,e⟩|⟨p,e,p1,p2⟩<;>omega
        · exact absurd hm.symm er
      · exact j4 m (by omega) m2 hm
inductive LA (P:Nat->Nat->Prop) (N:List Nd):Nat->Nat->Int->List Nat->Prop
 |nil {a b:Nat} (h:b<=a):LA P N a b (-1) []
 |cons {a b k:Nat} {es:List Nat} (h:RY P a b k) (l:oQ P N a k (N[k]!).2.1) (r:LA P N (k+1) b (N[k]!).2.2 es):LA P N a b (k:Int) (k::es)
theorem LA.tree {P:Nat->Nat->Prop} {N:List Nd} {a b:Nat} {r:Int} {es:List Nat} (h:LA P N a b r es):oQ P N a b r:=by
 induction h with
 |nil h=>exact .nil h
 |cons h l r ih=>exact .node h l ih
theorem LA.mem {P:Nat->Nat->Prop} {N:List Nd} {a b:Nat} {r:Int} {es:List Nat} (h:LA P N a b r es): ∀e∈es,a<=e/\e<b:=by
 induction h with
 |nil h=>intro e he;cases he
 |cons h l r ih=>
  intro e he;have lo:=h.lo;have hi:=h.hi;rcases List.mem_cons.1 he with rfl|he
  · exact ⟨lo,hi⟩
  · have:=ih e he;omega
end Go.Proofs.YtbncnimfgdelaaaGreat
namespace Go.Proofs.YtbncnimfgdelaaaGreat
open Go.Vm Classical
def T7 (f:List Pt) (t:Int×Int) (i j:Nat):Prop:=cN f[i]! f[j]! t
theorem vC {p q:Pt} {t:Int×Int} (h:cN p q t): ¬cN q p t:=by
 unfold cN at*;rw [OT] at*;generalize p.2.1*t.2+p.2.2*t.1=a at*;generalize q.2.1*t.2+q.2.2*t.1=b at*;omega
theorem IJ {f:List Pt} (h:dZ f) (t:Int×Int):aGE (T7 f t) f.length where
 tr:=fun _ _ _ _ _ _ h1 h2=>HM h1 h2
 asy:=fun _ _ _ _ h=>vC h
 tot:=fun _ _ hi hj hne hn=>AY t (fun e=>hne (pU h hi hj e)) hn
structure AZ (f:List Pt) (t:Int×Int) (N:List Nd) (r:Int):Prop where
 len:N.length=f.length
 ids: ∀k,k<f.length->(N[k]!).1=(f[k]!).1
 tree:oQ (T7 f t) N 0 f.length r
theorem AZ.same {f:List Pt} (h:dZ f) {t:Int×Int} {N N':List Nd} {r r':Int} (a:AZ f t N r) (b:AZ f t N' r'):N=N'/\r=r':=by
 obtain ⟨e1,e2⟩:=a.tree.unique (IJ h t) (Nat.le_refl _) b.tree;refine ⟨rR (by rw [a.len,b.len]) fun k hk=>?_,e1⟩
 have hk:k<f.length:=by rw [<- a.len];exact hk
 exact Prod.ext (by rw [a.ids k hk,b.ids k hk]) (e2 k (Nat.zero_le _) hk)
def Below (N:List Nd) (k j:Nat):Prop:=(N[j]!).2.1=(k:Int)\/(N[j]!).2.2=(k:Int)
noncomputable def HZ (N:List Nd) (k:Nat):Nat:=if h: ∃j,j<N.length/\Below N k j then h.choose else N.length
noncomputable def aNB (N:List Nd) (k:Nat):List (Int×Int):=if HZ N k<N.length then [((N[k]!).1,(N[HZ N k]!).1)] else []
noncomputable def aAL (N:List Nd):Nat->List (Int×Int)
 |0=>[]
 |k+1=>aAL N k++aNB N k
section
variable {f : List Pt} {t : Int × Int} {N : List Nd} {r : Int}
theorem AZ.par (h:AZ f t N r) {k:Nat} (hk:k<f.length):((k:Int)=r->HZ N k=N.length)/\((k:Int)≠r->HZ N k<N.length/\Below N k (HZ N k)/\HZ N k≠k/\T7 f t (HZ N k) k)/\ ∀m,m<N.length->Below N k m->m=HZ N k:=by
 have ln:=h.len
 by_cases hr:(k:Int)=r
 · have none: ¬ ∃j,j<N.length/\Below N k j:=by
    rintro ⟨j,hj,hb⟩;rcases h.tree.kids j (Nat.zero_le _) (by omega) (k:Int) hb with e|⟨_,_,_,_,_,_,e⟩
    · omega
    · exact e hr.symm
   have e:HZ N k=N.length:=by unfold HZ;rw [dif_neg none]
   exact ⟨fun _=>e,fun q=>absurd hr q,fun m hm hb=>absurd ⟨m,hm,hb⟩ none⟩
 · obtain ⟨j,_,j2,j3,j4⟩:=h.tree.up k (Nat.zero_le _) hk hr
   have ex: ∃j,j<N.length/\Below N k j:=⟨j,by omega,j3⟩
   have e:HZ N k=j:=by
    unfold HZ;rw [dif_pos ex]
    have:=ex.choose_spec
    exact j4 _ (Nat.zero_le _) (by omega) this.2
   refine ⟨fun q=>absurd q hr,fun _=>?_,fun m hm hb=>by rw [e];exact j4 m (Nat.zero_le _) (by omega) hb⟩
   rw [e];refine ⟨by omega,j3,?_,?_⟩
   · rcases h.tree.kids j (Nat.zero_le _) j2 (k:Int) j3 with q|⟨i,q,_,_,q2,_⟩
     · omega
     · intro w;omega
   · rcases h.tree.kids j (Nat.zero_le _) j2 (k:Int) j3 with q|⟨i,q,_,_,_,q2,_⟩
     · omega
     · have:i=k:=by omega
       rw [<- this];exact q2
end
def o1 (f:List Pt) (t:Int×Int) (e c:Nat) (i:Nat) (root:Int) (N:List Nd) (E:List Int) (left:Int):=
 (e,c,(i:Int),f,(f.length:Int),(i:Int),f,t.1,t.2,(0:Int),root,N,E,(f[i]!).1,(f[i]!).2.1,(f[i]!).2.2,(f[i]!).1,left,(-1:Int))
section
variable {f : List Pt} {t : Int × Int} {N : List Nd} {r : Int}
theorem AZ.link (h:AZ f t N r) {j:Nat} (hj:j<f.length) {c:Int} (hc:(N[j]!).2.1=c\/(N[j]!).2.2=c):c= -1\/(0<=c/\c<N.length):=by
 have ln:=h.len;rcases h.tree.kids j (Nat.zero_le _) hj c hc with e|⟨k,e,_,k2,_⟩
 · exact .inl e
 · exact .inr ⟨by omega,by omega⟩
end
structure aAM (k:OE):Prop where
 clk:bH k.clock
 tree:AZ k.clock.field.points k.clock.now k.tree.nodes k.tree.root
 cert:(k.clock.certs.list.map fun x=>x.2).Perm (aAL k.tree.nodes k.clock.field.points.length)
theorem LB {α:Type} [BEq α] [LawfulBEq α]: ∀{a b:List α},a.Nodup->(∀x∈a,x∈b)->a.length<=b.length
 | [],_,_,_=>Nat.zero_le _
 |x::a,b,hd,h=>by
  rw [List.nodup_cons] at hd;have hx:=h x List.mem_cons_self
  have:=LB (a:=a) (b:=b.erase x) hd.2 (fun y hy=>by
   rw [List.mem_erase_of_ne (fun e=>hd.1 (by rw [<- e];exact hy))]
   exact h y (List.mem_cons_of_mem _ hy))
  rw [List.length_erase_of_mem hx] at this
  have:=List.length_pos_of_mem hx
  rw [List.length_cons];omega
theorem RZ {α:Type} [BEq α] [LawfulBEq α] {a b:List α} (ha:a.Nodup) (hb:b.Nodup) (h1: ∀x∈a,x∈b) (h2: ∀x∈b,x∈a):a.Perm b:=tZ ha h1 (LB hb h2)
structure aAN (R:OE) (F:List Pt) (t:Int×Int):Prop where
 ok:aAM R
 fld:R.clock.field.points=F
 now:R.clock.now=t
theorem aAN.nums {R:OE} {F:List Pt} {t:Int×Int} (h:aAN R F t):wS R.clock:=h.ok.clk.fit
theorem aAN.same {R S:OE} {F:List Pt} {t:Int×Int} (h:aAN R F t) (k:aAN S F t):R.tree=S.tree:=by
 have a:=h.ok.tree;rw [h.fld,h.now] at a;have b:=k.ok.tree;rw [k.fld,k.now] at b;obtain ⟨e1,e2⟩:=a.same (by rw [<- h.fld];exact h.ok.clk.fld.2.2) b
 obtain ⟨_,⟨r,N⟩⟩:=R;obtain ⟨_,⟨r',N'⟩⟩:=S;simp only at e1 e2;subst e1 e2;rfl
theorem LC {f:List Pt} (hs:dZ f) {q:Pt} (h:q∈f):eJ f q.1=q:=by
 obtain ⟨i,hi,rfl⟩:=bE.1 h;exact sP hs hi rfl
theorem IK {f:List Pt} (hs:dZ f) {x:Int} (h:mQ f x):eJ f x∈f/\(eJ f x).1=x:=by
 obtain ⟨i,hi,rfl⟩:=h;rw [LC hs (bF hi)];exact ⟨bF hi,rfl⟩
theorem BT {f:List Pt} (hs:dZ f) (t:Int×Int):SO (fun a b=>cN (eJ f a) (eJ f b) t) (mQ f) where
 irr:=fun a _ h=>vC h h
 tr:=fun _ _ _ _ _ _ h k=>HM h k
 tot:=fun a b ha hb hne=>by
  rcases Classical.em (cN (eJ f a) (eJ f b) t) with h|h
  · exact .inl h
  · exact .inr (AY t (by rw [(IK hs ha).2,(IK hs hb).2];exact hne) h)
abbrev iJ (f:List Pt) (t:Int×Int) (a b:Int):Prop:=cN (eJ f a) (eJ f b) t
theorem M4 {f:List Pt} (hs:dZ f) {t:Int×Int} {l:List Int} (hp: ∀x∈l,mQ f x) (nd:l.Nodup):(∀e∈AX l,cN (eJ f e.2) (eJ f e.1) t)↔Hp (iJ f t) l:=by
 constructor
 · intro h j h1 h2 c
   have hm:(l[j]!,l[par j]!)∈AX l:=by
    refine bE.2 ⟨j-1,by rw [DR];omega,?_⟩
    rw [HK l (show j-1<l.length-1 by omega),show j-1+1=j by omega]
   exact vC c (h _ hm)
 · intro h e he
   obtain ⟨i,hi,rfl⟩:=bE.1 he;rw [DR] at hi;rw [HK l hi]
   have:=h (i+1) (by omega) (by omega)
   have pe:par (i+1)=i / 2:=by simp only [par];omega
   rw [pe] at this;refine AY t ?_ this;rw [(IK hs (hp _ (bF (by omega)))).2,(IK hs (hp _ (bF (by omega)))).2]
   exact fun e=>dR.1 nd (i / 2) (i+1) (by omega) (by omega) e.symm
structure aOX (R:CG) (F:List Pt) (t:Int×Int):Prop where
 ok:uB R
 fld:R.clock.field.points=F
 now:R.clock.now=t
theorem uB.len {k:CG} (h:uB k):k.heap.length=k.clock.field.points.length:=by rw [<- h.perm.length_eq];exact List.length_map ..
theorem uB.bd {k:CG} (h:uB k):k.heap.length<=64:=by have:=h.len;have:=h.clk.fld.1;omega
theorem uB.has {k:CG} (h:uB k): ∀x∈k.heap,mQ k.clock.field.points x:=fun _ hx=>fS.1 (h.perm.mem_iff.2 hx)
theorem uB.nd {k:CG} (h:uB k):k.heap.Nodup:=h.perm.nodup_iff.1 (kA h.clk.fld.2.2)
theorem uB.hp {k:CG} (h:uB k):Hp (iJ k.clock.field.points k.clock.now) k.heap:=(M4 h.clk.fld.2.2 h.has h.nd).1 h.lead
theorem HI.heap {c:aR} {f:List Pt} (fok:bC f) {l:List Int} (pm:(gD f).Perm l) {R:CG} (e:R.heap=l) (q:HI c f (AX l) R.clock) (h:Hp (iJ f c.now) l):aOX R f c.now:=by
 have nd:=pm.nodup_iff.1 (kA fok.2.2);refine ⟨⟨q.ok,by rw [q.fld,e];exact pm,?_,?_⟩,q.fld,q.now⟩
 · rw [e]
   exact RZ (HL q.ok.crt) (RW nd) (fun x hx=>by obtain ⟨y,hy,rfl⟩:=List.mem_map.1 hx;exact q.sub y hy) (fun x hx=>FB.1 (q.has x hx))
 · rw [e,q.fld,q.now]
   exact (M4 fok.2.2 (fun x hx=>fS.1 (pm.mem_iff.2 hx)) nd).2 h
theorem R0 {α:Type} (z:α): ∀(l:List (Int×α)) (k:Int) (a:α) (j:Int),jI z (lE l k a) j=if j=k then a else jI z l j
 | [],k,a,j=>by
  simp only [lE,jI]
  by_cases h:j=k
  · rw [if_pos h,gL h];rfl
  · rw [if_neg h,dY h];rfl
 |p::l,k,a,j=>by
  simp only [lE]
  by_cases h:k=p.1
  · rw [gL h,cond_true]
    simp only [jI]
    by_cases c:j=k
    · rw [if_pos c,gL c];rfl
    · rw [if_neg c,dY c,cond_false,dY (by rw [<- h];exact c),cond_false]
  · rw [dY h,cond_false]
    simp only [jI];rw [R0 z l k a j]
    by_cases c:j=p.1
    · rw [gL c,cond_true,cond_true,if_neg (by rw [c];exact fun e=>h e.symm)]
    · rw [dY c,cond_false,cond_false]
def jB (m:List (Int×Int)) (l:List (Int×Int)):List (Int×Int):=l.foldl (fun m e=>lE m e.1 e.2) m
theorem HN (m l l':List (Int×Int)):jB m (l++l')=jB (jB m l) l':=List.foldl_append ..
theorem R1: ∀(l m:List (Int×Int)) (j:Int),(l.map fun e=>e.1).Nodup->jI 0 (jB m l) j=if j∈l.map fun e=>e.1 then jI 0 l j else jI 0 m j
 | [],m,j,_=>by simp only [jB,List.foldl_nil,List.map_nil,List.not_mem_nil,if_false]
 |e::l,m,j,nd=>by
  obtain ⟨h1,h2⟩:=List.nodup_cons.1 (by simpa using nd:(e.1::l.map fun e=>e.1).Nodup)
  show jI 0 (jB (lE m e.1 e.2) l) j=_;rw [R1 l _ j h2,R0];simp only [List.map_cons,List.mem_cons,jI]
  by_cases c:j=e.1
  · rw [if_neg (by rw [c];exact h1),if_pos c,if_pos (.inl c),gL c];rfl
  · rw [if_neg c,dY c,cond_false]
    by_cases d:j∈l.map fun e=>e.1
    · rw [if_pos d,if_pos (.inr d)]
    · rw [if_neg d,if_neg (fun h=>h.elim c d)]
theorem FC: ∀{l:List (Int×Int)} {j v:Int},(l.map fun e=>e.1).Nodup->(j,v)∈l->jI 0 l j=v
 |e::l,j,v,nd,h=>by
  obtain ⟨h1,h2⟩:=List.nodup_cons.1 (by simpa using nd:(e.1::l.map fun e=>e.1).Nodup)
  simp only [jI];rcases List.mem_cons.1 h with rfl|h
  · rw [gL rfl];rfl
  · have:j≠e.1:=fun c=>h1 (by rw [<- c];exact List.mem_map.2 ⟨_,h,rfl⟩)
    rw [dY this,cond_false];exact FC h2 h
def jC (x:Int) (d:Nat):Nat:=x.toNat / 2^(min d 64)%2
theorem FD (x:Int) (d:Nat):jC x d<2:=Nat.mod_lt _ (by omega)
noncomputable def lH (f:List Pt) (t:Int×Int):List (Int×Int):=dC (iJ f t) jC f.length (gD f) (-1) 0
noncomputable def oU (f:List Pt) (t:Int×Int):List Int:=f.map fun p=>jI 0 (lH f t) p.1
def eB (f:List Pt) (U:List Int):Nat->List (Int×Int)
 |0=>[]
 |i+1=>eB f U i++(if 0<=U[i]! then [((f[i]!).1,U[i]!)] else [])
section
variable {f : List Pt} {t : Int × Int}
theorem wT (fok:bC f):((lH f t).map fun e=>e.1).Perm (gD f)/\ ∀e∈lH f t,e.2= -1\/(e.2∈gD f/\iJ f t e.2 e.1):=
 pX (BT fok.2.2 t) FD f.length (gD f) (-1) 0 (fun x hx=>fS.1 hx) (kA fok.2.2) (by unfold gD;rw [List.length_map];exact Nat.le_refl _)
theorem FE (f:List Pt) (t:Int×Int):(oU f t).length=f.length:=List.length_map ..
theorem OU {i:Nat} (hi:i<f.length):(oU f t)[i]! =jI 0 (lH f t) (f[i]!).1:=by
 unfold oU;rw [getElem!_pos _ i (by rw [List.length_map];exact hi),List.getElem_map,getElem!_pos f i hi]
theorem V4 (fok:bC f) {i:Nat} (hi:i<f.length):((f[i]!).1,(oU f t)[i]!)∈lH f t:=by
 obtain ⟨h1,_⟩:=wT (t:=t) fok;obtain ⟨e,he,h2⟩:=List.mem_map.1 (h1.mem_iff.2 (fS.2 ⟨i,hi,rfl⟩));have nd:=h1.nodup_iff.2 (kA fok.2.2);rw [OU hi,<- h2,FC nd (show (e.1,e.2)∈lH f t from he)];exact he
theorem aLu (fok:bC f) {i:Nat} (hi:i<f.length):(oU f t)[i]! = -1\/(0<=(oU f t)[i]!/\mQ f (oU f t)[i]!/\(oU f t)[i]!≠(f[i]!).1/\cN (eJ f (oU f t)[i]!) f[i]! t):=by
 rcases (wT (t:=t) fok).2 _ (V4 fok hi) with h|⟨h1,h2⟩
 · exact .inl h
 · have hp:=fS.1 h1
   have hp:mQ f (oU f t)[i]!:=hp;have pk:=jK fok hp;have h2:cN (eJ f (oU f t)[i]!) (eJ f (f[i]!).1) t:=h2;rw [sP fok.2.2 hi rfl] at h2;refine .inr ⟨?_,hp,fun e=>?_,h2⟩
   · have:=pk.1.1
     rw [pk.2] at this;exact this
   · have:eJ f (oU f t)[i]! =f[i]!:=by rw [e,sP fok.2.2 hi rfl]
     rw [this] at h2;exact vC h2 h2
theorem DT {U:List Int}: ∀{n:Nat} {e:Int×Int},e∈eB f U n↔ ∃i,i<n/\0<=U[i]!/\e=((f[i]!).1,U[i]!)
 |0,e=>by
  constructor
  · intro h;cases h
  · rintro ⟨i,h,_⟩;omega
 |n+1,e=>by
  rw [eB,List.mem_append,DT];constructor
  · rintro (⟨i,h1,h2,h3⟩|h)
    · exact ⟨i,by omega,h2,h3⟩
    · split at h
      · rename_i hc;exact ⟨n,by omega,hc,List.mem_singleton.1 h⟩
      · cases h
  · rintro ⟨i,h1,h2,h3⟩
    by_cases c:i=n
    · subst c;rw [if_pos h2];exact .inr (List.mem_singleton.2 h3)
    · exact .inl ⟨i,by omega,h2,h3⟩
theorem uC (U:List Int): ∀n,(eB f U n).length<=n
 |0=>Nat.le_refl _
 |n+1=>by
  have:=uC U n
  rw [eB,List.length_append];split
  · rw [List.length_singleton];omega
  · rw [List.length_nil];omega
theorem FF (hs:dZ f) (U:List Int): ∀n,n<=f.length->(eB f U n).Nodup
 |0,_=>List.nodup_nil
 |n+1,h=>by
  rw [eB];refine List.nodup_append.2 ⟨FF hs U n (by omega),by split<;>simp,fun a ha b hb e=>?_⟩
  obtain ⟨i,h1,_,h3⟩:=DT.1 ha;split at hb
  · have hb:=List.mem_singleton.1 hb
    rw [hb] at e;rw [h3] at e
    have:(f[i]!).1=(f[n]!).1:=by injection e
    have:=pT hs h1 h
    omega
  · cases hb
theorem GV (fok:bC f):OR f (eB f (oU f t) f.length)/\(eB f (oU f t) f.length).Nodup/\ ∀e∈eB f (oU f t) f.length,cN (eJ f e.2) (eJ f e.1) t:=by
 have f1:=fok.1;have el:=uC (f:=f) (oU f t) f.length;have key: ∀e∈eB f (oU f t) f.length,jZ f e/\e.1≠e.2/\cN (eJ f e.2) (eJ f e.1) t:=fun e he=>by
  obtain ⟨i,hi,h0,rfl⟩:=DT.1 he;rcases aLu (t:=t) fok hi with h|⟨_,h2,h3,h4⟩
  · omega
  · exact ⟨⟨⟨i,hi,rfl⟩,h2⟩,fun e=>h3 e.symm,by rw [sP fok.2.2 hi rfl];exact h4⟩
 refine ⟨⟨by omega,fun e he=>?_,fun e he=>(key e he).1⟩,FF fok.2.2 _ _ (Nat.le_refl _),fun e he=>(key e he).2.2⟩
 obtain ⟨hb,ne,_⟩:=key e he;obtain ⟨⟨p1,p2⟩,q1,q2⟩:=And.intro (jK fok hb.1) (jK fok hb.2);unfold gF at p1 q1;unfold eT;omega
end
theorem aAO {x:Int} (h0:0<=x) (d:Nat):iG .i64 x (d:Int)=((x.toNat / 2^(min d 64):Nat):Int):=by
 unfold iG;rw [show (IntKind.bits .i64)=64 from rfl,Int.toNat_natCast,Int.fdiv_eq_ediv_of_nonneg _ (Int.le_of_lt (Int.pow_pos (by decide)))]
 obtain ⟨n,rfl⟩: ∃n:Nat,x=(n:Int):=⟨x.toNat,by omega⟩
 rw [Int.toNat_natCast]
 norm_cast
theorem aGF {n:Nat} (h:n<9223372036854775808):mZ .i64 (n:Int) 1=((n%2:Nat):Int):=by
 unfold mZ;have e:(BitVec.ofInt (IntKind.bits .i64) (n:Int)&&&BitVec.ofInt (IntKind.bits .i64) 1).toNat=n%2:=by
  rw [BitVec.toNat_and,BitVec.toNat_ofInt,BitVec.toNat_ofInt];rw [show (IntKind.bits .i64)=64 from rfl];have e64:((2^64:Nat):Int)=18446744073709551616:=rfl;have e1:((n:Int)%((2^64:Nat):Int)).toNat=n:=by rw [e64];omega
  have e2:((1:Int)%((2^64:Nat):Int)).toNat=1:=by rw [e64];rfl
  rw [e1,e2,Nat.and_one_is_mod]
 rw [e]
 have:=Nat.mod_lt n (show 0<2 by decide)
 have c:n%2=0\/n%2=1:=by omega
 rcases c with c|c<;>rw [c]<;>rfl
theorem V5 {x:Int} (h0:0<=x) (h1:x<=65535) (d:Nat):mZ .i64 (iG .i64 x (d:Int)) 1=(jC x d:Int):=by
 rw [aAO h0,aGF]
 · rfl
 · have:=Nat.div_le_self x.toNat (2^(min d 64));omega
theorem OV {x:Int} (h0:0<=x) (d:Nat):Int.tmod (iG .i64 x (d:Int)) 2=(jC x d:Int):=by
 rw [aAO h0];show Int.tmod _ ((2:Nat):Int)=_;rw [<- Int.ofNat_tmod];rfl
section
variable {f : List Pt} {t : Int × Int}
noncomputable def eI (t:Int×Int) (r:List Pt) (x:Pt):Pt:=r.foldl (fun a p=>if cN p a t then p else a) x
theorem IL (fok:bC f): ∀(r:List Pt) (x:Pt),x∈f->(∀p∈r,p∈f)->(eI t r x).1=(r.map fun p=>p.1).foldl (fun a y=>if iJ f t y a then y else a) x.1/\eI t r x∈f
 | [],x,hx,_=>⟨rfl,hx⟩
 |p::r,x,hx,hr=>by
  have hp:=hr p List.mem_cons_self;have e:iJ f t p.1 x.1↔cN p x t:=by show cN (eJ f p.1) (eJ f x.1) t↔_;rw [LC fok.2.2 hp,LC fok.2.2 hx]
  show (eI t r (if cN p x t then p else x)).1=_/\eI t r (if cN p x t then p else x)∈f
  rw [List.map_cons,List.foldl_cons]
  by_cases c:cN p x t
  · rw [if_pos c,if_pos (e.2 c)];exact IL fok r p hp fun q hq=>hr q (List.mem_cons_of_mem _ hq)
  · rw [if_neg c,if_neg (fun k=>c (e.1 k))];exact IL fok r x hx fun q hq=>hr q (List.mem_cons_of_mem _ hq)
def cX (l:List Pt) (top:Int) (d b:Nat):List Pt:=l.filter fun p=>decide (p.1≠top)&&decide (jC p.1 d=b)
theorem pY (l:List Pt) (top:Int) (d b:Nat):(cX l top d b).map (fun p=>p.1)=gE jC (l.map fun p=>p.1) top d b:=by
 unfold cX gE
 induction l with
 |nil=>rfl
 |cons p l ih=>
  rw [List.filter_cons,List.map_cons,List.filter_cons]
  by_cases c:p.1≠top/\jC p.1 d=b
  · rw [if_pos (by simpa using c),if_pos (by simpa using c),List.map_cons,ih]
  · rw [if_neg (by simpa using c),if_neg (by simpa using c),ih]
theorem XP {l:List Pt} {top:Int} {d b:Nat} {p:Pt} (h:p∈cX l top d b):p∈l:=(List.mem_filter.1 h).1
theorem wU (l:List Pt) (top:Int) (d b:Nat):(cX l top d b).length<=l.length:=List.length_filter_le ..
theorem yO (l:List Pt) (p:Pt) (top:Int) (d b:Nat):cX (l++[p]) top d b=cX l top d b++(if p.1≠top/\jC p.1 d=b then [p] else []):=by
 unfold cX;rw [List.filter_append]
 congr 1
 by_cases c:p.1≠top/\jC p.1 d=b
 · rw [if_pos c,List.filter_cons,if_pos (by simpa using c)];rfl
 · rw [if_neg c,List.filter_cons,if_neg (by simpa using c)];rfl
theorem aAP (fok:bC f) (r:bW t) (r64:oS t) {p q:Pt} (hp:p∈f) (hq:q∈f) (hne:p.1≠q.1):kK p q (t.1,t.2)=some (decide (cN p q t),0):=by
 rcases HY (fok.2.1 _ hp) (fok.2.1 _ hq) r64 r with h|⟨h,_⟩
 · rw [show ((t.1,t.2):Int×Int)=t from rfl,h,if_neg hne]
 · exact absurd h hne
theorem R2 {l:List Pt} {x:Pt} (i:Nat) (hi:i<l.length):eI t (l.take (i+1)) x=if cN l[i]! (eI t (l.take i) x) t then l[i]! else eI t (l.take i) x:=by
 rw [dK hi];unfold eI;rw [List.foldl_append];rfl
structure V6 (f:List Pt) (l:List Pt):Prop where
 sub: ∀p∈l,p∈f
 nd:(l.map fun p=>p.1).Nodup
 len:l.length<=64
theorem V6.side {l:List Pt} (h:V6 f l) (top:Int) (d b:Nat):V6 f (cX l top d b) where
 sub:=fun p hp=>h.sub p (XP hp)
 nd:=by rw [pY];exact jA h.nd _ _ _
 len:=Nat.le_trans (wU ..) h.len
theorem V6.bits (fok:bC f) {l:List Pt} (h:V6 f l) {p:Pt} (hp:p∈l):0<=p.1/\p.1<=65535:=by
 have:=fok.2.1 p (h.sub p hp)
 unfold gF at this;omega
theorem V6.ne {l:List Pt} (h:V6 f l) {i j:Nat} (hi:i<l.length) (hj:j<l.length) (hne:i≠j):(l[i]!).1≠(l[j]!).1:=by
 have ll:(l.map fun p=>p.1).length=l.length:=List.length_map ..
 have b: ∀k,k<l.length->(l.map fun p=>p.1)[k]! =(l[k]!).1:=fun k hk=>by
  rw [getElem!_pos _ k (by rw [ll];exact hk),List.getElem_map,getElem!_pos l k hk]
 intro e;rcases Nat.lt_trichotomy i j with c|c|c
 · exact dR.1 h.nd i j c (by omega) (by rw [b i hi,b j hj];exact e)
 · exact hne c
 · exact dR.1 h.nd j i c (by omega) (by rw [b i hi,b j hj];exact e.symm)
theorem A0 (t:Int×Int): ∀(r:List Pt) (x:Pt),eI t r x=x\/eI t r x∈r
 | [],_=> .inl rfl
 |p::r,x=>by
  show eI t r (if cN p x t then p else x)=x\/eI t r (if cN p x t then p else x)∈_
  by_cases c:cN p x t
  · rw [if_pos c]
    rcases A0 t r p with e|e
    · rw [e];exact .inr List.mem_cons_self
    · exact .inr (List.mem_cons_of_mem _ e)
  · rw [if_neg c]
    exact (A0 t r x).imp id (List.mem_cons_of_mem _)
theorem aAQ {l:List Pt} (h:V6 f l) {i:Nat} (hi:i+1<l.length):(l[i+1]!).1≠(eI t ((l.drop 1).take i) l[0]!).1:=by
 rcases A0 t ((l.drop 1).take i) l[0]! with e|e
 · rw [e];exact h.ne hi (by omega) (by omega)
 · obtain ⟨j,hj,ej⟩:=bE.1 e
   rw [List.length_take,List.length_drop] at hj
   have:((l.drop 1).take i)[j]! =l[1+j]!:=by
    rw [List.getElem!_eq_getElem?_getD,List.getElem?_take_of_lt (by omega),List.getElem?_drop,<- List.getElem!_eq_getElem?_getD]
   rw [<- ej,this];exact h.ne hi (by omega) (by omega)
theorem FG {l:List Pt} {i:Nat} (_:i+1<l.length):(l.drop 1)[i]! =l[i+1]!:=by
 rw [List.getElem!_eq_getElem?_getD,List.getElem?_drop,<- List.getElem!_eq_getElem?_getD,Nat.add_comm 1 i]
def g1S (t:Int×Int) (l:List Pt) (M:List (Int×Int)) (d:Nat) (top:Pt) (s0 s1:List Pt) (i:Nat):=
 ((d:Int),(l.length:Int),(i:Int),l,M,t.1,t.2,top.1,top.2.1,top.2.2,s0,s1)
def g2S (t:Int×Int) (l:List Pt) (M:List (Int×Int)) (u:Int) (d:Nat) (top:Pt) (i:Nat):=
 (u,(d:Int),(1:Nat),l.length-1,l.length-1,((l.length-1:Nat):Int),(i:Int),l,M,t.1,t.2,top)
theorem aLv (fok:bC f) {l:List Pt} (h:V6 f l) {d:Nat} (hd:d<=1000) {top:Pt} {M:List (Int×Int)} {c0:_} {c1:_} (hc:c1.2.2.2.2.1.length=l.length)
 {M2 M3:List (Int×Int)} (r1:c0 (t.1,t.2,top.1,((d+1:Nat):Int),cX l top.1 d 0,M)=some (cX l top.1 d 0,M2)) (r2:c0 (t.1,t.2,top.1,((d+1:Nat):Int),cX l top.1 d 1,M2)=some (cX l top.1 d 1,M3)):
 aE (fW c0 c1) (g1S t l M d top [] [] 0)=some (.done (l,M3)):=by
 have hl:=h.len;have st:=bU (body:=fW c0 c1) (fun i=>g1S t l M d top (cX (l.take i) top.1 d 0) (cX (l.take i) top.1 d 1) i) l.length (fun i hi=>by
  have pm:=bF hi;obtain ⟨b0,b1⟩:=h.bits fok pm;have bt:=V5 b0 b1 d;have lt:=FD (l[i]!).1 d;have s0:=yO (l.take i) l[i]! top.1 d 0;have s1:=yO (l.take i) l[i]! top.1 d 1;rw [<- dK hi] at s0 s1;have l0:(cX (l.take i) top.1 d 0).length<=64:=Nat.le_trans (wU ..) (by rw [List.length_take];omega)
  have l1:(cX (l.take i) top.1 d 1).length<=64:=Nat.le_trans (wU ..) (by rw [List.length_take];omega)
  have a0:aY (cX (l.take i) top.1 d 0) [l[i]!]=some (cX (l.take i) top.1 d 0++[l[i]!]):=eG (by rw [List.length_singleton];omega)
  have a1:aY (cX (l.take i) top.1 d 1) [l[i]!]=some (cX (l.take i) top.1 d 1++[l[i]!]):=eG (by rw [List.length_singleton];omega)
  rw [s0,s1];unfold fW g1S;simp only [aQ (show (i:Int)<(l.length:Int) by omega),cond_true,aD l i hi,aF,aX (show i<1000000000 by omega),aL (show¬(d:Int)<0 by omega),cond_false,bt,a0,a1]
  by_cases c:(l[i]!).1=top.1
  · rw [dA (show (l[i]!).1=top.1 from c),cond_false,if_neg (fun k=>k.1 c),if_neg (fun k=>k.1 c),List.append_nil,List.append_nil]
  · rw [dL c,cond_true]
    by_cases e:jC (l[i]!).1 d=0
    · rw [e,if_pos ⟨c,rfl⟩,if_neg (fun k=>by omega),List.append_nil];rfl
    · have e1:jC (l[i]!).1 d=1:=by omega
      rw [e1,if_neg (fun k=>by omega),if_pos ⟨c,rfl⟩,List.append_nil];rfl)
 rw [List.take_length] at st;refine (show _=_ from st).trans (aP ?_);unfold fW g1S;simp only [aL (show¬(l.length:Int)<(l.length:Int) by omega),cond_false,aX (show d<1000000000 by omega),r1,r2,aF,hc,beq_self_eq_true,cond_true]
theorem aHm {l:List Pt} (h0:l≠[]):aK l 0=some l[0]!:=aD l 0 (List.length_pos_iff.2 h0)
theorem aNC (fok:bC f) (r:bW t) (r64:oS t) {l:List Pt} (h:V6 f l) (h0:l≠[]) {d:Nat} (hd:d<=1000) {M:List (Int×Int)} {u:Int} {c0:_}
 {M2 M3:List (Int×Int)} (r1:c0 (t.1,t.2,(eI t (l.drop 1) l[0]!).1,((d+1:Nat):Int),cX l (eI t (l.drop 1) l[0]!).1 d 0,lE M (eI t (l.drop 1) l[0]!).1 u)=some (cX l (eI t (l.drop 1) l[0]!).1 d 0,M2))
 (r2:c0 (t.1,t.2,(eI t (l.drop 1) l[0]!).1,((d+1:Nat):Int),cX l (eI t (l.drop 1) l[0]!).1 d 1,M2)=some (cX l (eI t (l.drop 1) l[0]!).1 d 1,M3)):
 mH c0 (t.1,t.2,u,(d:Int),l,M)=some (l,M3):=by
 have hl:=h.len;have hp:=List.length_pos_iff.2 h0;have ld:(l.drop 1).length=l.length-1:=List.length_drop;have dt:(l.drop 1).take (l.length-1)=l.drop 1:=List.take_of_length_le (by omega)
 have st:=bU (body:=iS c0 (t.1,t.2,u,(d:Int),l,M)) (fun i=>g2S t l M u d (eI t ((l.drop 1).take i) l[0]!) i) (l.length-1) (fun i hi=>by
  have q:=aD (l.drop 1) i (by omega)
  rw [FG (by omega)] at q
  have ne:=aAQ (t:=t) h (i:=i) (by omega)
  have m1:=h.sub _ (bF (l:=l) (i:=i+1) (by omega))
  have m2:eI t ((l.drop 1).take i) l[0]!∈f:=by
   rcases A0 t ((l.drop 1).take i) l[0]! with e|e
   · rw [e];exact h.sub _ (bF hp)
   · exact h.sub _ (List.mem_of_mem_drop (List.mem_of_mem_take e))
  have A:=aAP fok r r64 m1 m2 ne;have tt:=R2 (t:=t) (l:=l.drop 1) (x:=l[0]!) i (by omega)
  rw [FG (by omega)] at tt
  rw [tt];unfold iS g2S;simp only [aQ (show (i:Int)<((l.length-1:Nat):Int) by omega),cond_true,dt,q,aF,A,aX (show i<1000000000 by omega)]
  by_cases c:cN l[i+1]! (eI t ((l.drop 1).take i) l[0]!) t
  · rw [decide_eq_true c,cond_true,if_pos c]
  · rw [decide_eq_false c,cond_false,if_neg c])
 rw [List.take_of_length_le (l:=l.drop 1) (i:=l.length-1) (by omega)] at st
 have ol:=aLv fok h hd (c0:=c0) (c1:=(t.1,t.2,u,(d:Int),l,M)) rfl r1 r2;have e1:((Int.ofNat l.length).toNat) -1=l.length-1:=rfl;unfold mH;have en:((Int.ofNat l.length)==0)=false:=dY (by show¬(l.length:Int)=0;omega)
 have e2:(((decide ((0:Nat)<=1))&&(decide ((1:Int)<=(Int.ofNat l.length))))&&(decide ((Int.ofNat l.length)<=(Int.ofNat l.length))))=true:=by
  rw [aQ (show (1:Int)<=Int.ofNat l.length by show (1:Int)<=(l.length:Int);omega),aQ (Int.le_refl _)];rfl
 simp only [en,cond_false,aHm h0,aF];rw [show (((decide ((0:Nat)<=1))&&(decide ((1:Int)<=(Int.ofNat l.length))))&&(decide ((Int.ofNat l.length)<=(Int.ofNat l.length))))=true from e2,cond_true];refine (show _=_ from st).trans (aP ?_);unfold iS g2S;simp only [aL (Int.lt_irrefl _),cond_false];exact ol
theorem V7 (fok:bC f) (r:bW t) (r64:oS t): ∀(k n:Nat) (l:List Pt) (u:Int) (d:Nat) (M:List (Int×Int)),V6 f l->l.length<=k->k+1<=n->d+k<=1000->
 fI n (t.1,t.2,u,(d:Int),l,M)=some (l,jB M (dC (iJ f t) jC k (l.map fun p=>p.1) u d))
 |k,0,l,u,d,M,_,_,hn,_=>absurd hn (by omega)
 |k,n+1,[],u,d,M,_,_,_,_=>by cases k<;>rfl
 |0,n+1,x::l,u,d,M,_,hk,_,_=>absurd hk (by rw [List.length_cons];omega)
 |k+1,n+1,x::l,u,d,M,h,hk,hn,hd=>by
  have ti:=IL (t:=t) fok l x (h.sub x List.mem_cons_self) (fun p hp=>h.sub p (List.mem_cons_of_mem _ hp))
  have tl:kO (iJ f t) ((x::l).map fun p=>p.1)=(eI t l x).1:=ti.1.symm
  have so:=BT fok.2.2 t;have sl: ∀b,(cX (x::l) (eI t l x).1 d b).length<=k:=fun b=>by
   have hS: ∀y∈((x::l).map fun p=>p.1),mQ f y:=fun y hy=>by
    obtain ⟨p,hp,e⟩:=List.mem_map.1 hy;exact fS.1 (List.mem_map.2 ⟨p,h.sub p hp,e⟩)
   have t1:=(pW so (l:=(x::l).map fun p=>p.1) (by simp) hS).1
   rw [tl] at t1
   have:=sU (bit:=jC) t1 d b
   rw [<- pY,List.length_map,List.length_map] at this;omega
  have A:=V7 fok r r64 k n (cX (x::l) (eI t l x).1 d 0) (eI t l x).1 (d+1) (lE M (eI t l x).1 u) (h.side _ _ _) (sl 0) (by omega) (by omega)
  have B:=V7 fok r r64 k n (cX (x::l) (eI t l x).1 d 1) (eI t l x).1 (d+1) (jB (lE M (eI t l x).1 u) (dC (iJ f t) jC k ((cX (x::l) (eI t l x).1 d 0).map fun p=>p.1) (eI t l x).1 (d+1))) (h.side _ _ _) (sl 1) (by omega) (by omega)
  have C:=aNC fok r r64 h (List.cons_ne_nil x l) (d:=d) (by omega) (u:=u) (M:=M) (c0:=fI n) A B
  refine (show _=_ from C).trans ?_;rw [pY,pY,<- HN];refine congrArg some (Prod.ext rfl ?_);show jB (lE M (eI t l x).1 u) _=jB M (dC (iJ f t) jC (k+1) (x.1::l.map fun p=>p.1) u d)
  simp only [dC];rw [<- show kO (iJ f t) (x.1::l.map fun p=>p.1)=(eI t l x).1 from tl]
  rfl
end
section
variable {f : List Pt} {t : Int × Int}
def h1S (t:Int×Int) (l:List Pt) (M:List (Int×Int)) (d:Nat) (top:Pt) (s0 s1:List Pt) (i:Nat):=
 ((d:Int),l,(l.length:Int),(i:Int),M,t.1,t.2,top.1,top.2.1,top.2.2,s0,s1)
def h2S (t:Int×Int) (l:List Pt) (M:List (Int×Int)) (u:Int) (d:Nat) (top:Pt) (i:Nat):=
 (l,u,(d:Int),l.drop 1,((l.drop 1).length:Int),(i:Int),M,t.1,t.2,top)
theorem aLw (fok:bC f) {l:List Pt} (h:V6 f l) {d:Nat} (hd:d<=1000) {top:Pt} {M:List (Int×Int)}
 {M2 M3:List (Int×Int)} (r1:fC (t.1,t.2,top.1,((d+1:Nat):Int),cX l top.1 d 0,M)=some (cX l top.1 d 0,M2)) (r2:fC (t.1,t.2,top.1,((d+1:Nat):Int),cX l top.1 d 1,M2)=some (cX l top.1 d 1,M3)):
 aE fX (h1S t l M d top [] [] 0)=some (.done M3):=by
 have hl:=h.len;have st:=bU (body:=fX) (fun i=>h1S t l M d top (cX (l.take i) top.1 d 0) (cX (l.take i) top.1 d 1) i) l.length (fun i hi=>by
  have pm:=bF hi;obtain ⟨b0,b1⟩:=h.bits fok pm;have bt:=V5 b0 b1 d;have lt:=FD (l[i]!).1 d;have s0:=yO (l.take i) l[i]! top.1 d 0;have s1:=yO (l.take i) l[i]! top.1 d 1;rw [<- dK hi] at s0 s1;have l0:(cX (l.take i) top.1 d 0).length<=64:=Nat.le_trans (wU ..) (by rw [List.length_take];omega)
  have l1:(cX (l.take i) top.1 d 1).length<=64:=Nat.le_trans (wU ..) (by rw [List.length_take];omega)
  have a0:aY (cX (l.take i) top.1 d 0) [l[i]!]=some (cX (l.take i) top.1 d 0++[l[i]!]):=eG (by rw [List.length_singleton];omega)
  have a1:aY (cX (l.take i) top.1 d 1) [l[i]!]=some (cX (l.take i) top.1 d 1++[l[i]!]):=eG (by rw [List.length_singleton];omega)
  rw [s0,s1];unfold fX h1S;simp only [aQ (show (i:Int)<(l.length:Int) by omega),cond_true,aD l i hi,aF,aX (show i<1000000000 by omega),aL (show¬(d:Int)<0 by omega),cond_false,bt,a0,a1]
  by_cases c:(l[i]!).1=top.1
  · rw [dA (show (l[i]!).1=top.1 from c),cond_false,if_neg (fun k=>k.1 c),if_neg (fun k=>k.1 c),List.append_nil,List.append_nil]
  · rw [dL c,cond_true]
    by_cases e:jC (l[i]!).1 d=0
    · rw [e,if_pos ⟨c,rfl⟩,if_neg (fun k=>by omega),List.append_nil];rfl
    · have e1:jC (l[i]!).1 d=1:=by omega
      rw [e1,if_neg (fun k=>by omega),if_pos ⟨c,rfl⟩,List.append_nil];rfl)
 rw [List.take_length] at st;refine (show _=_ from st).trans (aP ?_);unfold fX h1S;simp only [aL (show¬(l.length:Int)<(l.length:Int) by omega),cond_false,aX (show d<1000000000 by omega),r1,r2,aF]
theorem aND (fok:bC f) (r:bW t) (r64:oS t) {l:List Pt} (h:V6 f l) (h0:l≠[]) {d:Nat} (hd:d<=1000) {M:List (Int×Int)} {u:Int} {c0:_}
 {M2 M3:List (Int×Int)} (r1:fC (t.1,t.2,(eI t (l.drop 1) l[0]!).1,((d+1:Nat):Int),cX l (eI t (l.drop 1) l[0]!).1 d 0,lE M (eI t (l.drop 1) l[0]!).1 u)=some (cX l (eI t (l.drop 1) l[0]!).1 d 0,M2))
 (r2:fC (t.1,t.2,(eI t (l.drop 1) l[0]!).1,((d+1:Nat):Int),cX l (eI t (l.drop 1) l[0]!).1 d 1,M2)=some (cX l (eI t (l.drop 1) l[0]!).1 d 1,M3)):
 jM c0 (l,t.1,t.2,u,(d:Int),M)=some M3:=by
 have hl:=h.len;have hp:=List.length_pos_iff.2 h0;have ld:(l.drop 1).length=l.length-1:=List.length_drop;have st:=bU (body:=iT) (fun i=>h2S t l M u d (eI t ((l.drop 1).take i) l[0]!) i) (l.drop 1).length (fun i hi=>by
  have q:=aD (l.drop 1) i hi;rw [FG (by omega)] at q
  have ne:=aAQ (t:=t) h (i:=i) (by omega)
  have m1:=h.sub _ (bF (l:=l) (i:=i+1) (by omega))
  have m2:eI t ((l.drop 1).take i) l[0]!∈f:=by
   rcases A0 t ((l.drop 1).take i) l[0]! with e|e
   · rw [e];exact h.sub _ (bF hp)
   · exact h.sub _ (List.mem_of_mem_drop (List.mem_of_mem_take e))
  have A:=aAP fok r r64 m1 m2 ne;have tt:=R2 (t:=t) (l:=l.drop 1) (x:=l[0]!) i hi;rw [FG (by omega)] at tt
  rw [tt];unfold iT h2S;simp only [aQ (show (i:Int)<((l.drop 1).length:Int) by omega),cond_true,q,aF,A,aX (show i<1000000000 by omega)]
  by_cases c:cN l[i+1]! (eI t ((l.drop 1).take i) l[0]!) t
  · rw [decide_eq_true c,cond_true,if_pos c]
  · rw [decide_eq_false c,cond_false,if_neg c])
 rw [List.take_length] at st;have ol:=aLw (t:=t) fok h hd r1 r2;have e1:iL l 1 (Int.ofNat l.length)=some (l.drop 1):=by
  unfold iL;rw [if_pos (by refine ⟨by decide,?_,Int.le_refl _⟩;show (1:Int)<=(l.length:Int);omega)]
  refine congrArg some ?_;show (l.drop 1).take _=_;exact List.take_of_length_le (by rw [ld];exact Nat.le_refl _)
 unfold jM;have en:((Int.ofNat l.length)==0)=false:=dY (by show¬(l.length:Int)=0;omega)
 simp only [en,cond_false,aHm h0,aF,e1];refine (show _=_ from st).trans (aP ?_);unfold iT h2S;simp only [aL (Int.lt_irrefl _),cond_false];exact ol
theorem aGG (fok:bC f) (r:bW t) (r64:oS t):nY (f,t.1,t.2,-1,0,[])=some (jB [] (lH f t)):=by
 have h:V6 f f:=⟨fun p hp=>hp,kA fok.2.2,fok.1⟩
 have f1:=fok.1;unfold lH;show jM (fJ 999999) _=_;cases hf:f with
 |nil=>rfl
 |cons x l=>
  rw [<- hf];have fl:f.length=l.length+1:=by rw [hf];rfl
  have d1:f.drop 1=l:=by rw [hf];rfl
  have g0:f[0]! =x:=by rw [hf];rfl
  have ti:=IL (t:=t) fok l x (by rw [hf];exact List.mem_cons_self) (fun p hp=>by rw [hf];exact List.mem_cons_of_mem _ hp)
  have ei:gD f=x.1::l.map fun p=>p.1:=by unfold gD;rw [hf];rfl
  have tl:kO (iJ f t) (gD f)=(eI t l x).1:=by rw [ei];exact ti.1.symm
  have so:=BT fok.2.2 t;have sl: ∀b,(cX f (eI t l x).1 0 b).length<=l.length:=fun b=>by
   have hS: ∀y∈gD f,mQ f y:=fun y hy=>fS.1 hy
   have t1:=(pW so (l:=gD f) (by unfold gD;rw [hf];simp) hS).1
   rw [tl] at t1
   have:=sU (bit:=jC) t1 0 b
   unfold gD at this;rw [<- pY,List.length_map,List.length_map] at this;omega
  have A:=V7 fok r r64 l.length 1000000 (cX f (eI t l x).1 0 0) (eI t l x).1 1 (lE [] (eI t l x).1 (-1)) (h.side _ _ _) (sl 0) (by omega) (by omega)
  have B:=V7 fok r r64 l.length 1000000 (cX f (eI t l x).1 0 1) (eI t l x).1 1 (jB (lE [] (eI t l x).1 (-1)) (dC (iJ f t) jC l.length ((cX f (eI t l x).1 0 0).map fun p=>p.1) (eI t l x).1 1)) (h.side _ _ _) (sl 1) (by omega) (by omega)
  have C:=aND fok r r64 h (by rw [hf];exact List.cons_ne_nil x l) (d:=0) (by omega) (u:= -1) (M:=[]) (c0:=fJ 999999) (M2:=jB (lE [] (eI t l x).1 (-1)) (dC (iJ f t) jC l.length ((cX f (eI t l x).1 0 0).map fun p=>p.1) (eI t l x).1 1)) (M3:=jB (jB (lE [] (eI t l x).1 (-1)) (dC (iJ f t) jC l.length ((cX f (eI t l x).1 0 0).map fun p=>p.1) (eI t l x).1 1)) (dC (iJ f t) jC l.length ((cX f (eI t l x).1 0 1).map fun p=>p.1) (eI t l x).1 1)) (by rw [d1,g0];exact A) (by rw [d1,g0];exact B)
  refine (show _=_ from C).trans (congrArg some ?_);rw [pY,pY,<- HN,fl];rw [show (f.map fun p=>p.1)=gD f from rfl,<- tl]
  generalize iJ f t=P;rw [ei];simp only [dC];rfl
end
def hP (c:aR) (r:Int) (N:List Nd) (to:Int×Int) (out:List (Int×Int)):=
 (c.now.1,c.now.2,c.field.points,c.certs.next_,c.certs.list,c.agenda.slots.uses,c.agenda.slots.used,c.agenda.slots.free,c.agenda.heap,c.agenda.where_,c.due,r,N,to.1,to.2,(0:Int),(0:Int),(0:Int),(0:Int),out)
def vT:aW:=⟨List.replicate 200 0,List.replicate 200 false,(List.range 200).map fun j:Nat=>(199:Int) - (j:Int)⟩
def IM:aO:=⟨vT,[],List.replicate 200 (-1)⟩
def DU (f:Field) (t:Int×Int):aR:=⟨t,f,⟨0,[]⟩,IM,[]⟩
theorem R3:ET 200=some (vT,0):=
 (by kernel_rfl:ET 200=aE G9 (200,200,0,List.replicate 200 0,List.replicate 200 false,List.replicate 200 0)).trans (rO.2 ⟨300,by kernel_rfl⟩)
theorem XQ:iQ [-1] 200=some (List.replicate 200 (-1)):=by
 unfold iQ vL;have m:fL (aA .u64 (Int.ofNat ([-1]:List Int).length)) (aA .u64 200)=some (0,200):=by
  rw [show aA .u64 (Int.ofNat ([-1]:List Int).length)=1 from by kernel_rfl,show aA .u64 200=200 from by kernel_rfl,E2 ⟨by decide,by decide⟩ ⟨by decide,by decide⟩]
  rfl
 rw [m];exact (by kernel_rfl:_=aE lP (1,-1::List.replicate 199 0)).trans (rO.2 ⟨20,by kernel_rfl⟩)
theorem LU:xV 200=some (IM,0):=by
 unfold xV;rw [R3,aF,dA rfl,cond_false,XQ];rfl
theorem OW (f:Field) {t:Int×Int} (r64:oS t):BD f t=some (if kX f.points≠0 then (iF,kX f.points) else if bW t then (DU f t,0) else (iF,8)):=by
 unfold BD;rw [oN,aF]
 by_cases h:kX f.points=0
 · have fok:=kH.1 h
   have f1:=fok.1;rw [dA h,cond_false,gB r64,aF,if_neg (show¬kX f.points≠0 from fun k=>k h)]
   by_cases rt:bW t
   · rw [if_pos rt,if_pos rt,dA rfl,cond_false,LU,aF,bG (show f.points.length<=1048576 by omega),aF]
     rfl
   · rw [if_neg rt,if_neg rt,dL (by decide),cond_true]
 · rw [dL h,cond_true,if_pos h]
theorem wV {α:Type} [Inhabited α] {n i:Nat} (a:α) (h:i<n):(List.replicate n a)[i]! =a:=by
 rw [getElem!_pos _ i (by rw [List.length_replicate];exact h),List.getElem_replicate]
theorem aGH {i:Nat} (hi:i<200):(i:Int)∈vT.free:=by
 refine List.mem_map.2 ⟨199-i,List.mem_range.2 (by omega),?_⟩
 show (199:Int) - ((199-i:Nat):Int)=(i:Int);omega
theorem lW:vT.uses.length=200:=List.length_replicate ..
set_option maxRecDepth 100000 in
theorem aAR:vT.free.length=200:=by
 unfold vT;exact (List.length_map _).trans List.length_range
theorem XS:fR vT where
 n1:=by rw [lW];omega
 n2:=by rw [lW];omega
 ul:=by rw [lW];exact List.length_replicate ..
 fr:=fun x hx=>by
  obtain ⟨j,hj,rfl⟩:=List.mem_map.1 hx
  have:=List.mem_range.1 hj
  rw [lW];omega
 fd:=by
  refine uA List.nodup_range fun i hi j hj h=>?_
  have h:(199:Int) - (i:Int)=199- (j:Int):=h;omega
 uf:=fun i hi=>by
  rw [lW] at hi;rw [show vT.used[i]! =false from wV false hi];constructor
  · intro h;cases h
  · intro h;exact absurd (aGH hi) h
 us:=fun i hi=>by
  rw [lW] at hi;rw [show vT.uses[i]! =0 from wV 0 hi,show vT.used[i]! =false from wV false hi];exact ⟨by decide,by decide,fun h=>by cases h⟩
set_option maxRecDepth 100000 in
theorem T8:gZ IM where
 so:=XS
 wl:=(List.length_replicate (n:=200) (a:=(-1:Int))).trans lW.symm
 hl:=((Nat.zero_add _).trans aAR).trans lW.symm
 fwd:=fun i hi h=>by
  rw [show IM.slots.used[i]! =false from wV false (by rw [<- lW];exact hi)] at h
  cases h
 un:=fun i hi _=>wV (-1) (by rw [<- lW];exact hi)
 ev:=fun w hw=>absurd hw (Nat.not_lt_zero w)
 nd:=fun v w _ hw=>absurd hw (Nat.not_lt_zero w)
 ord:=fun k _ hk=>absurd hk (Nat.not_lt_zero k)
theorem XT {f:Field} (fok:bC f.points) {t:Int×Int} (r:bW t) (r64:oS t):bH (DU f t) where
 nowv:=r
 now64:=r64
 fld:=fok
 crt:=(⟨by decide,by decide,by decide,fun i hi=>absurd hi (Nat.not_lt_zero i),fun i hi=>absurd hi (Nat.not_lt_zero i),fun i j _ hj=>absurd hj (Nat.not_lt_zero j),fun i j _ hj=>absurd hj (Nat.not_lt_zero j)⟩:fG ⟨0,[]⟩)
 agd:=T8
 w200:=List.length_replicate ..
 hd:=rfl
 known:=fun i hi=>absurd hi (Nat.not_lt_zero i)
 fol:=rfl
theorem OX (f:Field) (t:Int×Int):HJ (DU f t) 0:=by
 refine ⟨Nat.le_refl _,Int.le_refl _,fun j hj=>?_⟩
 rw [show (DU f t).agenda.slots.uses[j]! =0 from wV 0 (by rw [<- lW];exact hj)]
 decide
noncomputable def M5 (f:List Pt) (t:Int×Int) (k:Nat):Nat->Nat
 |0=>0
 |j+1=>M5 f t k j+(if j≠k/\T7 f t j k then 1 else 0)
theorem GW (f:List Pt) (t:Int×Int) (k:Nat): ∀j,M5 f t k j<=j/\(k<j->M5 f t k j+1<=j)
 |0=>⟨Nat.le_refl _,fun h=>by omega⟩
 |j+1=>by
  obtain ⟨h1,h2⟩:=GW f t k j;rw [M5]
  by_cases c:j≠k/\T7 f t j k
  · rw [if_pos c]
    exact ⟨by omega,fun h=>by have:=h2 (by omega);omega⟩
  · rw [if_neg c]
    exact ⟨by omega,fun h=>by omega⟩
theorem XU {f:List Pt} (fok:bC f) {t:Int×Int} (r64:oS t) {k:Nat} (hk:k<f.length):sN ⟨f⟩ f[k]! t=some (M5 f t k f.length:Int):=by
 have f1:=fok.1;have key:=bU (body:=kV) (fun j=>((M5 f t k j:Int),(j:Int),f,(f[k]!).1,(f[k]!).2.1,(f[k]!).2.2,t)) f.length (fun j hj=>by
  have g:=aD f j hj;have le:=(GW f t k j).1;have ld:=KT (fok.2.1 _ (bF hj)) (fok.2.1 _ (bF hk)) r64;have peta:((f[k]!).1,(f[k]!).2.1,(f[k]!).2.2)=f[k]!:=rfl;unfold kV;rw [M5]
  by_cases q:j=k
  · subst q
    simp only [aH,aQ (show (j:Int)<(f.length:Int) by omega),cond_true,g,aF,dA rfl,cond_false,aX (show j<1000000000 by omega),if_neg (show¬(j≠j/\T7 f t j j) from fun w=>w.1 rfl),Nat.add_zero]
  · have ne:(f[j]!).1≠(f[k]!).1:=fun h=>q (pU fok.2.2 hj hk h)
    by_cases c:T7 f t j k
    · rw [show decide (cN f[j]! f[k]! t)=true from aQ c] at ld
      simp only [aH,aQ (show (j:Int)<(f.length:Int) by omega),cond_true,g,aF,dL ne,peta,ld,aX (show j<1000000000 by omega),aX (show M5 f t k j<1000000000 by omega),if_pos (show j≠k/\T7 f t j k from ⟨q,c⟩)]
    · rw [show decide (cN f[j]! f[k]! t)=false from aL c] at ld
      simp only [aH,aQ (show (j:Int)<(f.length:Int) by omega),cond_true,g,aF,dL ne,peta,ld,cond_false,aX (show j<1000000000 by omega),if_neg (show¬(j≠k/\T7 f t j k) from fun w=>c w.2),Nat.add_zero])
 unfold sN;rw [show aE kV (0,0,f,(f[k]!).1,(f[k]!).2.1,(f[k]!).2.2,t)=_ from key];refine aP ?_;unfold kV;simp only [aH,aL (show¬(f.length:Int)<(f.length:Int) by omega),cond_false]
noncomputable def BZ (f:List Pt) (t:Int×Int):Nat->List Int
 |0=>List.replicate f.length 0
 |i+1=>(BZ f t i).set (M5 f t i f.length) (f[i]!).1
theorem rS (f:List Pt) (t:Int×Int): ∀i,(BZ f t i).length=f.length
 |0=>List.length_replicate ..
 |i+1=>by rw [BZ,List.length_set,rS f t i]
theorem T9 {f:List Pt} (fok:bC f) {t:Int×Int} (r64:oS t):qM ⟨f⟩ t=some (BZ f t f.length):=by
 have f1:=fok.1;have mk:sZ (f.length:Int) (0:Int)=some (List.replicate f.length 0):=by
  unfold sZ;rw [if_pos ⟨by omega,by omega⟩,Int.toNat_natCast]
 have key:=bU (body:=jW) (fun i=>((i:Int),f,t.1,t.2,BZ f t i)) f.length (fun i hi=>by
  have g:=aD f i hi;have le:=(GW f t i f.length).2 hi;have go:=aD (BZ f t i) (M5 f t i f.length) (by rw [rS];omega)
  unfold jW;simp only [aH,aQ (show (i:Int)<(f.length:Int) by omega),cond_true,g,aF,show ((t.1,t.2):Int×Int)=t from rfl,XU fok r64 hi,go,wQ,aX (show i<1000000000 by omega)]
  rfl)
 unfold qM;simp only [aH,beq_self_eq_true,cond_true,mk,aF];rw [show aE jW (0,f,t.1,t.2,List.replicate f.length 0)=_ from key];refine aP ?_;unfold jW;simp only [aH,aL (show¬(f.length:Int)<(f.length:Int) by omega),cond_false]
theorem OY {f : List Pt} (h : dZ f) {t : Int × Int} {i k : Nat} (hi : i < f.length) (hk : k < f.length) (a : T7 f t i k) : ∀ j, j <= f.length -> M5 f t i j + (if i < j then 1 else 0) <= M5 f t k j
  | 0, _ => by rw [if_neg (by omega)]; exact Nat.le_refl _
  | j + 1, hj => by
    have o := IJ h t
    have ih := OY h hi hk a j (by omega)
    have ik : i ≠ k := fun e => by subst e; exact o.asy i i hi hi a a
    rw [M5, M5]
    by_cases e : j = i
    · subst e
      rw [if_neg (show ¬ (j ≠ j /\ _) from fun w => w.1 rfl), if_pos (show j ≠ k /\ T7 f t j k from ⟨ik, a⟩), if_pos (by omega)]
      rw [if_neg (by omega)] at ih
      omega
    · have e2 : (if i < j + 1 then 1 else 0) = (if i < j then 1 else 0) := by
        by_cases c : i < j
        · rw [if_pos c, if_pos (by omega)]
        · rw [if_neg c, if_neg (by omega)]
      rw [e2]
      by_cases c : j ≠ i /\ T7 f t j i
      · have c2 : j ≠ k /\ T7 f t j k := by
          have q := o.tr j i k (by omega) hi hk c.2 a
          exact ⟨fun z => by subst z; exact o.asy j j (by omega) (by omega) q q, q⟩
        rw [if_pos c, if_pos c2]; omega
      · rw [if_neg c]; omega
theorem aGI {f:List Pt} (h:dZ f) {t:Int×Int} {i k:Nat} (hi:i<f.length) (hk:k<f.length) (ne:i≠k):M5 f t i f.length≠M5 f t k f.length:=by
 have o:=IJ h t;intro e
 by_cases a:T7 f t i k
 · have:=OY h hi hk a f.length (Nat.le_refl _)
   rw [if_pos hi] at this;omega
 · have:=OY h hk hi (o.tot i k hi hk ne a) f.length (Nat.le_refl _)
   rw [if_pos hk] at this;omega
theorem OZ {f:List Pt} (h:dZ f) {t:Int×Int} {i:Nat}: ∀j,j<=f.length->i<j->(BZ f t j)[M5 f t i f.length]! =(f[i]!).1
 |0,_,hi=>by omega
 |j+1,hj,hi=>by
  rw [BZ,bV];have hr:=(GW f t i f.length).2 (by omega)
  by_cases q:i=j
  · subst q
    rw [if_pos ⟨rfl,by rw [rS];omega⟩]
  · rw [if_neg (fun w=>aGI h (by omega) (by omega) q w.1)]
    exact OZ h j (by omega) (by omega)
theorem M6 {f:List Pt} (h:dZ f) (t:Int×Int):(gD f).Perm (BZ f t f.length):=by
 have il:(gD f).length=f.length:=List.length_map ..;refine tZ (kA h) (fun x hx=>?_) (by rw [rS,il];exact Nat.le_refl _)
 obtain ⟨i,hi,e⟩:=fS.1 hx;have hr:=(GW f t i f.length).2 hi;exact bE.2 ⟨M5 f t i f.length,by rw [rS];omega,by rw [OZ h _ (Nat.le_refl _) hi];exact e⟩
theorem UA {f:List Pt} (h:dZ f) (t:Int×Int) {p q:Nat} (hpq:p<q) (hq:q<f.length):iJ f t (BZ f t f.length)[p]! (BZ f t f.length)[q]!:=by
 have pm:=M6 h t;have nd:=pm.nodup_iff.1 (kA h);have ol:=rS f t f.length;have o:=IJ h t;have at': ∀x,x<f.length-> ∃i,i<f.length/\(BZ f t f.length)[x]! =(f[i]!).1/\M5 f t i f.length=x:=fun x hx=>by
  obtain ⟨i,hi,e⟩:=fS.1 (pm.mem_iff.2 (bF (l:=BZ f t f.length) (i:=x) (by omega)))
  have hr:=(GW f t i f.length).2 hi;have e2:=OZ h (t:=t) f.length (Nat.le_refl _) hi;rw [e] at e2;refine ⟨i,hi,e.symm,?_⟩;rcases Nat.lt_trichotomy (M5 f t i f.length) x with c|c|c
  · exact absurd e2 (dR.1 nd _ _ c (by omega))
  · exact c
  · exact absurd e2.symm (dR.1 nd _ _ c (by omega))
 obtain ⟨i,hi,e1,r1⟩:=at' p (by omega)
 obtain ⟨k,hk,e2,r2⟩:=at' q hq;rw [e1,e2];show cN (eJ f (f[i]!).1) (eJ f (f[k]!).1) t;rw [sP h hi rfl,sP h hk rfl]
 by_cases a:T7 f t i k
 · exact a
 · have:=OY h hk hi (o.tot i k hi hk (fun e=>by subst e;omega) a) f.length (Nat.le_refl _)
   rw [if_pos hk] at this;omega
theorem XV {f:List Pt} (h:dZ f) (t:Int×Int):(BZ f t f.length).Pairwise (iJ f t):=by
 refine List.pairwise_iff_getElem.2 fun i j hi hj hij=>?_
 have:=UA h t hij (by rw [<- rS f t f.length];exact hj)
 rw [getElem!_pos _ i hi,getElem!_pos _ j hj] at this;exact this
section
variable {f : List Pt} {t : Int × Int}
theorem aAS {P:Int->Int->Prop} {S:Int->Prop} (o:SO P S) {x:Int} {r:List Int} (hS: ∀y∈x::r,S y) (pw:(x::r).Pairwise P):kO P (x::r)=x:=by
 obtain ⟨p1,_⟩:=List.pairwise_cons.1 pw;refine RX o hS List.mem_cons_self fun y hy=>?_
 rcases List.mem_cons.1 hy with rfl|hy
 · exact o.irr _ (hS _ List.mem_cons_self)
 · exact o.asym (hS _ List.mem_cons_self) (hS _ (List.mem_cons_of_mem _ hy)) (p1 y hy)
def mR (r:List Int) (d b:Nat):List Int:=r.filter fun x=>decide (jC x d=b)
theorem R4 {P:Int->Int->Prop} {S:Int->Prop} (o:SO P S) {x:Int} {r:List Int} (hS: ∀y∈x::r,S y) (pw:(x::r).Pairwise P) (d b:Nat):gE jC (x::r) x d b=mR r d b:=by
 obtain ⟨p1,_⟩:=List.pairwise_cons.1 pw;unfold gE mR;rw [List.filter_cons,if_neg (by simp)]
 refine List.filter_congr fun y hy=>?_
 have ne:y≠x:=fun e=>o.irr x (hS x List.mem_cons_self) (by have:=p1 y hy;rwa [e] at this)
 by_cases c:jC y d=b
 · rw [aQ (show y≠x/\jC y d=b from ⟨ne,c⟩),aQ c]
 · rw [aL (fun k=>c k.2),aL c]
theorem UB (r:List Int) (x:Int) (d b:Nat):mR (r++[x]) d b=mR r d b++(if jC x d=b then [x] else []):=by
 unfold mR;rw [List.filter_append]
 congr 1
 by_cases c:jC x d=b
 · rw [if_pos c,List.filter_cons,if_pos (aQ c)];rfl
 · rw [if_neg c,List.filter_cons,if_neg (by rw [aL c];decide)];rfl
theorem aAT {x:Int} {r:List Int} (hr:r.length<=64) (pos: ∀y∈r,0<=y) {d:Nat} (hd:d<=1000) {b:Nat} {out A:List (Int×Int)} {c0:_} (hout:out.length+A.length<=1000) (hb:b<=2) (rec:c0 (mR r d b,x,((d+1:Nat):Int))=some A):
 aE (mP c0) (x::r,(d:Int),(b:Int),1,out,[])=some (.next (x::r,(d:Int),((b+1:Nat):Int),out++A)):=by
 have st:=bU (body:=mP c0) (fun i=>(x::r,(d:Int),(b:Int),((i+1:Nat):Int),out,mR (r.take i) d b)) r.length (fun i hi=>by
  have g:=aD (x::r) (i+1) (by rw [List.length_cons];omega)
  have gi:(x::r)[i+1]! =r[i]!:=by
   rw [getElem!_pos _ _ (by rw [List.length_cons];omega),getElem!_pos r i hi];rfl
  rw [gi] at g;have s:=UB (r.take i) r[i]! d b;rw [<- dK hi] at s;have lim:(mR (r.take i) d b).length<=64:=Nat.le_trans (List.length_filter_le ..) (by rw [List.length_take];omega)
  have ap:aY (mR (r.take i) d b) [r[i]!]=some (mR (r.take i) d b++[r[i]!]):=eG (by rw [List.length_singleton];omega)
  have bt:=OV (pos _ (bF hi)) d;rw [s];unfold mP;simp only [aH,List.length_cons,aQ (show ((i+1:Nat):Int)<((r.length+1:Nat):Int) by omega),cond_true,g,aF,aL (show¬(d:Int)<0 by omega),cond_false,bt,ap,aX (show i+1<1000000000 by omega)]
  by_cases c:jC r[i]! d=b
  · rw [gL (by omega),cond_true,if_pos c]
  · rw [dY (by omega),cond_false,if_neg c,List.append_nil])
 rw [List.take_length] at st;refine (show _=_ from st).trans (aP ?_);have g0:aK (x::r) 0=some x:=aD (x::r) 0 (by rw [List.length_cons];omega)
 have ap:aY out A=some (out++A):=eG (by omega)
 unfold mP;simp only [aH,List.length_cons,aL (show¬((r.length+1:Nat):Int)<((r.length+1:Nat):Int) by omega),cond_false,g0,aF,aX (show d<1000000000 by omega),rec,aX (show b<1000000000 by omega)]
 cases hA:A with
 |nil=>rw [List.append_nil];rfl
 |cons a A'=>rw [hA] at ap;rw [show (a::A').isEmpty=false from rfl,cond_false,ap,aF]
theorem XW {P:Int->Int->Prop} {S:Int->Prop} (o:SO P S) {n:Nat} {l:List Int} {u:Int} {d:Nat} (hS: ∀x∈l,S x) (nd:l.Nodup) (h:l.length<=n):(dC P jC n l u d).length=l.length:=by
 have:=(pX o FD n l u d hS nd h).1.length_eq
 rw [List.length_map] at this;exact this
theorem aGJ {P:Int->Int->Prop} {S:Int->Prop} (o:SO P S) {l:List Int} (hS: ∀x∈l,S x) (pw:l.Pairwise P):l.Nodup:=by
 induction l with
 |nil=>exact List.nodup_nil
 |cons x l ih=>
  obtain ⟨p1,p2⟩:=List.pairwise_cons.1 pw;exact List.nodup_cons.2 ⟨fun h=>o.irr x (hS x List.mem_cons_self) (p1 x h),ih (fun y hy=>hS y (List.mem_cons_of_mem _ hy)) p2⟩
theorem aHn (fok:bC f): ∀(k n:Nat) (l:List Int) (u:Int) (d:Nat),(∀x∈l,mQ f x)->l.Pairwise (iJ f t)->l.length<=k->k<=64->k+1<=n->d+k<=1000->
 fQ n (l,u,(d:Int))=some (dC (iJ f t) jC k l u d)
 |k,0,l,u,d,_,_,_,_,hn,_=>absurd hn (by omega)
 |k,n+1,[],u,d,_,_,_,_,_,_=>by cases k<;>rfl
 |0,n+1,x::r,u,d,_,_,hk,_,_,_=>absurd hk (by rw [List.length_cons];omega)
 |k+1,n+1,x::r,u,d,hS,pw,hk,h64,hn,hd=>by
  have o:=BT fok.2.2 t;have th:=aAS o hS pw;rw [List.length_cons] at hk;have hr: ∀b,(∀y∈mR r d b,mQ f y)/\(mR r d b).Pairwise (iJ f t)/\(mR r d b).length<=k:=fun b=>
   ⟨fun y hy=>hS y (List.mem_cons_of_mem _ (List.mem_filter.1 hy).1),(List.pairwise_cons.1 pw).2.filter _,Nat.le_trans (List.length_filter_le ..) (by omega)⟩
  have pos: ∀y∈r,0<=y:=fun y hy=>by
   have p0:=jK fok (hS y (List.mem_cons_of_mem _ hy));have p1:=p0.1.1;rw [p0.2] at p1;exact p1
  have rc: ∀b,fQ n (mR r d b,x,((d+1:Nat):Int))=some (dC (iJ f t) jC k (mR r d b) x (d+1)):=fun b=>aHn fok k n _ x (d+1) (hr b).1 (hr b).2.1 (hr b).2.2 (by omega) (by omega) (by omega)
  have ln: ∀b,(dC (iJ f t) jC k (mR r d b) x (d+1)).length<=64:=fun b=>by
   rw [XW o (hr b).1 (aGJ o (hr b).1 (hr b).2.1) (hr b).2.2];have:=(hr b).2.2;omega
  have l0:=ln 0;have l1:=ln 1;have A:=aAT (x:=x) (r:=r) (by omega) pos (d:=d) (by omega) (b:=0) (out:=[(x,u)]) (by rw [List.length_singleton];omega) (by omega) (rc 0)
  have B:=aAT (x:=x) (r:=r) (by omega) pos (d:=d) (by omega) (b:=1) (out:=[(x,u)]++dC (iJ f t) jC k (mR r d 0) x (d+1)) (by rw [List.length_append,List.length_singleton];omega) (by omega) (rc 1)
  show yF (fQ n) (x::r,u,(d:Int))=_;have g0:aK (x::r) 0=some x:=aD (x::r) 0 (by rw [List.length_cons];omega)
  have en:((Int.ofNat (x::r).length)==0)=false:=dY (by show¬((x::r).length:Int)=0;rw [List.length_cons];omega)
  unfold yF;simp only [en,cond_false,g0,aF];have s1:qN (fQ n) (x::r,(d:Int),0,[(x,u)])=some (.next (x::r,(d:Int),((0+1:Nat):Int),[(x,u)]++dC (iJ f t) jC k (mR r d 0) x (d+1))):=A
  have s2:qN (fQ n) (x::r,(d:Int),((0+1:Nat):Int),[(x,u)]++dC (iJ f t) jC k (mR r d 0) x (d+1))=some (.next (x::r,(d:Int),((1+1:Nat):Int),([(x,u)]++dC (iJ f t) jC k (mR r d 0) x (d+1))++dC (iJ f t) jC k (mR r d 1) x (d+1))):=B
  rw [bJ s1,bJ s2];refine (aP (show qN (fQ n) (x::r,(d:Int),((1+1:Nat):Int),_)=some (.done _) from rfl)).trans ?_;simp only [dC];rw [th,R4 o hS pw,R4 o hS pw];rfl
theorem R5 (fok:bC f):DL (BZ f t f.length) (-1) 0=some (lH f t):=by
 have f1:=fok.1;have pm:=M6 fok.2.2 t;have h:=aHn (t:=t) fok f.length 1000000 (BZ f t f.length) (-1) 0 (fun x hx=>fS.1 (pm.mem_iff.2 hx)) (XV fok.2.2 t) (by rw [rS];exact Nat.le_refl _) f1 (by omega) (by omega)
 refine (show _=_ from h).trans (congrArg some ?_);exact (DS (BT fok.2.2 t) f.length _ _ (-1) 0 (fun x hx=>fS.1 hx) pm).symm
theorem XX (fok:bC f) (r64:oS t):AM ⟨f⟩ t=some (oU f t):=by
 have f1:=fok.1;obtain ⟨k1,k2⟩:=wT (t:=t) fok;have nd:=k1.nodup_iff.2 (kA fok.2.2);have ll:(lH f t).length=f.length:=by have:=k1.length_eq;rw [List.length_map] at this;rw [this];exact List.length_map ..
 have mk:sZ (f.length:Int) (0:Int)=some (List.replicate f.length 0):=by
  unfold sZ;rw [if_pos ⟨by omega,by omega⟩,Int.toNat_natCast]
 let U:Nat->List Int:=fun j=>f.map fun p=>if p.1∈((lH f t).take j).map (fun e=>e.1) then jI 0 (lH f t) p.1 else 0
 have Ul: ∀j,(U j).length=f.length:=fun j=>List.length_map ..
 have Ua: ∀j i,i<f.length->(U j)[i]! =if (f[i]!).1∈((lH f t).take j).map (fun e=>e.1) then jI 0 (lH f t) (f[i]!).1 else 0:=fun j i hi=>by
  rw [getElem!_pos _ i (by rw [Ul];exact hi),List.getElem_map,getElem!_pos f i hi]
 have st:=bU (body:=uX) (fun j=>(lH f t,(j:Int),f,U j)) (lH f t).length (fun j hj=>by
  have g:=aD (lH f t) j hj;have hm:=bF hj;have hp:mQ f ((lH f t)[j]!).1:=fS.1 (k1.mem_iff.1 (List.mem_map.2 ⟨_,hm,rfl⟩));obtain ⟨i,hi,ei⟩:=hp;have ga:=GL fok.2.2 (by omega) hi ei
  have gu:=aD (U j) i (by rw [Ul];exact hi)
  unfold uX;simp only [aH,aQ (show (j:Int)<((lH f t).length:Int) by omega),cond_true,g,aF,ga,gu,wQ,aX (show j<1000000000 by omega)]
  have eU:(U j).set i ((lH f t)[j]!).2=U (j+1):=by
   refine rR (by rw [List.length_set,Ul,Ul]) fun k hk=>?_
   rw [List.length_set,Ul] at hk;have mm:(f[k]!).1∈((lH f t).take (j+1)).map (fun e=>e.1)↔(f[k]!).1∈((lH f t).take j).map (fun e=>e.1)\/(f[k]!).1∈[(lH f t)[j]!].map (fun e=>e.1):=by rw [dK hj,List.map_append,List.mem_append]
   rw [bV,Ul,Ua _ k hk,Ua _ k hk]
   by_cases c:k=i
   · subst c
     rw [if_pos ⟨rfl,hi⟩,if_pos (mm.2 (.inr (by rw [ei];exact List.mem_singleton.2 rfl))),ei]
     exact (FC nd (show (((lH f t)[j]!).1,((lH f t)[j]!).2)∈lH f t from hm)).symm
   · rw [if_neg (fun w=>c w.1)]
     have ne: ¬(f[k]!).1∈[(lH f t)[j]!].map fun e=>e.1:=fun w=>c (pU fok.2.2 hk hi ((List.mem_singleton.1 w).trans ei.symm))
     by_cases q:(f[k]!).1∈((lH f t).take j).map fun e=>e.1
     · rw [if_pos q,if_pos (mm.2 (.inl q))]
     · rw [if_neg q,if_neg (fun w=>(mm.1 w).elim q ne)]
  rw [eU])
 have U0:U 0=List.replicate f.length 0:=by
  refine rR (by rw [Ul,List.length_replicate]) fun k hk=>?_
  rw [Ul] at hk;rw [Ua 0 k hk,List.take_zero,List.map_nil,if_neg List.not_mem_nil,getElem!_pos _ k (by rw [List.length_replicate];exact hk),List.getElem_replicate]
 have Un:U (lH f t).length=oU f t:=by
  refine rR (by rw [Ul,FE]) fun k hk=>?_
  rw [Ul] at hk;rw [Ua _ k hk,List.take_length,if_pos (k1.mem_iff.2 (fS.2 ⟨k,hk,rfl⟩)),OU hk]
 unfold AM;rw [T9 fok r64,aF,R5 fok,aF];simp only [aH,beq_self_eq_true,cond_true,mk,aF];rw [<- U0];refine (show _=_ from st).trans (aP ?_);unfold uX;simp only [aH,aL (show¬((lH f t).length:Int)<((lH f t).length:Int) by omega),cond_false]
 rw [Un]
theorem HO (U:List Int) (i:Nat):eB f U (i+1)=eB f U i++(if 0<=U[i]! then [((f[i]!).1,U[i]!)] else []):=rfl
theorem XY {U:List Int} (hU:U.length=f.length) (hf:f.length<=1000):AN ⟨f⟩ U=some (eB f U f.length):=by
 have st:=bU (body:=uY) (fun i=>(U,(i:Int),f,eB f U i)) f.length (fun i hi=>by
  have gu:=aD U i (by omega)
  have gf:=aD f i hi;have el:=uC (f:=f) U i;have ap:aY (eB f U i) [((f[i]!).1,U[i]!)]=some (eB f U i++[((f[i]!).1,U[i]!)]):=eG (by rw [List.length_singleton];omega)
  rw [HO];unfold uY;simp only [aH,aQ (show (i:Int)<(U.length:Int) by omega),cond_true,gu,gf,aF,ap,aX (show i<1000000000 by omega)]
  by_cases c:0<=U[i]!
  · rw [aQ c,cond_true,if_pos c]
  · rw [aL c,cond_false,if_neg c,List.append_nil])
 unfold AN;refine (show _=_ from st).trans (aP ?_);unfold uY;simp only [aH,aL (show¬(f.length:Int)<(U.length:Int) by omega),cond_false]
theorem aGK (fok:bC f) (r:bW t) (r64:oS t):lR ⟨f⟩ t=some (oU f t,eB f (oU f t) f.length):=by
 have f1:=fok.1;obtain ⟨k1,_⟩:=wT (t:=t) fok;have nd:=k1.nodup_iff.2 (kA fok.2.2);have ul:=FE f t;have st:=bU (body:=nZ) (fun i=>(f,(f.length:Int),(i:Int),jB [] (lH f t),(oU f t).take i,eB f (oU f t) i)) f.length (fun i hi=>by
  have gf:=aD f i hi;have gm:jI 0 (jB [] (lH f t)) (f[i]!).1=(oU f t)[i]!:=by
   rw [R1 _ _ _ nd,if_pos (k1.mem_iff.2 (fS.2 ⟨i,hi,rfl⟩)),OU hi]
  have el:=uC (f:=f) (oU f t) i;have a1:aY ((oU f t).take i) [(oU f t)[i]!]=some ((oU f t).take (i+1)):=by
   rw [dK (by omega)];exact eG (by rw [List.length_take,List.length_singleton];omega)
  have a2:aY (eB f (oU f t) i) [((f[i]!).1,(oU f t)[i]!)]=some (eB f (oU f t) i++[((f[i]!).1,(oU f t)[i]!)]):=eG (by rw [List.length_singleton];omega)
  rw [HO];unfold nZ;simp only [aQ (show (i:Int)<(f.length:Int) by omega),cond_true,gf,aF,gm,a1,a2,aX (show i<1000000000 by omega)]
  by_cases c:0<=(oU f t)[i]!
  · rw [aQ c,cond_true,if_pos c]
  · rw [aL c,cond_false,if_neg c,List.append_nil])
 have en:(oU f t).take f.length=oU f t:=List.take_of_length_le (by omega)
 unfold lR;rw [aGG fok r r64,aF];refine (show _=_ from st).trans (aP ?_);unfold nZ;simp only [aL (show¬(f.length:Int)<(f.length:Int) by omega),cond_false,en]
end
theorem aAU (a b:List Int) (hl:a.length<=1000000):lB a b=some (decide (a=b)):=by
 unfold lB;simp only [aH]
 by_cases h:a.length=b.length
 case neg=>rw [dL (by omega),aL (fun k=>h (by rw [k]))];rfl
 rw [dA (by omega)]
 simp only [cond_false];have key:=OS (body:=mB) (fun i=>(a,b,(i:Int))) a.length (fun i=>a[i]! =b[i]!) (r:=false) (e:=true) (fun i hi=>by
  unfold mB;simp only [aH,aQ (show (i:Int)<(a.length:Int) by omega),cond_true,aD a i hi,aD b i (by omega),aF,aX (show i<1000000000 by omega)]
  constructor
  · intro h;rw [dL h];rfl
  · intro h;rw [dA h];rfl) (by
  unfold mB;simp only [aH,aL (show¬(a.length:Int)<(a.length:Int) by omega),cond_false])
 refine (show _=_ from key).trans ?_
 by_cases q:a=b
 · rw [if_pos (fun i _=>by rw [q]),aQ q]
 · rw [if_neg (fun w=>q (rR h w)),aL q]
structure wW (k:dT):Prop where
 clk:bH k.clock
 up:oU k.clock.field.points k.clock.now=k.up
 cert:(k.clock.certs.list.map fun x=>x.2).Perm (eB k.clock.field.points k.up k.clock.field.points.length)
theorem O0 {c:aR} {E:List (Int×Int)} (nd:E.Nodup) (ld: ∀e∈E,cN (eJ c.field.points e.2) (eJ c.field.points e.1) c.now):
 (c.certs.list.length=E.length/\ ∀i,i<E.length->tX c.certs.list E[i]!/\cN (eJ c.field.points (E[i]!).2) (eJ c.field.points (E[i]!).1) c.now)↔(c.certs.list.map fun x=>x.2).Perm E:=by
 have cl:(c.certs.list.map fun x=>x.2).length=c.certs.list.length:=List.length_map ..
 constructor
 · rintro ⟨h1,h2⟩
   refine (tZ nd (fun x hx=>?_) (by omega)).symm
   obtain ⟨i,hi,rfl⟩:=bE.1 hx;exact FB.1 (h2 i hi).1
 · intro h
   exact ⟨by rw [<- h.length_eq,cl],fun i hi=>⟨FB.2 (h.mem_iff.2 (bF hi)),ld _ (bF hi)⟩⟩
theorem LD {k:dT} (fit:wS k.clock):uZ k=some (if wW k then 0 else 8):=by
 unfold uZ;rw [K5 fit,aF]
 by_cases ok:bH k.clock
 case neg=>rw [if_neg ok,if_neg (fun h=>ok h.clk)];rfl
 rw [if_pos ok,dA rfl,cond_false];have bd:=ok.bd;have f1:=ok.fld.1;have hu:AM k.clock.field k.clock.now=_:=XX ok.fld ok.now64;have ul:=FE k.clock.field.points k.clock.now;rw [hu,aF,aAU _ _ (show (oU k.clock.field.points k.clock.now).length<=1000000 by omega),aF]
 by_cases hn:oU k.clock.field.points k.clock.now=k.up
 case neg=>rw [aL hn,if_neg (fun h:wW k=>hn h.up)];rfl
 have of:AN k.clock.field (oU k.clock.field.points k.clock.now)=_:=XY (f:=k.clock.field.points) ul (by omega)
 obtain ⟨eok,nd,ld⟩:=GV (t:=k.clock.now) ok.fld;rw [aQ hn,Bool.not_true,cond_false,of,aF,aGD ok _ eok.kn,aF];have iff:=O0 (c:=k.clock) nd ld
 by_cases hj:k.clock.certs.list.length=(eB k.clock.field.points (oU k.clock.field.points k.clock.now) k.clock.field.points.length).length/\ ∀i,i<(eB k.clock.field.points (oU k.clock.field.points k.clock.now) k.clock.field.points.length).length->tX k.clock.certs.list (eB k.clock.field.points (oU k.clock.field.points k.clock.now) k.clock.field.points.length)[i]!/\cN (eJ k.clock.field.points ((eB k.clock.field.points (oU k.clock.field.points k.clock.now) k.clock.field.points.length)[i]!).2) (eJ k.clock.field.points ((eB k.clock.field.points (oU k.clock.field.points k.clock.now) k.clock.field.points.length)[i]!).1) k.clock.now
 · rw [aQ hj,if_pos (show wW k from ⟨ok,hn,by rw [<- hn];exact iff.1 hj⟩)];rfl
 · rw [aL hj,if_neg (fun h:wW k=>hj (iff.2 (by rw [hn];exact h.cert)))];rfl
structure aAV (c:aR) (f:List Pt) (R:dT×Int):Prop where
 err:R.2=0
 up:R.1.up=oU f c.now
 ren:HI c f (eB f (oU f c.now) f.length) R.1.clock
theorem HI.same {c:aR} {f:List Pt} {es:List (Int×Int)} {r:aR} (h:HI c f es r) (nd:es.Nodup):(r.certs.list.map fun x=>x.2).Perm es:=by
 refine (List.perm_ext_iff_of_nodup (HL h.ok.crt) nd).2 fun x=>⟨fun hx=>?_,fun hx=>FB.1 (h.has x hx)⟩
 obtain ⟨y,hy,rfl⟩:=List.mem_map.1 hx;exact h.sub y hy
theorem aAV.ok {c:aR} {f:List Pt} {R:dT×Int} (fok:bC f) (h:aAV c f R):wW R.1 where
 clk:=h.ren.ok
 up:=by rw [h.ren.fld,h.ren.now,h.up]
 cert:=by rw [h.ren.fld,h.up];exact h.ren.same (GV fok).2.1
structure aNE (c:aR) (l:List Int):Prop where
 ok:bH c
 pm:(gD c.field.points).Perm l
 ct:(c.certs.list.map fun x=>x.2).Perm (AX l)
theorem aNE.bd {c:aR} {l:List Int} (h:aNE c l):l.length<=64:=by
 have:=h.ok.bd
 have:l.length=c.field.points.length:=by rw [<- h.pm.length_eq];exact List.length_map ..
 omega
structure aGL (R:dT) (F:List Pt) (t:Int×Int):Prop where
 ok:wW R
 fld:R.clock.field.points=F
 now:R.clock.now=t
theorem aGL.up {R:dT} {F:List Pt} {t:Int×Int} (h:aGL R F t):R.up=oU F t:=by rw [<- h.ok.up,h.fld,h.now]
theorem aAV.hg {c:aR} {f:List Pt} {R:dT×Int} (fok:bC f) (h:aAV c f R):aGL R.1 f c.now:=⟨h.ok fok,h.ren.fld,h.ren.now⟩
theorem UC {f:Field} (fok:bC f.points) {t:Int×Int} (rt:bW t) (r64:oS t): ∃k:dT,oF f t=some (k,0)/\aGL k f.points t:=by
 have f1:=fok.1;have cn:=OW f r64;rw [if_neg (fun k=>k (kH.2 fok)),if_pos rt] at cn
 have ok0:=XT fok rt r64;obtain ⟨eok,nd,_⟩:=GV (t:=t) fok;have el:=uC (f:=f.points) (oU f.points t) f.points.length;obtain ⟨r,g1,_,q⟩:=RS ok0 rfl eok (OX f t) (by omega)
 have ee:mE f.points (eB f.points (oU f.points t) f.points.length)=0:=by
  unfold mE;rw [if_neg (Classical.not_not.2 eok.cv),if_neg (Classical.not_not.2 nd),if_neg (fun h=>h eok.kn)]
 have rn:=K9 ok0 fok (es:=eB f.points (oU f.points t) f.points.length) (by omega) (fun _=>g1)
 rw [if_pos ee] at rn;have rn:nJ (DU f t) f (eB f.points (oU f.points t) f.points.length)=some (r,0):=rn;have hh:lR f (DU f t).now=some (oU f.points t,eB f.points (oU f.points t) f.points.length):=aGK fok rt r64;refine ⟨⟨r,oU f.points t⟩,?_,aAV.hg (c:=DU f t) (R:=(⟨r,oU f.points t⟩,0)) fok ⟨rfl,rfl,q⟩⟩;unfold oF oE
 rw [cn,aF,dA rfl,cond_false,hh,aF,rn,aF,dA rfl,cond_false,aF]
section
variable {P : Int -> Int -> Prop} {S : Int -> Prop} {bit : Int -> Nat -> Nat}
theorem M7 (o:SO P S) (hb: ∀x d,bit x d<2): ∀(n:Nat) (l:List Int) (u:Int) (d:Nat),(∀x∈l,S x)->l.Nodup->l.length<=n->u∉l-> ∀x,(x,u)∈dC P bit n l u d->x=kO P l
 |0,l,u,d,_,_,_,_,x,h=>by simp only [dC] at h;cases h
 |n+1,[],u,d,_,_,_,_,x,h=>by simp only [dC] at h;cases h
 |n+1,z::r,u,d,hS,nd,hl,hu,x,h=>by
  obtain ⟨t1,_⟩:=pW o (List.cons_ne_nil z r) hS;simp only [dC] at h;rcases List.mem_cons.1 h with e|e
  · exact congrArg Prod.fst e
  · exfalso
    have bad: ∀b,(x,u)∈dC P bit n (gE bit (z::r) (kO P (z::r)) d b) (kO P (z::r)) (d+1)->False:=fun b hm=>by
     have sl:=sU (bit:=bit) t1 d b;rcases (pX o hb n (gE bit (z::r) (kO P (z::r)) d b) (kO P (z::r)) (d+1) (fun y hy=>hS y (cC.1 hy).1) (jA nd _ d b) (by omega)).2 _ hm with k|⟨k,_⟩
     · exact hu (by rw [show u=_ from k];exact t1)
     · exact hu (cC.1 k).1
    rcases List.mem_append.1 e with e|e
    · exact bad 0 e
    · exact bad 1 e
structure Way (bit:Int->Nat->Nat) (H:List (Int×Int)) (l:List Int) (u:Int) (d:Nat) (x:Int) (ys:List Int):Prop where
 pos:0<ys.length
 fst:ys[0]! =x
 sub: ∀j,j<ys.length->ys[j]!∈l
 up: ∀j,j+1<ys.length->(ys[j]!,ys[j+1]!)∈H
 last:(ys[ys.length-1]!,u)∈H
 bits: ∀j,j<ys.length-> ∀e,e+j+1<d+ys.length->bit ys[j]! e=bit x e
 sib:2<=ys.length-> ∀y,y≠x->(y,ys[1]!)∈H->bit y (d+ys.length-2)≠bit x (d+ys.length-2)
theorem vD {ys:List Int} {T:Int} {j:Nat} (h:j<ys.length):(ys++[T])[j]! =ys[j]!:=by
 rw [getElem!_pos _ j (by rw [List.length_append];omega),getElem!_pos ys j h,List.getElem_append_left h]
theorem sV {ys:List Int} {T:Int}:(ys++[T])[ys.length]! =T:=by
 rw [getElem!_pos _ _ (by rw [List.length_append,List.length_singleton];omega),List.getElem_append_right (Nat.le_refl _)]
 simp
theorem R6 (o:SO P S) (hb: ∀x d,bit x d<2): ∀(n:Nat) (l:List Int) (u:Int) (d:Nat),(∀x∈l,S x)->l.Nodup->l.length<=n->u∉l->(∀x∈l,∀y∈l,∀e,e<d->bit x e=bit y e)->
 ∀x∈l,∃ys,Way bit (dC P bit n l u d) l u d x ys
 |0,l,u,d,_,_,hl,_,_,x,hx=>by
  have:l=[]:=List.length_eq_zero_iff.1 (by omega)
  rw [this] at hx;cases hx
 |n+1,[],u,d,_,_,_,_,_,x,hx=>by cases hx
 |n+1,z::r,u,d,hS,nd,hl,hu,hbits,x,hx=>by
  obtain ⟨t1,_⟩:=pW o (List.cons_ne_nil z r) hS;have eH:dC P bit (n+1) (z::r) u d=(kO P (z::r),u)::(dC P bit n (gE bit (z::r) (kO P (z::r)) d 0) (kO P (z::r)) (d+1)++dC P bit n (gE bit (z::r) (kO P (z::r)) d 1) (kO P (z::r)) (d+1)):=by simp only [dC]
  generalize hL:z::r=l at*;generalize hT:kO P l=T at*
  by_cases c:x=T
  · subst c
    exact ⟨[x],Nat.zero_lt_one,rfl,fun j hj=>by
     have:j=0:=by simp at hj;exact hj
     subst this;exact hx,fun j hj=>by simp at hj,by rw [eH];exact List.mem_cons_self,fun j hj e he=>by
     have:j=0:=by simp at hj;exact hj
     subst this;rfl,fun h=>by simp at h⟩
  have key: ∀b,bit x d=b->dC P bit n (gE bit l T d b) T (d+1) ⊆ dC P bit (n+1) l u d->(∀y v,(y,v)∈dC P bit (n+1) l u d->y≠T->(y,v)∈dC P bit n (gE bit l T d b) T (d+1)\/(bit y d≠b/\(v=T\/v∉gE bit l T d b)))->
   ∃ys,Way bit (dC P bit (n+1) l u d) l u d x ys:=by
   intro b hbx sub oth;have sl:=sU (bit:=bit) t1 d b;have hxs:x∈gE bit l T d b:=cC.2 ⟨hx,c,hbx⟩;have hTs:T∉gE bit l T d b:=fun h=>(cC.1 h).2.1 rfl
   have hS': ∀y∈gE bit l T d b,S y:=fun y hy=>hS y (cC.1 hy).1
   obtain ⟨ys,w⟩:=R6 o hb n (gE bit l T d b) T (d+1) hS' (jA nd _ d b) (by omega) hTs (fun p hp q hq e he=>by
    by_cases h:e=d
    · subst h;rw [(cC.1 hp).2.2,(cC.1 hq).2.2]
    · exact hbits p (cC.1 hp).1 q (cC.1 hq).1 e (by omega)) x hxs
   have wp:=w.pos;have ln:(ys++[T]).length=ys.length+1:=by rw [List.length_append,List.length_singleton]
   refine ⟨ys++[T],by omega,by rw [vD wp];exact w.fst,fun j hj=>?_,fun j hj=>?_,?_,fun j hj e he=>?_,fun _ y hy hm=>?_⟩
   · by_cases h:j<ys.length
     · rw [vD h];exact (cC.1 (w.sub j h)).1
     · have:j=ys.length:=by omega
       subst this;rw [sV];exact t1
   · by_cases h:j+1<ys.length
     · rw [vD (by omega),vD h];exact sub (w.up j h)
     · have:j+1=ys.length:=by omega
       rw [vD (by omega),this,sV]
       have q:=sub w.last;rw [show ys.length-1=j by omega] at q
       exact q
   · rw [ln,show ys.length+1-1=ys.length by omega,sV,eH];exact List.mem_cons_self
   · by_cases h:j<ys.length
     · rw [vD h];exact w.bits j h e (by omega)
     · have:j=ys.length:=by omega
       subst this;rw [sV];exact hbits T t1 x hx e (by omega)
   · rw [ln]
     have hyT:y≠T:=fun e=>by
      rw [e,eH] at hm;have ndk:=((pX o hb (n+1) l u d hS nd hl).1.nodup_iff).2 nd;rw [eH,List.map_cons,List.nodup_cons] at ndk;rcases List.mem_cons.1 hm with q|q
      · have:(ys++[T])[1]! =u:=congrArg Prod.snd q
        refine hu ?_;rw [<- this]
        by_cases h:1<ys.length
        · rw [vD h];exact (cC.1 (w.sub 1 h)).1
        · have:ys.length=1:=by omega
          rw [show (1:Nat)=ys.length from this.symm,sV];exact t1
      · exact ndk.1 (List.mem_map.2 ⟨_,q,rfl⟩)
     by_cases h:1<ys.length
     · rw [vD h] at hm
       rcases oth y _ hm hyT with q|⟨_,q|q⟩
       · have:=w.sib h y hy q
         rw [show d+(ys.length+1) -2=d+1+ys.length-2 by omega];exact this
       · exact absurd (w.sub 1 h) (by rw [q];exact hTs)
       · exact absurd (w.sub 1 h) q
     · have l1:ys.length=1:=by omega
       have q1:(ys++[T])[1]! =T:=by have:=sV (ys:=ys) (T:=T);rwa [l1] at this
       rw [q1] at hm;rw [show d+(ys.length+1) -2=d by omega,hbx]
       rcases oth y T hm hyT with q|⟨q,_⟩
       · have w1:=w.last
         rw [l1,show (1:Nat) -1=0 from rfl,w.fst] at w1;have e1:=M7 o hb n (gE bit l T d b) T (d+1) hS' (jA nd _ d b) (by omega) hTs y q
         have e2:=M7 o hb n (gE bit l T d b) T (d+1) hS' (jA nd _ d b) (by omega) hTs x w1
         exact absurd (e1.trans e2.symm) hy
       · exact q
  have ks: ∀b,_:=fun b=>pX o hb n (gE bit l T d b) T (d+1) (fun y hy=>hS y (cC.1 hy).1) (jA nd _ d b) (by have:=sU (bit:=bit) t1 d b;omega)
  have other: ∀b b',b≠b'-> ∀y v,(y,v)∈dC P bit n (gE bit l T d b') T (d+1)->bit y d≠b/\(v=T\/v∉gE bit l T d b):=fun b b' ne y v hm=>by
   have hy:y∈gE bit l T d b':=(ks b').1.mem_iff.1 (List.mem_map.2 ⟨_,hm,rfl⟩);refine ⟨fun e=>ne (by rw [<- e];exact (cC.1 hy).2.2),?_⟩
   rcases (ks b').2 _ hm with k|⟨k,_⟩
   · exact .inl k
   · exact .inr fun h=>ne (by rw [<- (cC.1 h).2.2];exact (cC.1 k).2.2)
  have h2:=hb x d;have cb:bit x d=0\/bit x d=1:=by omega
  rcases cb with q|q
  · refine key 0 q (fun e he=>by rw [eH];exact List.mem_cons_of_mem _ (List.mem_append_left _ he)) (fun y v hm hy=>?_)
    rw [eH] at hm;rcases List.mem_cons.1 hm with e|e
    · exact absurd (congrArg Prod.fst e) hy
    · rcases List.mem_append.1 e with e|e
      · exact .inl e
      · exact .inr (other 0 1 (by decide) y v e)
  · refine key 1 q (fun e he=>by rw [eH];exact List.mem_cons_of_mem _ (List.mem_append_right _ he)) (fun y v hm hy=>?_)
    rw [eH] at hm;rcases List.mem_cons.1 hm with e|e
    · exact absurd (congrArg Prod.fst e) hy
    · rcases List.mem_append.1 e with e|e
      · exact .inr (other 1 0 (by decide) y v e)
      · exact .inl e
end
theorem aGM: ∀d:Nat,d<17->aA .i64 (YU .i64 1 (d:Int) -1)=((2^d-1:Nat):Int):=by decide+kernel
theorem R7 {x:Int} (h0:0<=x) (h1:x<=65535) {d:Nat} (hd:d<17):mZ .i64 x (aA .i64 (YU .i64 1 (d:Int) -1))=((x.toNat%2^d:Nat):Int):=by
 rw [aGM d hd];obtain ⟨n,rfl⟩: ∃n:Nat,x=(n:Int):=⟨x.toNat,by omega⟩
 have p16:2^d<=2^16:=Nat.pow_le_pow_right (by decide) (by omega)
 have p16':2^16=65536:=rfl;have pp:0<2^d:=Nat.pow_pos (by decide)
 rw [Int.toNat_natCast];unfold mZ;have e:(BitVec.ofInt (IntKind.bits .i64) ((n:Nat):Int)&&&BitVec.ofInt (IntKind.bits .i64) ((2^d-1:Nat):Int)).toNat=n%2^d:=by
  rw [BitVec.toNat_and,BitVec.toNat_ofInt,BitVec.toNat_ofInt];rw [show (IntKind.bits .i64)=64 from rfl];have e64:((2^64:Nat):Int)=18446744073709551616:=rfl;have e1:((n:Int)%((2^64:Nat):Int)).toNat=n:=by rw [e64];omega
  have e2:(((2^d-1:Nat):Int)%((2^64:Nat):Int)).toNat=2^d-1:=by rw [e64];omega
  rw [e1,e2,Nat.and_two_pow_sub_one_eq_mod]
 rw [e,<- qY]
 have:=Nat.mod_lt n pp
 exact CH ⟨by omega,by omega⟩
theorem LE {a b:Nat}: ∀k,k<=64->(∀e,e<k->a / 2^(min e 64)%2=b / 2^(min e 64)%2)->a%2^k=b%2^k
 |0,_,_=>by rw [Nat.pow_zero,Nat.mod_one,Nat.mod_one]
 |k+1,hk,h=>by
  have ih:=LE k (by omega) fun e he=>h e (by omega)
  have hh:=h k (by omega)
  rw [Nat.min_eq_left (by omega)] at hh
  rw [Nat.mod_pow_succ,Nat.mod_pow_succ,ih,hh]
section
variable {f : List Pt} {t : Int × Int}
theorem sQ (fok:bC f) {x:Int} (h:x∈gD f):0<=x/\x<=65535:=by
 have p:=jK fok (fS.1 h);have q:=p.1;unfold gF at q;rw [p.2] at q;omega
theorem XZ (fok:bC f) {x:Int} (hx:x∈gD f): ∃ys,Way jC (lH f t) (gD f) (-1) 0 x ys/\ys.length<=17:=by
 have so:=BT fok.2.2 t;have hS: ∀y∈gD f,mQ f y:=fun y hy=>fS.1 hy
 have nd:=kA fok.2.2;have ln:(gD f).length<=f.length:=by unfold gD;rw [List.length_map];exact Nat.le_refl _
 have hu:(-1:Int)∉gD f:=fun h=>absurd (sQ fok h).1 (by decide)
 obtain ⟨ys,w⟩:=R6 so FD f.length (gD f) (-1) 0 hS nd ln hu (fun _ _ _ _ e he=>absurd he (Nat.not_lt_zero e)) x hx
 have w:Way jC (lH f t) (gD f) (-1) 0 x ys:=w;refine ⟨ys,w,Classical.byContradiction fun c=>?_⟩
 have m1:=w.sub 1 (by omega)
 have u0:=w.up 0 (by omega)
 rw [w.fst] at u0;have hne:ys[1]!≠x:=by
  rcases (wT (t:=t) fok).2 _ u0 with k|⟨_,k⟩
  · exact absurd (show (0:Int)<= -1 by rw [<- show ys[0+1]! = -1 from k];exact (sQ fok m1).1) (by decide)
  · intro e
    rw [show ((x,ys[0+1]!):Int×Int).2=x from e] at k;exact so.irr x (hS x hx) k
 have b:=w.bits 1 (by omega)
 have bx:=sQ fok hx;have by':=sQ fok m1
 have mm:=LE (a:=(ys[1]!).toNat) (b:=x.toNat) 16 (by omega) fun e he=>b e (by omega)
 have p16:2^16=65536:=rfl;rw [p16] at mm;refine hne ?_;omega
theorem aAW (fok:bC f) {i:Nat} (hi:i<f.length) {x v:Int} (e:(f[i]!).1=x) (h:(x,v)∈lH f t):(oU f t)[i]! =v:=by
 rw [OU hi,e];exact FC ((wT (t:=t) fok).1.nodup_iff.2 (kA fok.2.2)) h
end
def w4 (k:dT) (F:List Pt) (i:Nat):=(true,(i:Int),F,k.clock.now.1,k.clock.now.2,k.clock.field.points,k.clock.certs.next_,k.clock.certs.list,k.clock.agenda.slots.uses,k.clock.agenda.slots.used,k.clock.agenda.slots.free,k.clock.agenda.heap,k.clock.agenda.where_,k.clock.due,k.up)
def w3 (k:dT) (F:List Pt) (i:Nat) (n:Int) (ys:List Int):=(true,(i:Int),n,F,k.clock.now.1,k.clock.now.2,k.clock.field.points,k.clock.certs.next_,k.clock.certs.list,k.clock.agenda.slots.uses,k.clock.agenda.slots.used,k.clock.agenda.slots.free,k.clock.agenda.heap,k.clock.agenda.where_,k.clock.due,k.up,ys)
def w2 (k:dT) (F:List Pt) (i m d:Nat) (ys:List Int):=(true,(i:Int),(m:Int),(d:Int),F,k.clock.now.1,k.clock.now.2,k.clock.field.points,k.clock.certs.next_,k.clock.certs.list,k.clock.agenda.slots.uses,k.clock.agenda.slots.used,k.clock.agenda.slots.free,k.clock.agenda.heap,k.clock.agenda.where_,k.clock.due,k.up,ys)
def w1 (k:dT) (F:List Pt) (i m j:Nat):=(true,(i:Int),(m:Int),(j:Int),F,k.clock.now.1,k.clock.now.2,k.clock.field.points,k.clock.certs.next_,k.clock.certs.list,k.clock.agenda.slots.uses,k.clock.agenda.slots.used,k.clock.agenda.slots.free,k.clock.agenda.heap,k.clock.agenda.where_,k.clock.due,k.up)
theorem aGN {k:dT} {F:List Pt} (fok:bC F) (hl:k.up.length=F.length) {i m:Nat} (hi:i<F.length) (hm:m<=100) (h1:0<=k.up[i]!->1<=m)
 (h2:0<=k.up[i]!-> ∀j,j<i->k.up[j]! =k.up[i]!->jC (F[j]!).1 (m-1)≠jC (F[i]!).1 (m-1)):
 aE eO (w1 k F i m 0)=some (.done (.done (.next (w4 k F (i+1))))):=by
 have f1:=fok.1;have st:=bU (body:=eO) (fun j=>w1 k F i m j) i (fun j hj=>by
  have gi:=aD k.up i (by omega)
  have gj:=aD k.up j (by omega)
  have fi:=aD F i hi;have fj:=aD F j (by omega)
  have pi:=sQ fok (show (F[i]!).1∈gD F from fS.2 ⟨i,hi,rfl⟩);have pj:=sQ fok (show (F[j]!).1∈gD F from fS.2 ⟨j,by omega,rfl⟩)
  unfold eO w1;simp only [aQ (show (j:Int)<(i:Int) by omega),cond_true,gi,aF,aX (show j<1000000000 by omega)]
  by_cases c:0<=k.up[i]!
  · have c1:=h1 c
    have em:aA .i64 ((m:Int) -1)=((m-1:Nat):Int):=by rw [CH ⟨by omega,by omega⟩];omega
    simp only [aQ c,cond_true,gj,aF]
    by_cases q:k.up[j]! =k.up[i]!
    · have hb:=h2 c j hj q
      have bi:=OV pi.1 (m-1);have bj:=OV pj.1 (m-1);simp only [gL q,cond_true,fi,fj,aF,em,aL (show¬((m-1:Nat):Int)<0 by omega),cond_false,bi,bj]
      rw [dY (fun e=>hb (by omega)),cond_false]
    · simp only [dY q,cond_false]
  · simp only [aL c,cond_false])
 refine (show _=_ from st).trans (aP ?_);unfold eO w1 w4;simp only [aL (show¬(i:Int)<(i:Int) by omega),cond_false,aX (show i<1000000000 by omega)]
theorem aGO {k:dT} {F:List Pt} (fok:bC F) {i m:Nat} (hi:i<F.length) (hm:m<=16) {ys:List Int} (yl:ys.length=m+1) (hy: ∀j,j<ys.length->ys[j]!∈gD F)
 (hb: ∀d,1<=d->d<=m-> ∀e,e<d->jC (ys[m-d]!) e=jC (F[i]!).1 e) {r:_} (hr:aE eO (w1 k F i m 0)=some (.done r)):
 aE eQ (w2 k F i m 1 ys)=some r:=by
 have f1:=fok.1;have st:=bU (body:=eQ) (fun j=>w2 k F i m (j+1) ys) m (fun j hj=>by
  have g:=aD ys (m- (j+1)) (by omega)
  have fi:=aD F i hi;have pi:=sQ fok (show (F[i]!).1∈gD F from fS.2 ⟨i,hi,rfl⟩);have py:=sQ fok (hy (m- (j+1)) (by omega))
  have a1:=R7 pi.1 pi.2 (d:=j+1) (by omega)
  have a2:=R7 py.1 py.2 (d:=j+1) (by omega)
  have em:aA .i64 ((m:Int) - ((j+1:Nat):Int))=((m- (j+1):Nat):Int):=by rw [CH ⟨by omega,by omega⟩];omega
  have mm:=LE (a:=(ys[m- (j+1)]!).toNat) (b:=((F[i]!).1).toNat) (j+1) (by omega) (hb (j+1) (by omega) (by omega))
  unfold eQ w2;simp only [aQ (show ((j+1:Nat):Int)<=(m:Int) by omega),cond_true,aL (show¬((j+1:Nat):Int)<0 by omega),cond_false,em,g,fi,aF,a1,a2,mm,dA rfl,aX (show j+1<1000000000 by omega)])
 refine (show _=_ from st).trans (aP ?_);unfold eQ w2;simp only [aL (show¬((m+1:Nat):Int)<=(m:Int) by omega),cond_false]
 exact hr
theorem aGP {k:dT} {f:Field} {t:Int×Int} (fok:bC f.points) (hu:k.up=oU f.points t) {i:Nat} (hi:i<f.points.length):
 aE gA (w3 k f.points i k.up[i]! [(f.points[i]!).1])=some (.next (w4 k f.points (i+1))):=by
 have f1:=fok.1;have ul:=FE f.points t;rw [<- hu] at ul;have hx:(f.points[i]!).1∈gD f.points:=fS.2 ⟨i,hi,rfl⟩;obtain ⟨ys,w,h17⟩:=XZ (t:=t) fok hx;have wp:=w.pos
 let nx:Nat->Int:=fun j=>if j+1<ys.length then ys[j+1]! else -1
 have nxt: ∀j,j<ys.length-> ∀p,p<f.points.length->(f.points[p]!).1=ys[j]!->k.up[p]! =nx j:=fun j hj p hp e=>by
  rw [hu]
  by_cases c:j+1<ys.length
  · rw [aAW fok hp e (w.up j c)];exact (if_pos c).symm
  · have:=w.last
    rw [show ys.length-1=j by omega] at this
    rw [aAW fok hp e this];exact (if_neg c).symm
 have st:=bU (body:=gA) (fun j=>w3 k f.points i (nx j) (ys.take (j+1))) (ys.length-1) (fun j hj=>by
  have n0:nx j=ys[j+1]!:=if_pos (by omega)
  have hm:=w.sub (j+1) (by omega)
  obtain ⟨p,hp,ep⟩:=fS.1 hm;have ga:=GL fok.2.2 (by omega) hp ep
  have gu:=aD k.up p (by omega)
  rw [nxt (j+1) (by omega) p hp ep] at gu
  have pos:=(sQ fok hm).1;have ap:aY (ys.take (j+1)) [ys[j+1]!]=some (ys.take (j+1+1)):=by
   rw [dK (l:=ys) (k:=j+1) (by omega)];exact eG (by rw [List.length_take,List.length_singleton];omega)
  unfold gA w3;simp only [n0,aQ pos,cond_true,aH,List.length_take,aQ (show ((min (j+1) ys.length:Nat):Int)<20 by omega),ga,aF,aL (show¬(p:Int)<0 by omega),cond_false,ap,gu])
 have tk:ys.take (ys.length-1+1)=ys:=List.take_of_length_le (by omega)
 have n0:nx (ys.length-1)= -1:=if_neg (by omega)
 have t0:ys.take (0+1)=[(f.points[i]!).1]:=by
  have e:=w.fst;cases hys:ys with
  |nil=>rw [hys] at wp;cases wp
  |cons a r=>rw [hys] at e;rw [<- e];rfl
 have s0:k.up[i]! =nx 0:=nxt 0 wp i hi w.fst.symm;rw [t0,<- s0,tk,n0] at st;refine st.trans (aP ?_);have em:aA .i64 ((ys.length:Int) -1)=((ys.length-1:Nat):Int):=by rw [CH ⟨by omega,by omega⟩];omega
 have r1:=aGN (k:=k) fok ul hi (m:=ys.length-1) (by omega) (fun h=>by
  rw [s0] at h
  by_cases c:0+1<ys.length
  · omega
  · rw [show nx 0= -1 from if_neg c] at h;exact absurd h (by decide)) (fun h j hj e=>by
  rw [s0] at h e
  by_cases c:0+1<ys.length
  · rw [show nx 0=ys[0+1]! from if_pos c] at e
    have m1:=V4 (t:=t) fok (show j<f.points.length by omega)
    rw [<- hu,e] at m1
    have:=w.sib (by omega) _ (fun q=>by have:=pU fok.2.2 (show j<f.points.length by omega) hi q;omega) m1
    rw [show ys.length-1-1=0+ys.length-2 by omega];exact this
  · rw [show nx 0= -1 from if_neg c] at h;exact absurd h (by decide))
 have r2:=aGO (k:=k) fok hi (m:=ys.length-1) (by omega) (ys:=ys) (by omega) w.sub (fun d h1 h2 e he=>w.bits (ys.length-1-d) (by omega) e (by omega)) r1
 unfold gA w3;simp only [aL (show¬(0:Int)<= -1 by decide),cond_false,aH,em,aL (show¬(16:Int)<((ys.length-1:Nat):Int) by omega)]
 exact r2
theorem yP (f:Field) (t:Int×Int) (r64:oS t):oL f t=some true:=by
 unfold oL;rw [aF];rcases RU f with e|⟨e,_⟩
 · rw [e];rfl
 rw [e,aF,cond_false,AQ,aF]
 by_cases h:kX f.points=0
 case neg=>rw [dL h];rfl
 rw [dA h,cond_false,tT r64,aF]
 by_cases rt:bW t
 case neg=>rw [if_neg rt];rfl
 rw [if_pos rt,dA rfl,cond_false,Bool.not_true,cond_false];have fok:=kH.1 h;have f1:=fok.1;obtain ⟨k,b1,b2⟩:=UC fok rt r64;have hu:=b2.up;have ul:=FE f.points t;rw [<- hu] at ul;rw [b1,aF,dA rfl,cond_false,LD b2.ok.clk.fit,if_pos b2.ok,aF,dA rfl,cond_false]
 have st:=bU (body:=iX) (fun i=>w4 k f.points i) f.points.length (fun i hi=>by
  have gf:=aD f.points i hi;have gu:=aD k.up i (by omega)
  have r:=aGP (k:=k) fok hu hi;unfold iX w4;simp only [aH,aQ (show (i:Int)<(f.points.length:Int) by omega),cond_true,gf,gu,aF]
  exact r)
 refine (show _=_ from st).trans (aP ?_);unfold iX w4;simp only [aH,aL (show¬(f.points.length:Int)<(f.points.length:Int) by omega),cond_false]
theorem aNA.of {c:aR} (h1:RT.wf [.i .i64,.i .i64] c.now) (h2: ∀a∈c.agenda.heap,RT.wf [.i .i64,.i .i64,.i .i64,.i .i64,.i .i64] a):aNA c where
 now:=⟨GC h1.1,GC h1.2⟩
 at64 w hw:=by
  have:=h2 (c.agenda.heap[w]!) (by rw [getElem!_pos c.agenda.heap w hw];exact List.getElem_mem hw)
  exact ⟨GC this.1,GC this.2.1⟩
end Go.Proofs.YtbncnimfgdelaaaGreat
