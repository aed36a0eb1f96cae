/- Plain laws (4). -/
import Derived.Test.YtfejhjllooomlaaGreatDQM3
import Derived.Test.YtfejhjllooomlaaGreatDQS2
import Derived.Test.YtfejhjllooomlaaGreatDVm3
namespace Go.Proofs.YtfejhjllooomlaaGreat
open Go.Vm Classical
theorem YZ {f:List Pt} (fok:cC f) {l:List Int} (pm:(pM f).Perm l):I5 f (dQ l):=by
 have nd:=pm.nodup_iff.1 (mM fok.2.2);have f1:=fok.1;have ln:l.length=f.length:=by rw [<- pm.length_eq];exact List.length_map ..
 have hp: ∀e∈dQ l,lM f e:=fun e he=>⟨pJ.1 (pm.mem_iff.2 (KH he).1),pJ.1 (pm.mem_iff.2 (KH he).2)⟩
 refine ⟨by rw [lO];omega,fun e he=>?_,hp⟩
 obtain ⟨⟨p1,p2⟩,q1,q2⟩:=And.intro (iC fok (hp e he).1) (iC fok (hp e he).2);have ne:=aD3 nd he;unfold gY at p1 q1;unfold gK;omega
def iB (l:List Int) (i j:Nat):List Int:=(l.set i l[j]!).set j l[i]!
theorem mO {l:List Int} {i j:Nat} (hi:i<l.length) (hj:j<l.length):(iB l i j).Perm l:=by
 unfold iB;rw [getElem!_pos l i hi,getElem!_pos l j hj];exact List.set_set_perm hi hj
theorem Y0 (k:bW):vN k=some true\/(vN k=some false/\aLP k.clock/\k.heap.length<=70):=by
 unfold vN
 rcases WM k.clock with e|⟨e,sh⟩
 · rw [e];exact .inl rfl
 rw [e,aD,cond_false,aF]
 by_cases h:70<k.heap.length
 · rw [aP (by omega)];exact .inl rfl
 · rw [aL (by omega)];exact .inr ⟨rfl,sh,by omega⟩
theorem aAB {i:Nat} (hi:i<1000000000) (h0:0<i):aA .i64 (Int.tdiv (aA .i64 ((i:Int) -1)) 2)=(((i-1) / 2:Nat):Int):=by
 rw [show aA .i64 ((i:Int) -1)=((i-1:Nat):Int) from wZ hi h0,Int.tdiv_eq_ediv_of_nonneg (by omega),fT ⟨by omega,by omega⟩];omega
noncomputable def pN (f:List Pt) (t:Int×Int):Nat->List Int->List Int
 |0,l=>l
 |i+1,l=>if bI (bC f l[i+1]!) (bC f l[i / 2]!) t then pN f t (i / 2) (iB l (i+1) (i / 2)) else l
termination_by i=>i
decreasing_by omega
theorem G7 (f:List Pt) (t:Int×Int): ∀(i:Nat) (l:List Int),i<l.length->(pN f t i l).Perm l:=by
 intro i
 induction i using Nat.strongRecOn with
 |ind i ih=>
  intro l hi;cases i with
  |zero=>unfold pN;exact List.Perm.refl _
  |succ i=>
   unfold pN;split
   · have sp:=mO (l:=l) hi (show i / 2<l.length by omega)
     exact (ih (i / 2) (by omega) _ (by rw [sp.length_eq];omega)).trans sp
   · exact List.Perm.refl _
theorem TC (p q:Pt) (t:Int×Int):QO p q t=(p.2.1*t.2+p.2.2*t.1) - (q.2.1*t.2+q.2.2*t.1):=by
 rw [aK6,Int.sub_mul,Int.sub_mul];omega
theorem zI {p q r:Pt} {t:Int×Int} (h1:bI p q t) (h2:bI q r t):bI p r t:=by
 unfold bI at*;rw [TC] at*;generalize p.2.1*t.2+p.2.2*t.1=a at*;generalize q.2.1*t.2+q.2.2*t.1=b at*;generalize r.2.1*t.2+r.2.2*t.1=c at*;omega
theorem rI {p q:Pt} (t:Int×Int) (h:p.1≠q.1) (hn: ¬bI p q t):bI q p t:=by
 unfold bI at*;rw [TC] at*;generalize p.2.1*t.2+p.2.2*t.1=a at*;generalize q.2.1*t.2+q.2.2*t.1=b at*;omega
theorem fX (l:List Int) (i j:Nat):(iB l i j).length=l.length:=by
 unfold iB;rw [List.length_set,List.length_set]
theorem Y1 (l:List Int) {i j:Nat} (_:i<l.length) (hj:j<l.length):(iB l i j)[j]! =l[i]!:=by
 unfold iB;rw [bG,if_pos ⟨rfl,by rw [List.length_set];exact hj⟩]
noncomputable def vR (f:List Pt) (t:Int×Int):Nat->List Int->Nat
 |0,_=>0
 |i+1,l=>if bI (bC f l[i+1]!) (bC f l[i / 2]!) t then vR f t (i / 2) (iB l (i+1) (i / 2)) else i+1
termination_by i=>i
decreasing_by omega
theorem O4 (f:List Pt) (t:Int×Int): ∀(i:Nat) (l:List Int),i<l.length->vR f t i l<l.length/\(pN f t i l)[vR f t i l]! =l[i]!:=by
 intro i
 induction i using Nat.strongRecOn with
 |ind i ih=>
  intro l hi;cases i with
  |zero=>unfold vR pN;exact ⟨hi,rfl⟩
  |succ i=>
   unfold vR pN;split
   · have hj:i / 2<l.length:=by omega
     obtain ⟨h1,h2⟩:=ih (i / 2) (by omega) (iB l (i+1) (i / 2)) (by rw [fX];exact hj)
     rw [fX] at h1;exact ⟨h1,by rw [h2,Y1 l hi hj]⟩
   · exact ⟨hi,rfl⟩
noncomputable def jC (f:List Pt) (t:Int×Int) (l:List Int) (i:Nat):Nat:=if 2*i+1<l.length/\bI (bC f l[2*i+1]!) (bC f l[i]!) t then 2*i+1 else i
noncomputable def cS (f:List Pt) (t:Int×Int) (l:List Int) (i:Nat):Nat:=if 2*i+2<l.length/\bI (bC f l[2*i+2]!) (bC f l[jC f t l i]!) t then 2*i+2 else jC f t l i
theorem kB (f:List Pt) (t:Int×Int) (l:List Int) (i:Nat):jC f t l i=i\/(jC f t l i=2*i+1/\2*i+1<l.length):=by
 unfold jC;split
 · rename_i h;exact .inr ⟨rfl,h.1⟩
 · exact .inl rfl
theorem oZ (f:List Pt) (t:Int×Int) (l:List Int) (i:Nat):cS f t l i=i\/(i<cS f t l i/\cS f t l i<l.length):=by
 unfold cS;split
 · rename_i h;exact .inr ⟨by omega,h.1⟩
 · rcases kB f t l i with h|⟨h,k⟩
   · exact .inl h
   · exact .inr (by omega)
noncomputable def wI (f:List Pt) (t:Int×Int) (l:List Int) (i:Nat):List Int:=
 if _h:i<cS f t l i/\cS f t l i<l.length then wI f t (iB l i (cS f t l i)) (cS f t l i) else l
termination_by l.length-i
decreasing_by rw [fX];omega
theorem qP {f:List Pt} {t:Int×Int} {l:List Int} {i:Nat} (h:cS f t l i=i):wI f t l i=l:=by
 unfold wI;rw [dif_neg (by omega)]
theorem BA {f:List Pt} {t:Int×Int} {l:List Int} {i:Nat} (h:cS f t l i≠i):wI f t l i=wI f t (iB l i (cS f t l i)) (cS f t l i):=by
 have:=oZ f t l i
 conv=>lhs;unfold wI
 rw [dif_pos (by omega)]
theorem O5 (f:List Pt) (t:Int×Int): ∀(d:Nat) (l:List Int) (i:Nat),l.length-i<=d->i<l.length->(wI f t l i).Perm l:=by
 intro d
 induction d with
 |zero=>intro l i h hi;omega
 |succ d ih=>
  intro l i h hi
  by_cases e:cS f t l i=i
  · rw [qP e]
  · have:=oZ f t l i
    rw [BA e];exact (ih _ _ (by rw [fX];omega) (by rw [fX];omega)).trans (mO hi (by omega))
structure SO (P:Int->Int->Prop) (S:Int->Prop):Prop where
 irr: ∀a,S a-> ¬P a a
 tr: ∀a b c,S a->S b->S c->P a b->P b c->P a c
 tot: ∀a b,S a->S b->a≠b->P a b\/P b a
abbrev par (j:Nat):Nat:=(j-1) / 2
def Hp (P:Int->Int->Prop) (l:List Int):Prop:= ∀j,0<j->j<l.length-> ¬P l[j]! l[par j]!
section
variable {P : Int -> Int -> Prop} {S : Int -> Prop}
theorem SO.asym (o:SO P S) {a b:Int} (ha:S a) (hb:S b) (h:P a b): ¬P b a:=fun k=>o.irr a ha (o.tr a b a ha hb ha h k)
theorem SO.ntr (o:SO P S) {a b c:Int} (ha:S a) (hb:S b) (hc:S c) (h1: ¬P a b) (h2: ¬P b c): ¬P a c:=fun h=>by
 by_cases e:b=c
 · exact h1 (e▸h)
 · rcases o.tot b c hb hc e with k|k
   · exact h2 k
   · exact h1 (o.tr a c b ha hc hb h k)
theorem SO.up (o:SO P S) {a b c:Int} (ha:S a) (hb:S b) (hc:S c) (h1:P b c) (h2: ¬P a c): ¬P a b:=fun h=>h2 (o.tr a b c ha hb hc h h1)
theorem pC (l:List Int) {i j:Nat} (hi:i<l.length) (hj:j<l.length) (k:Nat):(iB l i j)[k]! =if k=j then l[i]! else if k=i then l[j]! else l[k]!:=by
 unfold iB;rw [bG,List.length_set,bG]
 by_cases c:k=j
 · rw [if_pos ⟨c,hj⟩,if_pos c]
 · rw [if_neg (fun h=>c h.1),if_neg c]
   by_cases d:k=i
   · rw [if_pos ⟨d,hi⟩,if_pos d]
   · rw [if_neg (fun h=>d h.1),if_neg d]
structure aAC (P:Int->Int->Prop) (l:List Int) (i:Nat):Prop where
 lt:i<l.length
 el: ∀j,0<j->j<l.length->j≠i-> ¬P l[j]! l[par j]!
 gr: ∀j,0<j->j<l.length->par j=i->0<i-> ¬P l[j]! l[par i]!
theorem aBP (o:SO P S) {f:List Pt} {t:Int×Int} (hP: ∀a b,P a b↔bI (bC f a) (bC f b) t): ∀(i:Nat) (l:List Int),(∀x∈l,S x)->aAC P l i->Hp P (pN f t i l):=by
 intro i
 induction i using Nat.strongRecOn with
 |ind i ih=>
  intro l hS v;have sm: ∀j,j<l.length->S l[j]!:=fun j hj=>hS _ (aQ hj)
  cases i with
  |zero=>unfold pN;exact fun j h1 h2=>v.el j h1 h2 (by omega)
  |succ i=>
   have hi:=v.lt;have hp:i / 2<l.length:=by omega
   have pe:par (i+1)=i / 2:=by simp only [par];omega
   unfold pN;split
   · rename_i hc
     have hc:P l[i+1]! l[i / 2]!:=(hP _ _).2 hc;refine ih (i / 2) (by omega) _ (fun x hx=>hS x ((mO hi hp).mem_iff.1 hx)) ⟨by rw [fX];exact hp,fun j h1 h2 h3=>?_,fun j h1 h2 h3 h4=>?_⟩
     · rw [fX] at h2
       rw [pC l hi hp,pC l hi hp,if_neg h3]
       by_cases a:j=i+1
       · subst a
         rw [if_pos rfl,pe,if_pos rfl];exact o.asym (sm _ hi) (sm _ hp) hc
       · rw [if_neg a]
         by_cases b:par j=i / 2
         · rw [b,if_pos rfl]
           have:=v.el j h1 h2 a
           rw [b] at this;exact o.up (sm _ h2) (sm _ hi) (sm _ hp) hc this
         · rw [if_neg b]
           by_cases d:par j=i+1
           · rw [if_pos d]
             have:=v.gr j h1 h2 d (by omega)
             rw [pe] at this;exact this
           · rw [if_neg d];exact v.el j h1 h2 a
     · rw [fX] at h2
       have hq:par (i / 2)<l.length:=by simp only [par];omega
       have ne1:par (i / 2)≠i / 2:=by simp only [par];omega
       have ne2:par (i / 2)≠i+1:=by simp only [par];omega
       rw [pC l hi hp,pC l hi hp,if_neg ne1,if_neg ne2,if_neg (by simp only [par] at h3;omega)]
       have gp:=v.el (i / 2) h4 hp (by omega)
       by_cases a:j=i+1
       · rw [if_pos a];exact gp
       · rw [if_neg a]
         have:=v.el j h1 h2 a
         rw [h3] at this;exact o.ntr (sm _ h2) (sm _ hp) (sm _ hq) this gp
   · rename_i hc
     have hc: ¬P l[i+1]! l[i / 2]!:=fun h=>hc ((hP _ _).1 h)
     intro j h1 h2
     by_cases a:j=i+1
     · subst a;rw [pe];exact hc
     · exact v.el j h1 h2 a
structure aLa (P:Int->Int->Prop) (l:List Int) (i:Nat):Prop where
 lt:i<l.length
 el: ∀j,0<j->j<l.length->par j≠i-> ¬P l[j]! l[par j]!
 gr: ∀j,0<j->j<l.length->par j=i->0<i-> ¬P l[j]! l[par i]!
theorem WR (o:SO P S) {f:List Pt} {t:Int×Int} (hP: ∀a b,P a b↔bI (bC f a) (bC f b) t) {l:List Int} (sm: ∀j,j<l.length->S l[j]!) {i:Nat} (hi:i<l.length):
 (cS f t l i=i\/P l[cS f t l i]! l[i]!)/\ ∀j,0<j->j<l.length->par j=i-> ¬P l[j]! l[cS f t l i]!:=by
 have hA:(jC f t l i=i\/P l[jC f t l i]! l[i]!)/\(2*i+1<l.length-> ¬P l[2*i+1]! l[jC f t l i]!)/\jC f t l i<l.length:=by
  unfold jC;split
  · rename_i h
    exact ⟨.inr ((hP _ _).2 h.2),fun _=>o.irr _ (sm _ h.1),h.1⟩
  · rename_i h
    exact ⟨.inl rfl,fun hl c=>h ⟨hl,(hP _ _).1 c⟩,hi⟩
 obtain ⟨a1,a2,a3⟩:=hA;have ch: ∀j,0<j->par j=i->j=2*i+1\/j=2*i+2:=fun j h1 h2=>by simp only [par] at h2;omega
 unfold cS;split
 · rename_i h
   have h2:=(hP _ _).2 h.2;refine ⟨.inr ?_,fun j h1 hl hp=>?_⟩
   · rcases a1 with e|e
     · rw [e] at h2;exact h2
     · exact o.tr _ _ _ (sm _ h.1) (sm _ a3) (sm _ hi) h2 e
   · rcases ch j h1 hp with rfl|rfl
     · exact o.ntr (sm _ hl) (sm _ a3) (sm _ h.1) (a2 hl) (o.asym (sm _ h.1) (sm _ a3) h2)
     · exact o.irr _ (sm _ hl)
 · rename_i h
   refine ⟨a1,fun j h1 hl hp=>?_⟩
   rcases ch j h1 hp with rfl|rfl
   · exact a2 hl
   · exact fun c=>h ⟨hl,(hP _ _).1 c⟩
theorem aBQ (o:SO P S) {f:List Pt} {t:Int×Int} (hP: ∀a b,P a b↔bI (bC f a) (bC f b) t): ∀(d:Nat) (l:List Int) (i:Nat),l.length-i<=d->(∀x∈l,S x)->aLa P l i->Hp P (wI f t l i):=by
 intro d
 induction d with
 |zero=>intro l i h _ v;have:=v.lt;omega
 |succ d ih=>
  intro l i h hS v;have sm: ∀j,j<l.length->S l[j]!:=fun j hj=>hS _ (aQ hj)
  have hi:=v.lt;obtain ⟨b1,b2⟩:=WR o hP sm hi
  by_cases e:cS f t l i=i
  · rw [qP e]
    intro j h1 h2
    by_cases c:par j=i
    · have:=b2 j h1 h2 c
      rw [e] at this;rw [c];exact this
    · exact v.el j h1 h2 c
  · rw [BA e]
    have kc:=oZ f t l i;have ki:cS f t l i=2*i+1\/cS f t l i=2*i+2:=by
     have:=kB f t l i
     unfold cS at e ⊢;split
     · exact .inr rfl
     · rename_i hh;rw [if_neg hh] at e;omega
    have hb:cS f t l i<l.length:=by omega
    have pb:par (cS f t l i)=i:=by simp only [par];omega
    have hbi:P l[cS f t l i]! l[i]!:=b1.resolve_left e;generalize cS f t l i=b at*;refine ih _ b (by rw [fX];omega) (fun x hx=>hS x ((mO hi hb).mem_iff.1 hx)) ⟨by rw [fX];exact hb,fun j h1 h2 h3=>?_,fun j h1 h2 h3 h4=>?_⟩
    · rw [fX] at h2
      rw [pC l hi hb,pC l hi hb,if_neg h3]
      by_cases a:j=b
      · subst a
        rw [if_pos rfl,pb,if_pos rfl];exact o.asym (sm _ hb) (sm _ hi) hbi
      · rw [if_neg a]
        by_cases c:j=i
        · subst c
          rw [if_pos rfl,if_neg (by simp only [par];omega)]
          exact v.gr b (by omega) hb pb h1
        · rw [if_neg c]
          by_cases g:par j=i
          · rw [if_pos g];exact b2 j h1 h2 g
          · rw [if_neg g];exact v.el j h1 h2 g
    · rw [fX] at h2
      have j1:j≠b:=by simp only [par] at h3;omega
      have j2:j≠i:=by simp only [par] at h3;omega
      rw [pC l hi hb,pC l hi hb,if_neg j1,if_neg j2,pb,if_neg (by omega),if_pos rfl]
      have:=v.el j h1 h2 (by omega)
      rw [h3] at this;exact this
theorem Q2 {f:List Pt} {t:Int×Int} {l:List Int} {i:Nat} (h:0<i-> ¬bI (bC f l[i]!) (bC f l[par i]!) t):pN f t i l=l/\vR f t i l=i:=by
 cases i with
 |zero=>unfold pN vR;exact ⟨rfl,rfl⟩
 |succ i=>
  have pe:par (i+1)=i / 2:=by simp only [par];omega
  have h:=h (by omega)
  rw [pe] at h;unfold pN vR;rw [if_neg h,if_neg h];exact ⟨rfl,rfl⟩
theorem Q3 (o:SO P S) {f:List Pt} {t:Int×Int} (hP: ∀a b,P a b↔bI (bC f a) (bC f b) t) {l:List Int} (sm: ∀j,j<l.length->S l[j]!) (h:Hp P l) {i:Nat} (hi:i<l.length):wI f t l i=l:=by
 refine qP ?_;rcases (WR o hP sm hi).1 with e|e
 · exact e
 · have kc:=oZ f t l i
   have kA:=kB f t l i;rcases Classical.em (cS f t l i=i) with q|q
   · exact q
   · have pk:par (cS f t l i)=i:=by
      simp only [par];unfold cS at q ⊢;split
      · omega
      · rename_i hh;rw [if_neg hh] at q;omega
     have:=h (cS f t l i) (by omega) (by omega)
     rw [pk] at this;exact absurd e this
theorem LE (o:SO P S) {f:List Pt} {t:Int×Int} (hP: ∀a b,P a b↔bI (bC f a) (bC f b) t) {l:List Int} (hS: ∀x∈l,S x) {a:Nat} (ha:a<l.length)
 (h1: ∀j,0<j->j<l.length->j≠a->par j≠a-> ¬P l[j]! l[par j]!) (h2: ∀j,0<j->j<l.length->par j=a->0<a-> ¬P l[j]! l[par a]!):
 Hp P (wI f t (pN f t a l) (vR f t a l)):=by
 have sm: ∀j,j<l.length->S l[j]!:=fun j hj=>hS _ (aQ hj)
 by_cases c:0<a/\P l[a]! l[par a]!
 · have rv:aAC P l a:=⟨ha,fun j j1 j2 j3=>by
    by_cases e:par j=a
    · rw [e]
      exact o.up (sm _ j2) (sm _ ha) (sm _ (by simp only [par];omega)) c.2 (h2 j j1 j2 e c.1)
    · exact h1 j j1 j2 j3 e,h2⟩
   have hh:=aBP o hP a l hS rv;have pm:=G7 f t a l ha;have ri:=(O4 f t a l ha).1;rw [Q3 o hP (fun j hj=>hS _ (pm.mem_iff.1 (aQ hj))) hh (by rw [pm.length_eq];exact ri)]
   exact hh
 · have c':0<a-> ¬bI (bC f l[a]!) (bC f l[par a]!) t:=fun h0 h=>c ⟨h0,(hP _ _).2 h⟩
   obtain ⟨e1,e2⟩:=Q2 c';rw [e1,e2];refine aBQ o hP _ l a (Nat.le_refl _) hS ⟨ha,fun j j1 j2 j3=>?_,h2⟩
   by_cases e:j=a
   · subst e;exact fun h=>c ⟨j1,h⟩
   · exact h1 j j1 j2 e j3
end
theorem aD6 {f:List Pt} (fok:cC f) (k:Nat):cC (f.eraseIdx k):=by
 refine ⟨Nat.le_trans (List.length_eraseIdx_le f k) fok.1,fun p hp=>fok.2.1 p (List.mem_of_mem_eraseIdx hp),?_⟩
 have h:=fok.2.2;intro i hi;have hl:=List.length_eraseIdx_le f k
 by_cases hk:k<f.length
 · have:=L9 hk
   rw [CK,CK];split<;>split<;>exact iS h (by omega) (by omega)
 · rw [List.eraseIdx_of_length_le (by omega)] at hi ⊢
   exact h i hi
theorem ED {f:List Pt} (fok:cC f) {k:Nat} (hk:k<f.length):jJ ⟨f⟩ (f[k]!).1=some ((k:Int),0):=by
 have h1:=fok.1;have hc:dL ⟨f⟩=some 0:=by rw [gA];exact congrArg some (eV.2 fok)
 have bs:=CJ f (f[k]!).1 (by omega) (fun i j=>iS fok.2.2)
 unfold jJ qN;rw [L8];simp only [hc,aD,show ((0:Int) !=0)=false from rfl,cond_false,bs.1 k hk rfl,Bool.not_true]
theorem F6 {f:List Pt} (fok:cC f) {id:Int} (h: ¬lC f id):jJ ⟨f⟩ id=some (0,6):=by
 have h1:=fok.1;have hc:dL ⟨f⟩=some 0:=by rw [gA];exact congrArg some (eV.2 fok)
 have bs:=CJ f id (by omega) (fun i j=>iS fok.2.2)
 obtain ⟨m,_,_,_,e⟩:=bs.2 (fun k hk he=>h ⟨k,hk,he⟩)
 unfold jJ qN;rw [L8];simp only [hc,aD,show ((0:Int) !=0)=false from rfl,cond_false,e,Bool.not_false,cond_true]
theorem TD:lG=dG:=rfl
theorem Y2 {f:List Pt} (fok:cC f) {k:Nat} (hk:k<f.length):lH ⟨f⟩ (f[k]!).1=some (⟨f.eraseIdx k⟩,0)/\CA ⟨f⟩ (f[k]!).1=some (⟨f.eraseIdx k⟩,0):=by
 have f1:=fok.1;constructor
 · obtain ⟨L,d1,d2⟩:=D8 f k hk
   unfold lH;rw [ED fok hk,aD,cL rfl,cond_false,bE (show f.length<=1048576 by omega),aD,bF (show k<1000000000 by omega),TD,d1,aD]
   show some (Field.mk (L.take (f.length-1)),(0:Int))=_;rw [d2]
 · have hc:jL ⟨f⟩=some 0:=by rw [oV];exact congrArg some (eV.2 fok)
   unfold CA;rw [hc,aD,cL rfl,cond_false,A4 fok.2.2 (by omega) hk rfl,aD,aL (by omega),cond_false]
   unfold FY;generalize hn:(f[k]!).1=n;have key:=eU (body:=jP) (fun i=>(n,(i:Int),f,(f.take i).filter (fun x=>x.1 !=n))) f.length (fun i hi=>by
    have nx:(f.take (i+1)).filter (fun x=>x.1 !=n)=(f.take i).filter (fun x=>x.1 !=n)++(if (f[i]!).1 !=n then [f[i]!] else []):=by
     rw [iI hi,List.filter_append,List.filter_cons,List.filter_nil]
    have fl:((f.take i).filter (fun x=>x.1 !=n)).length<=200:=Nat.le_trans (List.length_filter_le _ _) (by rw [List.length_take];omega)
    unfold jP;simp only [aF,aP (show (i:Int)<(f.length:Int) by omega),cond_true,aB f i hi,aD,bF (show i<1000000000 by omega),nx]
    by_cases h:(f[i]!).1=n
    · rw [cL h];simp
    · rw [fI h]
      simp only [cond_true,if_true,gG (show ((f.take i).filter (fun x=>x.1 !=n)).length+[f[i]!].length<=1048576 by simp only [List.length_cons,List.length_nil];omega),aD])
   have fin:aI jP (n,(f.length:Int),f,(f.take f.length).filter (fun x=>x.1 !=n))=some ⟨f.eraseIdx k⟩:=aJ (by
    unfold jP;simp only [aF,aL (show¬(f.length:Int)<(f.length:Int) by omega),cond_false,List.take_length]
    rw [I0 hk (fun i j=>iS fok.2.2) hn])
   rw [show aI jP (n,0,f,[])=_ from key,fin,aD]
theorem TE {f:List Pt} (fok:cC f) {id:Int} (h: ¬lC f id):lH ⟨f⟩ id=some (⟨[]⟩,6)/\CA ⟨f⟩ id=some (⟨[]⟩,6):=by
 constructor
 · unfold lH
   rw [F6 fok h];rfl
 · have hc:jL ⟨f⟩=some 0:=by rw [oV];exact congrArg some (eV.2 fok)
   unfold CA;rw [hc,aD,cL rfl,cond_false,KG fok h];rfl
theorem aD7 {f:List Pt} (fok:cC f) {p:Pt} (po:gY p) {k:Nat} (hk:k<f.length) (he:(f[k]!).1=p.1):cC (f.set k p):=by
 refine ⟨by rw [List.length_set];exact fok.1,fun q hq=>?_,fun i hi=>?_⟩
 · rcases List.mem_or_eq_of_mem_set hq with h|rfl
   · exact fok.2.1 q h
   · exact po
 · rw [List.length_set] at hi
   have h:=iS fok.2.2 (show i<i+1 by omega) hi
   have g: ∀j:Nat,((f.set k p)[j]!).1=(f[j]!).1:=fun j=>by
    simp only [List.getElem!_eq_getElem?_getD,List.getElem?_set]
    by_cases c:k=j
    · subst c
      rw [if_pos rfl,if_pos hk];simp only [List.getElem!_eq_getElem?_getD] at he;exact he.symm
    · rw [if_neg c]
   rw [g,g];exact h
theorem I7 {f:List Pt} (fok:cC f) (p:Pt):
 (∃e:Int,e≠0/\eX ⟨f⟩ p=some (⟨[]⟩,e)/\gV ⟨f⟩ p=some (⟨[]⟩,e))\/
 (∃k,k<f.length/\(f[k]!).1=p.1/\gY p/\eX ⟨f⟩ p=some (⟨f.set k p⟩,0)/\gV ⟨f⟩ p=some (⟨f.set k p⟩,0)):=by
 have f1:=fok.1;have hc:dL ⟨f⟩=some 0:=by rw [gA];exact congrArg some (eV.2 fok)
 have hc2:jL ⟨f⟩=some 0:=by rw [oV];exact congrArg some (eV.2 fok)
 by_cases po:gY p
 case neg=>
  refine .inl ⟨8,by decide,?_,?_⟩
  · unfold eX;rw [hc,aD,cL rfl,cond_false,kM,if_neg po];rfl
  · unfold gV;rw [hc2,aD,cL rfl,cond_false,mL,if_neg po];rfl
 by_cases hp:lC f p.1
 case neg=>
  refine .inl ⟨6,by decide,?_,?_⟩
  · unfold eX;rw [hc,aD,cL rfl,cond_false,kM,if_pos po,aD,cL rfl,cond_false,F6 fok hp];rfl
  · unfold gV;rw [hc2,aD,cL rfl,cond_false,mL,if_pos po,aD,cL rfl,cond_false,KG fok hp];rfl
 obtain ⟨k,hk,he⟩:=hp;have pl:=ED fok hk;rw [he] at pl;refine .inr ⟨k,hk,he,po,?_,?_⟩
 · unfold eX
   rw [hc,aD,cL rfl,cond_false,kM,if_pos po,aD,cL rfl,cond_false,pl,aD,cL rfl,cond_false,bE (show f.length<=1048576 by omega),aD,aB f k hk,aD,eO]
 · unfold gV lE
   rw [hc2,aD,cL rfl,cond_false,mL,if_pos po,aD,cL rfl,cond_false,A4 fok.2.2 (by omega) hk he,aD,aL (by omega),cond_false,bE (show f.length<=1048576 by omega),aD,aD,aB f k hk,aD,eO]
noncomputable def pK (f:List Pt) (es:List (Int×Int)):Int:=if¬(∀x∈es,gK x) then 8 else if¬es.Nodup then 14 else if¬(∀x∈es,lM f x) then 6 else 0
def rP (c:aR) (f:List Pt) (es:List (Int×Int)) (i:Nat):=
 (es,es,(es.length:Int),(i:Int),c.now.1,c.now.2,c.field.points,c.certs.next_,c.certs.list,c.agenda.slots.uses,c.agenda.slots.used,c.agenda.slots.free,c.agenda.heap,c.agenda.where_,c.due,f,(0:Int),(0:Int),(0:Int))
theorem O6 {c:aR} (ok:bM c) {f:List Pt} (fok:cC f) {es:List (Int×Int)} (hl:es.length<=1000) {r:aR×Int} (hr:pK f es=0->oT c ⟨f⟩ es=some r):
 vK c ⟨f⟩ es=some (if pK f es=0 then r else (gE,pK f es)):=by
 have bd:=ok.bd;have ab:=ok.agd.bd;have sl:=ok.agd.so.fl;have sn:=ok.agd.so.n2;have su:=ok.agd.so.ul;have el:decide ((es.length:Int)<(es.length:Int))=false:=aL (by omega)
 have hc:iG c=some 0:=by rw [oY ok.fit,if_pos ok]
 have hf:dL ⟨f⟩=some 0:=by rw [gA];exact congrArg some (eV.2 fok)
 have tw:xU (aR.mk (c.now.1,c.now.2) (Field.mk c.field.points) (bK.mk c.certs.next_ c.certs.list) (aO.mk (aY.mk c.agenda.slots.uses c.agenda.slots.used c.agenda.slots.free) c.agenda.heap c.agenda.where_) c.due)=some c:=by
  unfold xU;simp only [bE (show c.field.points.length<=1048576 by omega),bE (show c.certs.list.length<=1048576 by omega),bE (show c.due.length<=1048576 by omega),bE (show c.agenda.heap.length<=1048576 by omega),bE (show c.agenda.where_.length<=1048576 by omega),
   bE (show c.agenda.slots.uses.length<=1048576 by omega),bE (show c.agenda.slots.used.length<=1048576 by omega),bE (show c.agenda.slots.free.length<=1048576 by omega),aD]
 have k3: ∀e2:aR×Int,aI fE (rP c f es 0)=some (.done e2)->aI fF (rP c f es 0)=some (if∀i,i<es.length->gK es[i]! then e2 else (gE,8)):=by
  intro e2 h2;refine G6 (body:=fF) (fun i=>rP c f es i) es.length (fun i=>gK es[i]!) (r:=(gE,8)) (e:=e2) (fun i hi=>?_) ?_
  · have e1:decide ((i:Int)<(es.length:Int))=true:=aP (by omega)
    unfold fF rP gK;simp only [e1,cond_true,aB es i hi,aD,bF (show i<1000000000 by omega)]
    generalize es[i]! =x
    by_cases a1:x.1<0
    · rw [aP a1];exact ⟨fun _=>rfl,fun h=>by omega⟩
    rw [aL a1]
    by_cases a2:x.2<0
    · rw [aP a2];exact ⟨fun _=>rfl,fun h=>by omega⟩
    rw [aL a2]
    by_cases a3:65535<x.1
    · rw [aP a3];exact ⟨fun _=>rfl,fun h=>by omega⟩
    rw [aL a3]
    by_cases a4:65535<x.2
    · rw [aP a4];exact ⟨fun _=>rfl,fun h=>by omega⟩
    rw [aL a4]
    by_cases a5:x.1=x.2
    · rw [eZ a5];exact ⟨fun _=>rfl,fun h=>absurd a5 h.2.2.2.2⟩
    · rw [eM a5];exact ⟨fun h=>absurd ⟨by omega,by omega,by omega,by omega,a5⟩ h,fun _=>rfl⟩
  · unfold fF rP
    simp only [aF,el,cond_false];exact h2
 have k2: ∀e1:aR×Int,aI fZ (rP c f es 0)=some (.done (.done e1))->aI fE (rP c f es 0)=some (.done (if∀i,i<es.length->es[i]!∉es.take i then e1 else (gE,14))):=by
  intro e0 h2
  have:=G6 (body:=fE) (fun i=>rP c f es i) es.length (fun i=>es[i]!∉es.take i) (r:= .done (gE,14)) (e:= .done e0) (fun i hi=>by
   have e1:decide ((i:Int)<(es.length:Int))=true:=aP (by omega)
   unfold fE rP;simp only [e1,cond_true,aB es i hi,oC es i (by omega),aD,oE _ _ (show (es.take i).length<=1000000 by rw [List.length_take];omega),bF (show i<1000000000 by omega)]
   by_cases h:es[i]!∈es.take i
   · rw [aP h];exact ⟨fun _=>rfl,fun k=>absurd h k⟩
   · rw [aL h];exact ⟨fun k=>absurd h k,fun _=>rfl⟩) (by
   unfold fE rP;simp only [aF,el,cond_false];exact h2)
  refine this.trans ?_
  by_cases hb: ∀i,i<es.length->es[i]!∉es.take i
  · rw [if_pos hb,if_pos hb]
  · rw [if_neg hb,if_neg hb]
 have step1: ∀i,i<es.length->(¬lM f es[i]!->fZ (rP c f es i)=some (.done (.done (.done (gE,6)))))/\(lM f es[i]!->fZ (rP c f es i)=some (.next (rP c f es (i+1)))):=by
  intro i hi;have e1:decide ((i:Int)<(es.length:Int))=true:=aP (by omega)
  obtain ⟨p,e,a1,a2⟩:=F5 fok (es[i]!).1;obtain ⟨q,g,b1,b2⟩:=F5 fok (es[i]!).2;unfold fZ rP lM;simp only [e1,cond_true,aB es i hi,aD,a1,b1,bF (show i<1000000000 by omega)]
  by_cases h1:lC f (es[i]!).1
  · rw [cL (a2.2 h1)]
    by_cases h2:lC f (es[i]!).2
    · rw [cL (b2.2 h2)]
      exact ⟨fun h=>absurd ⟨h1,h2⟩ h,fun _=>rfl⟩
    · rw [fI (fun h=>h2 (b2.1 h))]
      exact ⟨fun _=>rfl,fun h=>absurd h.2 h2⟩
  · rw [fI (fun h=>h1 (a2.1 h))]
    exact ⟨fun _=>rfl,fun h=>absurd h.1 h1⟩
 have start:vK c ⟨f⟩ es=aI fF (rP c f es 0):=by
  unfold vK;simp only [hc,aD,show ((0:Int) !=0)=false from rfl,cond_false,hf];rfl
 rw [start]
 by_cases h1: ∀x∈es,gK x
 case neg=>
  have er:pK f es=8:=by unfold pK;rw [if_pos h1]
  rw [er,if_neg (by omega)]
  have:=dP (body:=fF) (fun i=>rP c f es i) es.length (fun i=> ¬gK es[i]!) (r:=(gE,8)) (e:=r)
  have k3':=k3;rw [I6 (P:=gK)] at h1;obtain ⟨i,h⟩:=Classical.not_forall.1 h1;obtain ⟨hi,hx⟩:=Classical.not_imp.1 h;obtain ⟨m,m1,m2,m3⟩:=D0 (c:=fun i=> ¬gK es[i]!) ⟨i,hi,hx⟩
  have go: ∀j,j<es.length->(¬gK es[j]!->fF (rP c f es j)=some (.done (gE,8)))/\(gK es[j]!->fF (rP c f es j)=some (.next (rP c f es (j+1)))):=by
   intro j hj;have e1:decide ((j:Int)<(es.length:Int))=true:=aP (by omega)
   unfold fF rP gK;simp only [e1,cond_true,aB es j hj,aD,bF (show j<1000000000 by omega)]
   generalize es[j]! =x
   by_cases a1:x.1<0
   · rw [aP a1];exact ⟨fun _=>rfl,fun h=>by omega⟩
   rw [aL a1]
   by_cases a2:x.2<0
   · rw [aP a2];exact ⟨fun _=>rfl,fun h=>by omega⟩
   rw [aL a2]
   by_cases a3:65535<x.1
   · rw [aP a3];exact ⟨fun _=>rfl,fun h=>by omega⟩
   rw [aL a3]
   by_cases a4:65535<x.2
   · rw [aP a4];exact ⟨fun _=>rfl,fun h=>by omega⟩
   rw [aL a4]
   by_cases a5:x.1=x.2
   · rw [eZ a5];exact ⟨fun _=>rfl,fun h=>absurd a5 h.2.2.2.2⟩
   · rw [eM a5];exact ⟨fun h=>absurd ⟨by omega,by omega,by omega,by omega,a5⟩ h,fun _=>rfl⟩
  rw [eU (body:=fF) (fun i=>rP c f es i) m fun j hj=>(go j (by omega)).2 (Classical.not_not.1 (m3 j hj))]
  exact aJ ((go m m1).1 m2)
 have h1':=(I6 (P:=gK)).1 h1
 by_cases h2:es.Nodup
 case neg=>
  have er:pK f es=14:=by unfold pK;rw [if_neg (Classical.not_not.2 h1),if_pos h2]
  rw [er,if_neg (by omega)]
  have h2':=h2;rw [O1] at h2';obtain ⟨i,h⟩:=Classical.not_forall.1 h2';obtain ⟨hi,hx⟩:=Classical.not_imp.1 h;obtain ⟨m,m1,m2,m3⟩:=D0 (c:=fun i=> ¬es[i]!∉es.take i) ⟨i,hi,hx⟩
  have go: ∀j,j<es.length->(es[j]!∈es.take j->fE (rP c f es j)=some (.done (.done (gE,14))))/\(es[j]!∉es.take j->fE (rP c f es j)=some (.next (rP c f es (j+1)))):=by
   intro j hj;have e1:decide ((j:Int)<(es.length:Int))=true:=aP (by omega)
   unfold fE rP;simp only [e1,cond_true,aB es j hj,oC es j (by omega),aD,oE _ _ (show (es.take j).length<=1000000 by rw [List.length_take];omega),bF (show j<1000000000 by omega)]
   by_cases h:es[j]!∈es.take j
   · rw [aP h];exact ⟨fun _=>rfl,fun k=>absurd h k⟩
   · rw [aL h];exact ⟨fun k=>absurd k h,fun _=>rfl⟩
  have l2:aI fE (rP c f es 0)=some (.done (gE,14)):=by
   rw [eU (body:=fE) (fun i=>rP c f es i) m fun j hj=>(go j (by omega)).2 (Classical.not_not.1 (m3 j hj))]
   exact aJ ((go m m1).1 (Classical.not_not.1 m2))
  rw [k3 _ l2,if_pos h1']
 have h2':=O1.1 h2
 by_cases h3: ∀x∈es,lM f x
 case neg=>
  have er:pK f es=6:=by unfold pK;rw [if_neg (Classical.not_not.2 h1),if_neg (Classical.not_not.2 h2),if_pos h3]
  rw [er,if_neg (by omega)]
  have h3':=h3;rw [I6 (P:=lM f)] at h3';obtain ⟨i,h⟩:=Classical.not_forall.1 h3';obtain ⟨hi,hx⟩:=Classical.not_imp.1 h;obtain ⟨m,m1,m2,m3⟩:=D0 (c:=fun i=> ¬lM f es[i]!) ⟨i,hi,hx⟩
  have l1:aI fZ (rP c f es 0)=some (.done (.done (gE,6))):=by
   rw [eU (body:=fZ) (fun i=>rP c f es i) m fun j hj=>(step1 j (by omega)).2 (Classical.not_not.1 (m3 j hj))]
   exact aJ ((step1 m m1).1 m2)
  rw [k3 _ (k2 _ l1),if_pos h1',if_pos h2']
 have h3':=(I6 (P:=lM f)).1 h3;have er:pK f es=0:=by unfold pK;rw [if_neg (Classical.not_not.2 h1),if_neg (Classical.not_not.2 h2),if_neg (Classical.not_not.2 h3)]
 rw [er,if_pos rfl];have l1:aI fZ (rP c f es 0)=some (.done (.done r)):=by
  rw [eU (body:=fZ) (fun i=>rP c f es i) es.length fun j hj=>(step1 j hj).2 (h3' j hj)]
  refine aJ ?_;unfold fZ rP;simp only [el,cond_false,tw,aD,hr er]
 rw [k3 _ (k2 _ l1),if_pos h1',if_pos h2']
theorem KI {l:List Int} {x:Int} (hl:l.length<=1000000) (hx:x∈l): ∃k,k<l.length/\l[k]! =x/\hZ l x=some (k:Int)/\mV l x=some (k:Int):=by
 obtain ⟨k,k1,k2,k3⟩:=D0 (c:=fun k=>l[k]! =x) (aW.1 hx)
 have p:=mX (body:=rY) (fun i=>(l,x,(i:Int))) l.length (fun i=>l[i]! =x) (fun i=>(i:Int)) (e:= -1) (fun i hi=>by
  unfold rY;simp only [aF,aP (show (i:Int)<(l.length:Int) by omega),cond_true,aB l i hi,aD,bF (show i<1000000000 by omega)]
  refine ⟨fun h=>?_,fun h=>?_⟩
  · rw [eZ h];rfl
  · rw [eM h];rfl) (by
  unfold rY;simp only [aF,aL (show¬(l.length:Int)<(l.length:Int) by omega),cond_false])
 exact ⟨k,k1,k2,(O2 l x hl).1 k k1 k2 k3,p.1 k k1 k2 k3⟩
theorem EE (l:List Int) (hl:l.length<=1000):yX l=some (dQ l):=by
 have n:aA .i64 ((l.length:Int) - (if (l.length:Int)<1 then (l.length:Int) else 1))=((l.length-1:Nat):Int):=by
  split
  · rw [fT ⟨by omega,by omega⟩];omega
  · rw [fT ⟨by omega,by omega⟩];omega
 have key:=eU (body:=oR) (fun i=>(l,((l.length-1:Nat):Int),(i:Int),wE l i)) (l.length-1) (fun i hi=>by
  have e:aA .i64 (Int.tdiv (i:Int) 2)=((i / 2:Nat):Int):=by
   rw [Int.tdiv_eq_ediv_of_nonneg (by omega),fT ⟨by omega,by omega⟩];omega
  unfold oR;simp only [aP (show (i:Int)<((l.length-1:Nat):Int) by omega),cond_true,bF (show i<1000000000 by omega),aB l (i+1) (by omega),e,aB l (i / 2) (by omega),aD]
  rw [gG (by rw [lO,List.length_singleton];omega),aD,<- LC])
 unfold yX;simp only [aF,n];rw [show aI oR (l,((l.length-1:Nat):Int),0,[])=_ from key];refine aJ ?_;unfold oR;simp only [aL (show¬((l.length-1:Nat):Int)<((l.length-1:Nat):Int) by omega),cond_false]
theorem KJ {f:List Pt} (fok:cC f) {t:Int×Int} (r:cM t) (r64:sS t) {a b:Int} (ha:lC f a) (hb:lC f b) (hne:a≠b):eL (bC f a) (bC f b) t=some (decide (bI (bC f a) (bC f b) t),0):=by
 obtain ⟨p1,p2⟩:=iC fok ha;obtain ⟨q1,q2⟩:=iC fok hb;have ne:(bC f a).1≠(bC f b).1:=by rw [p2,q2];exact hne
 rcases wD p1 q1 r64 r with h|⟨h,_⟩
 · rw [h,if_neg ne]
 · exact absurd h ne
def tS (k:bW) (f:List Pt) (m n0 i:Nat) (L:List Int):=
 ((i:Int),k.clock.now.1,k.clock.now.2,k.clock.field.points,k.clock.certs.next_,k.clock.certs.list,k.clock.agenda.slots.uses,k.clock.agenda.slots.used,k.clock.agenda.slots.free,k.clock.agenda.heap,k.clock.agenda.where_,k.clock.due,k.heap,(0:Int),(0:Int),(0:Int),f,L,f,k.clock.now.1,k.clock.now.2,m,n0)
def tJ (k:bW) (f:List Pt) (m n0 i:Nat) (L:List Int) (p q:Pt):=
 ((i:Int),k.clock.now.1,k.clock.now.2,k.clock.field.points,k.clock.certs.next_,k.clock.certs.list,k.clock.agenda.slots.uses,k.clock.agenda.slots.used,k.clock.agenda.slots.free,k.clock.agenda.heap,k.clock.agenda.where_,k.clock.due,k.heap,(0:Int),(0:Int),(0:Int),f,L,f,k.clock.now.1,k.clock.now.2,m,n0,p.1,p.2.1,p.2.2,q)
structure qQ (k:bW) (f:List Pt):Prop where
 clk:bM k.clock
 fok:cC f
structure mP (f:List Pt) (m:Nat) (l:List Int):Prop where
 len:l.length=m
 small:m<=100
 hp: ∀x∈l,lC f x
 nd:l.Nodup
theorem tk {l:List Int} {m:Nat} {x:Int} (h:l.length=m):(l++[x]).take m=l:=by rw [<- h,List.take_left]
section
variable {k : bW} {f : List Pt} {m n0 : Nat} {x : Int}
theorem aAD (ok:qQ k f) {c0:_} {c1:List Int} {l:List Int} (hl:mP f m l) {i b j:Nat} (hi:i<m) (hb:b<m) (hj:j<m) (h2:j<=2*i+2) (hne:j≠b):
 lJ c0 c1 ((i:Int),(b:Int),(j:Int),(tS k f m n0 i (l++[x])).2)=some (.next ((i:Int),((if bI (bC f l[j]!) (bC f l[b]!) k.clock.now then j else b:Nat):Int),((j+1:Nat):Int),(tS k f m n0 i (l++[x])).2)):=by
 have hm:=hl.len;have m1:=hl.small;have e:aA .i64 (aA .i64 (2*(i:Int))+2)=((2*i+2:Nat):Int):=by
  rw [show aA .i64 (2*(i:Int))=2*(i:Int) from fT ⟨by omega,by omega⟩,fT ⟨by omega,by omega⟩];omega
 have pj:=hl.hp _ (aQ (show j<l.length by omega))
 have pb:=hl.hp _ (aQ (show b<l.length by omega))
 have ne:l[j]!≠l[b]!:=fun h=>by
  rcases Nat.lt_trichotomy j b with q|q|q
  · exact bR.1 hl.nd _ _ q (by omega) h
  · exact hne q
  · exact bR.1 hl.nd _ _ q (by omega) h.symm
 have a:=KJ ok.fok (t:=(k.clock.now.1,k.clock.now.2)) ok.clk.nowv ok.clk.now64 pj pb ne;unfold lJ tS;simp only [aF,e,aP (show (j:Int)<=((2*i+2:Nat):Int) by omega),aP (show (j:Int)<(m:Int) by omega),cond_true,tk hm,aB l j (by omega),aB l b (by omega),aD,cO ok.fok pj,cO ok.fok pb,a,beq_self_eq_true,bF (show j<1000000000 by omega)]
 by_cases c:bI (bC f l[j]!) (bC f l[b]!) k.clock.now
 · rw [show decide (bI (bC f l[j]!) (bC f l[b]!) (k.clock.now.1,k.clock.now.2))=true from aP c,if_pos c];rfl
 · rw [show decide (bI (bC f l[j]!) (bC f l[b]!) (k.clock.now.1,k.clock.now.2))=false from aL c,if_neg c];rfl
theorem aRo {c1:List Int} (hc:c1.length=m+1) {L0:List Int} (h0:L0.length=m+1) {n1 i0:Nat} {l:List Int} (hl:mP f m l) {i b j:Nat} (hi:i<m) (hb:b<m) (he: ¬(j<=2*i+2/\j<m)):
 lJ (tS k f m n1 i0 L0) c1 ((i:Int),(b:Int),(j:Int),(tS k f m n0 i (l++[x])).2)=if b=i then (bH k.clock ⟨f⟩ l).bind fun a=>some (.done (.done (.done a))) else some (.done (.next (tS k f m n0 b (iB l i b++[x])))):=by
 have hm:=hl.len;have m1:=hl.small;have e:aA .i64 (aA .i64 (2*(i:Int))+2)=((2*i+2:Nat):Int):=by
  rw [show aA .i64 (2*(i:Int))=2*(i:Int) from fT ⟨by omega,by omega⟩,fT ⟨by omega,by omega⟩];omega
 have ec:(aA .i64 ((c1.length:Int) -1)).toNat=m:=by rw [fT ⟨by omega,by omega⟩];omega
 have lx:(l++[x]).length=L0.length:=by rw [List.length_append,List.length_singleton];omega
 have sa:(l++[x]).set i l[b]! =l.set i l[b]!++[x]:=List.set_append_left _ _ (by omega)
 have sb:(l.set i l[b]!++[x]).set b l[i]! =iB l i b++[x]:=List.set_append_left _ _ (by rw [List.length_set];omega)
 have t1:(l.set i l[b]!++[x]).take m=l.set i l[b]!:=tk (by rw [List.length_set];exact hm)
 have g1:=aB (l.set i l[b]!) b (by rw [List.length_set];omega)
 have ceta:(aR.mk (k.clock.now.1,k.clock.now.2) (Field.mk k.clock.field.points) (bK.mk k.clock.certs.next_ k.clock.certs.list) (aO.mk (aY.mk k.clock.agenda.slots.uses k.clock.agenda.slots.used k.clock.agenda.slots.free) k.clock.agenda.heap k.clock.agenda.where_) k.clock.due)=k.clock:=rfl;unfold lJ tS
 by_cases h1:j<=2*i+2
 · have h2: ¬j<m:=fun h=>he ⟨h1,h⟩
   simp only [aF,e,aP (show (j:Int)<=((2*i+2:Nat):Int) by omega),aL (show¬(j:Int)<(m:Int) by omega),cond_true,cond_false,tk hm,aB l i (by omega),aB l b (by omega),aD,eO,sa,sb,t1,g1,lx,beq_self_eq_true,ec,ceta]
   by_cases hbi:b=i
   · rw [if_pos hbi,eZ (by omega),cond_true]
   · rw [if_neg hbi,eM (by omega),cond_false]
 · simp only [aF,e,aL (show¬(j:Int)<=((2*i+2:Nat):Int) by omega),cond_true,cond_false,tk hm,aB l i (by omega),aB l b (by omega),aD,eO,sa,sb,t1,g1,lx,beq_self_eq_true,ec,ceta]
   by_cases hbi:b=i
   · rw [if_pos hbi,eZ (by omega),cond_true]
   · rw [if_neg hbi,eM (by omega),cond_false]
theorem aT5 (ok:qQ k f) {c1:List Int} (hc:c1.length=m+1) {L0:List Int} (h0:L0.length=m+1) {n1 i0:Nat} {l:List Int} (hl:mP f m l) {i:Nat} (hi:i<m) {R:List Int->bW×Int} (hR:bH k.clock ⟨f⟩ l=some (R l)):
 aI (lJ (tS k f m n1 i0 L0) c1) ((i:Int),(i:Int),((2*i+1:Nat):Int),(tS k f m n0 i (l++[x])).2)=some (if cS f k.clock.now l i=i then .done (.done (R l)) else .next (tS k f m n0 (cS f k.clock.now l i) (iB l i (cS f k.clock.now l i)++[x]))):=by
 have hm:=hl.len;have fin: ∀b j:Nat,b<m-> ¬(j<=2*i+2/\j<m)->cS f k.clock.now l i=b->aI (lJ (tS k f m n1 i0 L0) c1) ((i:Int),(b:Int),(j:Int),(tS k f m n0 i (l++[x])).2)=some (if cS f k.clock.now l i=i then .done (.done (R l)) else .next (tS k f m n0 (cS f k.clock.now l i) (iB l i (cS f k.clock.now l i)++[x]))):=by
  intro b j hb he hk;rw [hk]
  have:=aRo (k:=k) (n0:=n0) (x:=x) hc h0 (n1:=n1) (i0:=i0) hl hi hb he
  by_cases hbi:b=i
  · rw [if_pos hbi,hR,aD] at this
    rw [if_pos hbi];exact aJ this
  · rw [if_neg hbi] at this
    rw [if_neg hbi];exact aJ this
 have kA:jC f k.clock.now l i<m:=by rcases kB f k.clock.now l i with h|⟨h,h2⟩<;>omega
 by_cases h1:2*i+1<m
 case neg=>
  have e1:jC f k.clock.now l i=i:=by unfold jC;rw [if_neg (fun h=>h1 (by omega))]
  have e2:cS f k.clock.now l i=i:=by unfold cS;rw [if_neg (fun h=>h1 (by omega)),e1]
  exact fin i (2*i+1) hi (fun h=>h1 h.2) e2
 rw [aU (aAD ok hl hi hi h1 (by omega) (by omega))]
 have eA:(if bI (bC f l[2*i+1]!) (bC f l[i]!) k.clock.now then 2*i+1 else i)=jC f k.clock.now l i:=by
  unfold jC
  by_cases c:bI (bC f l[2*i+1]!) (bC f l[i]!) k.clock.now
  · rw [if_pos c,if_pos ⟨by omega,c⟩]
  · rw [if_neg c,if_neg (fun h=>c h.2)]
 rw [eA]
 by_cases h2:2*i+1+1<m
 case neg=>
  have e2:cS f k.clock.now l i=jC f k.clock.now l i:=by unfold cS;rw [if_neg (fun h=>h2 (by omega))]
  exact fin _ (2*i+1+1) kA (fun h=>h2 h.2) e2
 have nk:2*i+1+1≠jC f k.clock.now l i:=by rcases kB f k.clock.now l i with h|⟨h,_⟩<;>omega
 rw [aU (aAD ok hl hi kA h2 (by omega) nk)]
 have eG:(if bI (bC f l[2*i+1+1]!) (bC f l[jC f k.clock.now l i]!) k.clock.now then 2*i+1+1 else jC f k.clock.now l i)=cS f k.clock.now l i:=by
  unfold cS
  by_cases c:bI (bC f l[2*i+1+1]!) (bC f l[jC f k.clock.now l i]!) k.clock.now
  · rw [if_pos c,if_pos ⟨by omega,c⟩]
  · rw [if_neg c,if_neg (fun h=>c h.2)]
 rw [eG];exact fin _ (2*i+1+1+1) (by rw [<- eG];split<;>omega) (fun h=>by omega) rfl
theorem aAE (ok:qQ k f) {c0:_} {c1:List Int} {l:List Int} (hl:mP f m l) {i b j:Nat} (hi:i<m) (hb:b<m) (hj:j<m) (h2:j<=2*i+2) (hne:j≠b) {p q:Pt}:
 lI c0 c1 ((i:Int),(b:Int),(j:Int),(tJ k f m n0 i (l++[x]) p q).2)=some (.next ((i:Int),((if bI (bC f l[j]!) (bC f l[b]!) k.clock.now then j else b:Nat):Int),((j+1:Nat):Int),(tJ k f m n0 i (l++[x]) p q).2)):=by
 have hm:=hl.len;have m1:=hl.small;have e:aA .i64 (aA .i64 (2*(i:Int))+2)=((2*i+2:Nat):Int):=by
  rw [show aA .i64 (2*(i:Int))=2*(i:Int) from fT ⟨by omega,by omega⟩,fT ⟨by omega,by omega⟩];omega
 have pj:=hl.hp _ (aQ (show j<l.length by omega))
 have pb:=hl.hp _ (aQ (show b<l.length by omega))
 have ne:l[j]!≠l[b]!:=fun h=>by
  rcases Nat.lt_trichotomy j b with q|q|q
  · exact bR.1 hl.nd _ _ q (by omega) h
  · exact hne q
  · exact bR.1 hl.nd _ _ q (by omega) h.symm
 have a:=KJ ok.fok (t:=(k.clock.now.1,k.clock.now.2)) ok.clk.nowv ok.clk.now64 pj pb ne;unfold lI tJ;simp only [aF,e,aP (show (j:Int)<=((2*i+2:Nat):Int) by omega),aP (show (j:Int)<(m:Int) by omega),cond_true,tk hm,aB l j (by omega),aB l b (by omega),aD,cO ok.fok pj,cO ok.fok pb,a,beq_self_eq_true,bF (show j<1000000000 by omega)]
 by_cases c:bI (bC f l[j]!) (bC f l[b]!) k.clock.now
 · rw [show decide (bI (bC f l[j]!) (bC f l[b]!) (k.clock.now.1,k.clock.now.2))=true from aP c,if_pos c];rfl
 · rw [show decide (bI (bC f l[j]!) (bC f l[b]!) (k.clock.now.1,k.clock.now.2))=false from aL c,if_neg c];rfl
theorem aRp {c1:List Int} (hc:c1.length=m+1) {L0:List Int} (h0:L0.length=m+1) {n1 i0:Nat} {l:List Int} (hl:mP f m l) {i b j:Nat} (hi:i<m) (hb:b<m) (he: ¬(j<=2*i+2/\j<m)) {p q:Pt}:
 lI (tS k f m n1 i0 L0) c1 ((i:Int),(b:Int),(j:Int),(tJ k f m n0 i (l++[x]) p q).2)=if b=i then (bH k.clock ⟨f⟩ l).bind fun a=>some (.done (.done (.done a))) else some (.done (.next (tJ k f m n0 b (iB l i b++[x]) p q))):=by
 have hm:=hl.len;have m1:=hl.small;have e:aA .i64 (aA .i64 (2*(i:Int))+2)=((2*i+2:Nat):Int):=by
  rw [show aA .i64 (2*(i:Int))=2*(i:Int) from fT ⟨by omega,by omega⟩,fT ⟨by omega,by omega⟩];omega
 have ec:(aA .i64 ((c1.length:Int) -1)).toNat=m:=by rw [fT ⟨by omega,by omega⟩];omega
 have lx:(l++[x]).length=L0.length:=by rw [List.length_append,List.length_singleton];omega
 have sa:(l++[x]).set i l[b]! =l.set i l[b]!++[x]:=List.set_append_left _ _ (by omega)
 have sb:(l.set i l[b]!++[x]).set b l[i]! =iB l i b++[x]:=List.set_append_left _ _ (by rw [List.length_set];omega)
 have t1:(l.set i l[b]!++[x]).take m=l.set i l[b]!:=tk (by rw [List.length_set];exact hm)
 have g1:=aB (l.set i l[b]!) b (by rw [List.length_set];omega)
 have ceta:(aR.mk (k.clock.now.1,k.clock.now.2) (Field.mk k.clock.field.points) (bK.mk k.clock.certs.next_ k.clock.certs.list) (aO.mk (aY.mk k.clock.agenda.slots.uses k.clock.agenda.slots.used k.clock.agenda.slots.free) k.clock.agenda.heap k.clock.agenda.where_) k.clock.due)=k.clock:=rfl;unfold lI tS tJ
 by_cases h1:j<=2*i+2
 · have h2: ¬j<m:=fun h=>he ⟨h1,h⟩
   simp only [aF,e,aP (show (j:Int)<=((2*i+2:Nat):Int) by omega),aL (show¬(j:Int)<(m:Int) by omega),cond_true,cond_false,tk hm,aB l i (by omega),aB l b (by omega),aD,eO,sa,sb,t1,g1,lx,beq_self_eq_true,ec,ceta]
   by_cases hbi:b=i
   · rw [if_pos hbi,eZ (by omega),cond_true]
   · rw [if_neg hbi,eM (by omega),cond_false]
 · simp only [aF,e,aL (show¬(j:Int)<=((2*i+2:Nat):Int) by omega),cond_true,cond_false,tk hm,aB l i (by omega),aB l b (by omega),aD,eO,sa,sb,t1,g1,lx,beq_self_eq_true,ec,ceta]
   by_cases hbi:b=i
   · rw [if_pos hbi,eZ (by omega),cond_true]
   · rw [if_neg hbi,eM (by omega),cond_false]
theorem aT6 (ok:qQ k f) {c1:List Int} (hc:c1.length=m+1) {L0:List Int} (h0:L0.length=m+1) {n1 i0:Nat} {l:List Int} (hl:mP f m l) {i:Nat} (hi:i<m) {p q:Pt} {R:List Int->bW×Int} (hR:bH k.clock ⟨f⟩ l=some (R l)):
 aI (lI (tS k f m n1 i0 L0) c1) ((i:Int),(i:Int),((2*i+1:Nat):Int),(tJ k f m n0 i (l++[x]) p q).2)=some (if cS f k.clock.now l i=i then .done (.done (R l)) else .next (tJ k f m n0 (cS f k.clock.now l i) (iB l i (cS f k.clock.now l i)++[x]) p q)):=by
 have hm:=hl.len;have fin: ∀b j:Nat,b<m-> ¬(j<=2*i+2/\j<m)->cS f k.clock.now l i=b->aI (lI (tS k f m n1 i0 L0) c1) ((i:Int),(b:Int),(j:Int),(tJ k f m n0 i (l++[x]) p q).2)=some (if cS f k.clock.now l i=i then .done (.done (R l)) else .next (tJ k f m n0 (cS f k.clock.now l i) (iB l i (cS f k.clock.now l i)++[x]) p q)):=by
  intro b j hb he hk;rw [hk]
  have:=aRp (k:=k) (n0:=n0) (x:=x) hc h0 (n1:=n1) (i0:=i0) hl hi hb he (p:=p) (q:=q)
  by_cases hbi:b=i
  · rw [if_pos hbi,hR,aD] at this
    rw [if_pos hbi];exact aJ this
  · rw [if_neg hbi] at this
    rw [if_neg hbi];exact aJ this
 have kA:jC f k.clock.now l i<m:=by rcases kB f k.clock.now l i with h|⟨h,h2⟩<;>omega
 by_cases h1:2*i+1<m
 case neg=>
  have e1:jC f k.clock.now l i=i:=by unfold jC;rw [if_neg (fun h=>h1 (by omega))]
  have e2:cS f k.clock.now l i=i:=by unfold cS;rw [if_neg (fun h=>h1 (by omega)),e1]
  exact fin i (2*i+1) hi (fun h=>h1 h.2) e2
 rw [aU (aAE ok hl hi hi h1 (by omega) (by omega) (p:=p) (q:=q))]
 have eA:(if bI (bC f l[2*i+1]!) (bC f l[i]!) k.clock.now then 2*i+1 else i)=jC f k.clock.now l i:=by
  unfold jC
  by_cases c:bI (bC f l[2*i+1]!) (bC f l[i]!) k.clock.now
  · rw [if_pos c,if_pos ⟨by omega,c⟩]
  · rw [if_neg c,if_neg (fun h=>c h.2)]
 rw [eA]
 by_cases h2:2*i+1+1<m
 case neg=>
  have e2:cS f k.clock.now l i=jC f k.clock.now l i:=by unfold cS;rw [if_neg (fun h=>h2 (by omega))]
  exact fin _ (2*i+1+1) kA (fun h=>h2 h.2) e2
 have nk:2*i+1+1≠jC f k.clock.now l i:=by rcases kB f k.clock.now l i with h|⟨h,_⟩<;>omega
 rw [aU (aAE ok hl hi kA h2 (by omega) nk (p:=p) (q:=q))]
 have eG:(if bI (bC f l[2*i+1+1]!) (bC f l[jC f k.clock.now l i]!) k.clock.now then 2*i+1+1 else jC f k.clock.now l i)=cS f k.clock.now l i:=by
  unfold cS
  by_cases c:bI (bC f l[2*i+1+1]!) (bC f l[jC f k.clock.now l i]!) k.clock.now
  · rw [if_pos c,if_pos ⟨by omega,c⟩]
  · rw [if_neg c,if_neg (fun h=>c h.2)]
 rw [eG];exact fin _ (2*i+1+1+1) (by rw [<- eG];split<;>omega) (fun h=>by omega) rfl
theorem aT7 (ok:qQ k f) {c1:List Int} (hc:c1.length=m+1) {L0:List Int} (h0:L0.length=m+1) {n1 i0:Nat} {R:List Int->bW×Int} {l0:List Int} (hR: ∀l:List Int,l.Perm l0->bH k.clock ⟨f⟩ l=some (R l)):
 ∀(d:Nat) (l:List Int) (i:Nat),m-i<=d->i<m->mP f m l->l.Perm l0->aI (uO (tS k f m n1 i0 L0) c1) (tS k f m n0 i (l++[x]))=some (.done (R (wI f k.clock.now l i))):=by
 intro d
 induction d with
 |zero=>intro l i h hi;omega
 |succ d ih=>
  intro l i h hi hl pm;have hm:=hl.len;have m1:=hl.small;have e:aA .i64 (aA .i64 (2*(i:Int))+1)=((2*i+1:Nat):Int):=by
   rw [show aA .i64 (2*(i:Int))=2*(i:Int) from fT ⟨by omega,by omega⟩,fT ⟨by omega,by omega⟩];omega
  have g:=aT5 (k:=k) (n0:=n0) (x:=x) ok hc h0 (n1:=n1) (i0:=i0) hl hi (hR l pm);have st:uO (tS k f m n1 i0 L0) c1 (tS k f m n0 i (l++[x]))=some (if cS f k.clock.now l i=i then .done (.done (R l)) else .next (tS k f m n0 (cS f k.clock.now l i) (iB l i (cS f k.clock.now l i)++[x]))):=by
   unfold uO;rw [show (tS k f m n0 i (l++[x])).1=(i:Int) from rfl,e];exact g
  by_cases hk:cS f k.clock.now l i=i
  · rw [if_pos hk] at st
    rw [qP hk];exact aJ st
  · rw [if_neg hk] at st
    have kc:=oZ f k.clock.now l i;have sp:=mO (l:=l) (i:=i) (j:=cS f k.clock.now l i) (by omega) (by omega)
    rw [aU st,BA hk];exact ih _ _ (by omega) (by omega) ⟨by rw [fX];exact hm,hl.small,fun y hy=>hl.hp y (sp.mem_iff.1 hy),sp.nodup_iff.2 hl.nd⟩ (sp.trans pm)
theorem aT8 (ok:qQ k f) {c1:List Int} (hc:c1.length=m+1) {L0:List Int} (h0:L0.length=m+1) {n1 i0:Nat} {p q:Pt} {R:List Int->bW×Int} {l0:List Int} (hR: ∀l:List Int,l.Perm l0->bH k.clock ⟨f⟩ l=some (R l)):
 ∀(d:Nat) (l:List Int) (i:Nat),m-i<=d->i<m->mP f m l->l.Perm l0->aI (uN (tS k f m n1 i0 L0) c1) (tJ k f m n0 i (l++[x]) p q)=some (.done (R (wI f k.clock.now l i))):=by
 intro d
 induction d with
 |zero=>intro l i h hi;omega
 |succ d ih=>
  intro l i h hi hl pm;have hm:=hl.len;have m1:=hl.small;have e:aA .i64 (aA .i64 (2*(i:Int))+1)=((2*i+1:Nat):Int):=by
   rw [show aA .i64 (2*(i:Int))=2*(i:Int) from fT ⟨by omega,by omega⟩,fT ⟨by omega,by omega⟩];omega
  have g:=aT6 (k:=k) (n0:=n0) (x:=x) ok hc h0 (n1:=n1) (i0:=i0) hl hi (p:=p) (q:=q) (hR l pm);have st:uN (tS k f m n1 i0 L0) c1 (tJ k f m n0 i (l++[x]) p q)=some (if cS f k.clock.now l i=i then .done (.done (R l)) else .next (tJ k f m n0 (cS f k.clock.now l i) (iB l i (cS f k.clock.now l i)++[x]) p q)):=by
   unfold uN;rw [show (tJ k f m n0 i (l++[x]) p q).1=(i:Int) from rfl,e];exact g
  by_cases hk:cS f k.clock.now l i=i
  · rw [if_pos hk] at st
    rw [qP hk];exact aJ st
  · rw [if_neg hk] at st
    have kc:=oZ f k.clock.now l i;have sp:=mO (l:=l) (i:=i) (j:=cS f k.clock.now l i) (by omega) (by omega)
    rw [aU st,BA hk];exact ih _ _ (by omega) (by omega) ⟨by rw [fX];exact hm,hl.small,fun y hy=>hl.hp y (sp.mem_iff.1 hy),sp.nodup_iff.2 hl.nd⟩ (sp.trans pm)
theorem aT9 (ok:qQ k f) {c0:List Int} (hc:c0.length=m+1) {c1:Nat} {c2:Int} {R:List Int->bW×Int} {l0:List Int} (hR: ∀l:List Int,l.Perm l0->bH k.clock ⟨f⟩ l=some (R l)):
 ∀(i:Nat) (l:List Int),i<m->mP f m l->l.Perm l0->aI (pX c0 (c1:Int) c2) (tS k f m n0 i (l++[x]))=some (R (wI f k.clock.now (pN f k.clock.now i l) (vR f k.clock.now i l))):=by
 intro i
 induction i using Nat.strongRecOn with
 |ind i ih=>
  intro l hi hl pm;have hm:=hl.len;have m1:=hl.small;have lx:(l++[x]).length=m+1:=by rw [List.length_append,List.length_singleton];omega
  have sl:(bN c0 (c1:Int) c2).length=m+1:=by rw [eO,List.length_set];exact hc
  cases i with
  |zero=>
   have g:=aT7 (n0:=n0) (x:=x) ok hc lx (n1:=n0) (i0:=0) hR m l 0 (by omega) hi hl pm
   unfold pN vR;refine aJ ?_;unfold pX;rw [show (tS k f m n0 0 (l++[x])).1=0 from rfl,aL (by omega),cond_false]
   rw [show (tS k f m n0 0 (l++[x])).2.2.2.2.2.2.2.2.2.2.2.2.2.2.2.2.2.1=l++[x] from rfl,lx,sl,beq_self_eq_true,cond_true];exact g
  |succ i=>
   have hu:=aAB (i:=i+1) (by omega) (by omega)
   rw [show (i+1-1) / 2=i / 2 from rfl] at hu;have pi:=hl.hp _ (aQ (show i+1<l.length by omega))
   have pj:=hl.hp _ (aQ (show i / 2<l.length by omega))
   have ne:l[i+1]!≠l[i / 2]!:=fun h=>bR.1 hl.nd (i / 2) (i+1) (by omega) (by omega) h.symm
   have a:=KJ ok.fok (t:=(k.clock.now.1,k.clock.now.2)) ok.clk.nowv ok.clk.now64 pi pj ne;have g1:=aB l (i+1) (by omega)
   have g2:=aB l (i / 2) (by omega)
   have sa:(l++[x]).set (i+1) l[i / 2]! =l.set (i+1) l[i / 2]!++[x]:=List.set_append_left _ _ (by omega)
   have sb:(l.set (i+1) l[i / 2]!++[x]).set (i / 2) l[i+1]! =iB l (i+1) (i / 2)++[x]:=List.set_append_left _ _ (by rw [List.length_set];omega)
   have t1:(l.set (i+1) l[i / 2]!++[x]).take m=l.set (i+1) l[i / 2]!:=tk (by rw [List.length_set];exact hm)
   have g3:=aB (l.set (i+1) l[i / 2]!) (i / 2) (by rw [List.length_set];omega)
   unfold pN vR
   by_cases c:bI (bC f l[i+1]!) (bC f l[i / 2]!) k.clock.now
   · rw [if_pos c,if_pos c]
     rw [show decide (bI (bC f l[i+1]!) (bC f l[i / 2]!) (k.clock.now.1,k.clock.now.2))=true from aP c] at a;have sp:=mO (l:=l) (i:=i+1) (j:=i / 2) (by omega) (by omega)
     rw [aU (y:=tS k f m n0 (i / 2) (iB l (i+1) (i / 2)++[x])) (by
      unfold pX tS;simp only [aP (show (0:Int)<((i+1:Nat):Int) by omega),cond_true,tk hm,g1,g2,aD,hu,cO ok.fok pi,cO ok.fok pj,a,beq_self_eq_true,eO,sa,sb,t1,g3])]
     exact ih (i / 2) (by omega) _ (by omega) ⟨by rw [fX];exact hm,hl.small,fun y hy=>hl.hp y (sp.mem_iff.1 hy),sp.nodup_iff.2 hl.nd⟩ (sp.trans pm)
   · rw [if_neg c,if_neg c]
     rw [show decide (bI (bC f l[i+1]!) (bC f l[i / 2]!) (k.clock.now.1,k.clock.now.2))=false from aL c] at a;have g:=aT8 (n0:=n0) (x:=x) ok hc lx (n1:=n0) (i0:=i+1) (p:=bC f l[i+1]!) (q:=bC f l[i / 2]!) hR m l (i+1) (by omega) hi hl pm
     refine aJ ?_;unfold pX
     conv=>lhs;unfold tS
     simp only [aP (show (0:Int)<((i+1:Nat):Int) by omega),cond_true,tk hm,g1,g2,aD,hu,cO ok.fok pi,cO ok.fok pj,a,beq_self_eq_true,cond_false,lx,sl]
     exact g
end
def uS (k:bW) (P:Pt) (f:List Pt) (i:Nat) (L:List Int):=
 ((i:Int),k.clock.now.1,k.clock.now.2,k.clock.field.points,k.clock.certs.next_,k.clock.certs.list,k.clock.agenda.slots.uses,k.clock.agenda.slots.used,k.clock.agenda.slots.free,k.clock.agenda.heap,k.clock.agenda.where_,k.clock.due,k.heap,P.1,P.2.1,P.2.2,(0:Int),(0:Int),(0:Int),f,L,f,k.clock.now.1,k.clock.now.2)
def uJ (k:bW) (P:Pt) (f:List Pt) (i:Nat) (L:List Int) (p q:Pt):=
 ((i:Int),k.clock.now.1,k.clock.now.2,k.clock.field.points,k.clock.certs.next_,k.clock.certs.list,k.clock.agenda.slots.uses,k.clock.agenda.slots.used,k.clock.agenda.slots.free,k.clock.agenda.heap,k.clock.agenda.where_,k.clock.due,k.heap,P.1,P.2.1,P.2.2,(0:Int),(0:Int),(0:Int),f,L,f,k.clock.now.1,k.clock.now.2,p.1,p.2.1,p.2.2,q)
section
variable {k : bW} {P : Pt} {f : List Pt} {m : Nat}
theorem aAF (ok:qQ k f) {c0:_} {l:List Int} (hl:mP f m l) {i b j:Nat} (hi:i<m) (hb:b<m) (hj:j<m) (h2:j<=2*i+2) (hne:j≠b):
 iY c0 ((i:Int),(b:Int),(j:Int),(uS k P f i l).2)=some (.next ((i:Int),((if bI (bC f l[j]!) (bC f l[b]!) k.clock.now then j else b:Nat):Int),((j+1:Nat):Int),(uS k P f i l).2)):=by
 have hm:=hl.len;have m1:=hl.small;have e:aA .i64 (aA .i64 (2*(i:Int))+2)=((2*i+2:Nat):Int):=by
  rw [show aA .i64 (2*(i:Int))=2*(i:Int) from fT ⟨by omega,by omega⟩,fT ⟨by omega,by omega⟩];omega
 have pj:=hl.hp _ (aQ (show j<l.length by omega))
 have pb:=hl.hp _ (aQ (show b<l.length by omega))
 have ne:l[j]!≠l[b]!:=fun h=>by
  rcases Nat.lt_trichotomy j b with q|q|q
  · exact bR.1 hl.nd _ _ q (by omega) h
  · exact hne q
  · exact bR.1 hl.nd _ _ q (by omega) h.symm
 have a:=KJ ok.fok (t:=(k.clock.now.1,k.clock.now.2)) ok.clk.nowv ok.clk.now64 pj pb ne;unfold iY uS
 simp only [aF,e,aP (show (j:Int)<=((2*i+2:Nat):Int) by omega),aP (show (j:Int)<(l.length:Int) by omega),cond_true,aB l j (by omega),aB l b (by omega),aD,cO ok.fok pj,cO ok.fok pb,a,beq_self_eq_true,bF (show j<1000000000 by omega)]
 by_cases c:bI (bC f l[j]!) (bC f l[b]!) k.clock.now
 · rw [show decide (bI (bC f l[j]!) (bC f l[b]!) (k.clock.now.1,k.clock.now.2))=true from aP c,if_pos c];rfl
 · rw [show decide (bI (bC f l[j]!) (bC f l[b]!) (k.clock.now.1,k.clock.now.2))=false from aL c,if_neg c];rfl
theorem aRq {L0:List Int} (h0:L0.length=m) {i0:Nat} {l:List Int} (hl:mP f m l) {i b j:Nat} (hi:i<m) (hb:b<m) (he: ¬(j<=2*i+2/\j<m)):
 iY (uS k P f i0 L0) ((i:Int),(b:Int),(j:Int),(uS k P f i l).2)=if b=i then (bH k.clock ⟨f⟩ l).bind fun a=>some (.done (.done (.done a))) else some (.done (.next (uS k P f b (iB l i b)))):=by
 have hm:=hl.len;have m1:=hl.small;have e:aA .i64 (aA .i64 (2*(i:Int))+2)=((2*i+2:Nat):Int):=by
  rw [show aA .i64 (2*(i:Int))=2*(i:Int) from fT ⟨by omega,by omega⟩,fT ⟨by omega,by omega⟩];omega
 have lx:l.length=L0.length:=by omega
 have g1:=aB (l.set i l[b]!) b (by rw [List.length_set];omega)
 have ceta:(aR.mk (k.clock.now.1,k.clock.now.2) (Field.mk k.clock.field.points) (bK.mk k.clock.certs.next_ k.clock.certs.list) (aO.mk (aY.mk k.clock.agenda.slots.uses k.clock.agenda.slots.used k.clock.agenda.slots.free) k.clock.agenda.heap k.clock.agenda.where_) k.clock.due)=k.clock:=rfl;unfold iY uS
 by_cases h1:j<=2*i+2
 · have h2: ¬j<m:=fun h=>he ⟨h1,h⟩
   simp only [aF,e,aP (show (j:Int)<=((2*i+2:Nat):Int) by omega),aL (show¬(j:Int)<(L0.length:Int) by omega),cond_true,cond_false,aB l i (by omega),aB l b (by omega),aD,eO,g1,lx,beq_self_eq_true,ceta]
   by_cases hbi:b=i
   · rw [if_pos hbi,eZ (by omega),cond_true]
   · rw [if_neg hbi,eM (by omega),cond_false];rfl
 · simp only [aF,e,aL (show¬(j:Int)<=((2*i+2:Nat):Int) by omega),cond_true,cond_false,aB l i (by omega),aB l b (by omega),aD,eO,g1,lx,beq_self_eq_true,ceta]
   by_cases hbi:b=i
   · rw [if_pos hbi,eZ (by omega),cond_true]
   · rw [if_neg hbi,eM (by omega),cond_false];rfl
theorem aUa (ok:qQ k f) {L0:List Int} (h0:L0.length=m) {i0:Nat} {l:List Int} (hl:mP f m l) {i:Nat} (hi:i<m) {R:List Int->bW×Int} (hR:bH k.clock ⟨f⟩ l=some (R l)):
 aI (iY (uS k P f i0 L0)) ((i:Int),(i:Int),((2*i+1:Nat):Int),(uS k P f i l).2)=some (if cS f k.clock.now l i=i then .done (.done (R l)) else .next (uS k P f (cS f k.clock.now l i) (iB l i (cS f k.clock.now l i)))):=by
 have hm:=hl.len;have fin: ∀b j:Nat,b<m-> ¬(j<=2*i+2/\j<m)->cS f k.clock.now l i=b->aI (iY (uS k P f i0 L0)) ((i:Int),(b:Int),(j:Int),(uS k P f i l).2)=some (if cS f k.clock.now l i=i then .done (.done (R l)) else .next (uS k P f (cS f k.clock.now l i) (iB l i (cS f k.clock.now l i)))):=by
  intro b j hb he hk;rw [hk]
  have:=aRq (k:=k) (P:=P) h0 (i0:=i0) hl hi hb he
  by_cases hbi:b=i
  · rw [if_pos hbi,hR,aD] at this
    rw [if_pos hbi];exact aJ this
  · rw [if_neg hbi] at this
    rw [if_neg hbi];exact aJ this
 have kA:jC f k.clock.now l i<m:=by rcases kB f k.clock.now l i with h|⟨h,h2⟩<;>omega
 by_cases h1:2*i+1<m
 case neg=>
  have e1:jC f k.clock.now l i=i:=by unfold jC;rw [if_neg (fun h=>h1 (by omega))]
  have e2:cS f k.clock.now l i=i:=by unfold cS;rw [if_neg (fun h=>h1 (by omega)),e1]
  exact fin i (2*i+1) hi (fun h=>h1 h.2) e2
 rw [aU (aAF ok hl hi hi h1 (by omega) (by omega))]
 have eA:(if bI (bC f l[2*i+1]!) (bC f l[i]!) k.clock.now then 2*i+1 else i)=jC f k.clock.now l i:=by
  unfold jC
  by_cases c:bI (bC f l[2*i+1]!) (bC f l[i]!) k.clock.now
  · rw [if_pos c,if_pos ⟨by omega,c⟩]
  · rw [if_neg c,if_neg (fun h=>c h.2)]
 rw [eA]
 by_cases h2:2*i+1+1<m
 case neg=>
  have e2:cS f k.clock.now l i=jC f k.clock.now l i:=by unfold cS;rw [if_neg (fun h=>h2 (by omega))]
  exact fin _ (2*i+1+1) kA (fun h=>h2 h.2) e2
 have nk:2*i+1+1≠jC f k.clock.now l i:=by rcases kB f k.clock.now l i with h|⟨h,_⟩<;>omega
 rw [aU (aAF ok hl hi kA h2 (by omega) nk)]
 have eG:(if bI (bC f l[2*i+1+1]!) (bC f l[jC f k.clock.now l i]!) k.clock.now then 2*i+1+1 else jC f k.clock.now l i)=cS f k.clock.now l i:=by
  unfold cS
  by_cases c:bI (bC f l[2*i+1+1]!) (bC f l[jC f k.clock.now l i]!) k.clock.now
  · rw [if_pos c,if_pos ⟨by omega,c⟩]
  · rw [if_neg c,if_neg (fun h=>c h.2)]
 rw [eG];exact fin _ (2*i+1+1+1) (by rw [<- eG];split<;>omega) (fun h=>by omega) rfl
theorem aAG (ok:qQ k f) {c0:_} {l:List Int} (hl:mP f m l) {i b j:Nat} (hi:i<m) (hb:b<m) (hj:j<m) (h2:j<=2*i+2) (hne:j≠b) {p q:Pt}:
 iX c0 ((i:Int),(b:Int),(j:Int),(uJ k P f i l p q).2)=some (.next ((i:Int),((if bI (bC f l[j]!) (bC f l[b]!) k.clock.now then j else b:Nat):Int),((j+1:Nat):Int),(uJ k P f i l p q).2)):=by
 have hm:=hl.len;have m1:=hl.small;have e:aA .i64 (aA .i64 (2*(i:Int))+2)=((2*i+2:Nat):Int):=by
  rw [show aA .i64 (2*(i:Int))=2*(i:Int) from fT ⟨by omega,by omega⟩,fT ⟨by omega,by omega⟩];omega
 have pj:=hl.hp _ (aQ (show j<l.length by omega))
 have pb:=hl.hp _ (aQ (show b<l.length by omega))
 have ne:l[j]!≠l[b]!:=fun h=>by
  rcases Nat.lt_trichotomy j b with q|q|q
  · exact bR.1 hl.nd _ _ q (by omega) h
  · exact hne q
  · exact bR.1 hl.nd _ _ q (by omega) h.symm
 have a:=KJ ok.fok (t:=(k.clock.now.1,k.clock.now.2)) ok.clk.nowv ok.clk.now64 pj pb ne;unfold iX uJ
 simp only [aF,e,aP (show (j:Int)<=((2*i+2:Nat):Int) by omega),aP (show (j:Int)<(l.length:Int) by omega),cond_true,aB l j (by omega),aB l b (by omega),aD,cO ok.fok pj,cO ok.fok pb,a,beq_self_eq_true,bF (show j<1000000000 by omega)]
 by_cases c:bI (bC f l[j]!) (bC f l[b]!) k.clock.now
 · rw [show decide (bI (bC f l[j]!) (bC f l[b]!) (k.clock.now.1,k.clock.now.2))=true from aP c,if_pos c];rfl
 · rw [show decide (bI (bC f l[j]!) (bC f l[b]!) (k.clock.now.1,k.clock.now.2))=false from aL c,if_neg c];rfl
theorem aRr {L0:List Int} (h0:L0.length=m) {i0:Nat} {l:List Int} (hl:mP f m l) {i b j:Nat} (hi:i<m) (hb:b<m) (he: ¬(j<=2*i+2/\j<m)) {p q:Pt}:
 iX (uS k P f i0 L0) ((i:Int),(b:Int),(j:Int),(uJ k P f i l p q).2)=if b=i then (bH k.clock ⟨f⟩ l).bind fun a=>some (.done (.done (.done a))) else some (.done (.next (uJ k P f b (iB l i b) p q))):=by
 have hm:=hl.len;have m1:=hl.small;have e:aA .i64 (aA .i64 (2*(i:Int))+2)=((2*i+2:Nat):Int):=by
  rw [show aA .i64 (2*(i:Int))=2*(i:Int) from fT ⟨by omega,by omega⟩,fT ⟨by omega,by omega⟩];omega
 have lx:l.length=L0.length:=by omega
 have g1:=aB (l.set i l[b]!) b (by rw [List.length_set];omega)
 have ceta:(aR.mk (k.clock.now.1,k.clock.now.2) (Field.mk k.clock.field.points) (bK.mk k.clock.certs.next_ k.clock.certs.list) (aO.mk (aY.mk k.clock.agenda.slots.uses k.clock.agenda.slots.used k.clock.agenda.slots.free) k.clock.agenda.heap k.clock.agenda.where_) k.clock.due)=k.clock:=rfl;unfold iX uS uJ
 by_cases h1:j<=2*i+2
 · have h2: ¬j<m:=fun h=>he ⟨h1,h⟩
   simp only [aF,e,aP (show (j:Int)<=((2*i+2:Nat):Int) by omega),aL (show¬(j:Int)<(L0.length:Int) by omega),cond_true,cond_false,aB l i (by omega),aB l b (by omega),aD,eO,g1,lx,beq_self_eq_true,ceta]
   by_cases hbi:b=i
   · rw [if_pos hbi,eZ (by omega),cond_true]
   · rw [if_neg hbi,eM (by omega),cond_false];rfl
 · simp only [aF,e,aL (show¬(j:Int)<=((2*i+2:Nat):Int) by omega),cond_true,cond_false,aB l i (by omega),aB l b (by omega),aD,eO,g1,lx,beq_self_eq_true,ceta]
   by_cases hbi:b=i
   · rw [if_pos hbi,eZ (by omega),cond_true]
   · rw [if_neg hbi,eM (by omega),cond_false];rfl
theorem aUb (ok:qQ k f) {L0:List Int} (h0:L0.length=m) {i0:Nat} {l:List Int} (hl:mP f m l) {i:Nat} (hi:i<m) {p q:Pt} {R:List Int->bW×Int} (hR:bH k.clock ⟨f⟩ l=some (R l)):
 aI (iX (uS k P f i0 L0)) ((i:Int),(i:Int),((2*i+1:Nat):Int),(uJ k P f i l p q).2)=some (if cS f k.clock.now l i=i then .done (.done (R l)) else .next (uJ k P f (cS f k.clock.now l i) (iB l i (cS f k.clock.now l i)) p q)):=by
 have hm:=hl.len;have fin: ∀b j:Nat,b<m-> ¬(j<=2*i+2/\j<m)->cS f k.clock.now l i=b->aI (iX (uS k P f i0 L0)) ((i:Int),(b:Int),(j:Int),(uJ k P f i l p q).2)=some (if cS f k.clock.now l i=i then .done (.done (R l)) else .next (uJ k P f (cS f k.clock.now l i) (iB l i (cS f k.clock.now l i)) p q)):=by
  intro b j hb he hk;rw [hk]
  have:=aRr (k:=k) (P:=P) h0 (i0:=i0) hl hi hb he (p:=p) (q:=q)
  by_cases hbi:b=i
  · rw [if_pos hbi,hR,aD] at this
    rw [if_pos hbi];exact aJ this
  · rw [if_neg hbi] at this
    rw [if_neg hbi];exact aJ this
 have kA:jC f k.clock.now l i<m:=by rcases kB f k.clock.now l i with h|⟨h,h2⟩<;>omega
 by_cases h1:2*i+1<m
 case neg=>
  have e1:jC f k.clock.now l i=i:=by unfold jC;rw [if_neg (fun h=>h1 (by omega))]
  have e2:cS f k.clock.now l i=i:=by unfold cS;rw [if_neg (fun h=>h1 (by omega)),e1]
  exact fin i (2*i+1) hi (fun h=>h1 h.2) e2
 rw [aU (aAG ok hl hi hi h1 (by omega) (by omega) (p:=p) (q:=q))]
 have eA:(if bI (bC f l[2*i+1]!) (bC f l[i]!) k.clock.now then 2*i+1 else i)=jC f k.clock.now l i:=by
  unfold jC
  by_cases c:bI (bC f l[2*i+1]!) (bC f l[i]!) k.clock.now
  · rw [if_pos c,if_pos ⟨by omega,c⟩]
  · rw [if_neg c,if_neg (fun h=>c h.2)]
 rw [eA]
 by_cases h2:2*i+1+1<m
 case neg=>
  have e2:cS f k.clock.now l i=jC f k.clock.now l i:=by unfold cS;rw [if_neg (fun h=>h2 (by omega))]
  exact fin _ (2*i+1+1) kA (fun h=>h2 h.2) e2
 have nk:2*i+1+1≠jC f k.clock.now l i:=by rcases kB f k.clock.now l i with h|⟨h,_⟩<;>omega
 rw [aU (aAG ok hl hi kA h2 (by omega) nk (p:=p) (q:=q))]
 have eG:(if bI (bC f l[2*i+1+1]!) (bC f l[jC f k.clock.now l i]!) k.clock.now then 2*i+1+1 else jC f k.clock.now l i)=cS f k.clock.now l i:=by
  unfold cS
  by_cases c:bI (bC f l[2*i+1+1]!) (bC f l[jC f k.clock.now l i]!) k.clock.now
  · rw [if_pos c,if_pos ⟨by omega,c⟩]
  · rw [if_neg c,if_neg (fun h=>c h.2)]
 rw [eG];exact fin _ (2*i+1+1+1) (by rw [<- eG];split<;>omega) (fun h=>by omega) rfl
theorem aUc (ok:qQ k f) {L0:List Int} (h0:L0.length=m) {i0:Nat} {R:List Int->bW×Int} {l0:List Int} (hR: ∀l:List Int,l.Perm l0->bH k.clock ⟨f⟩ l=some (R l)):
 ∀(d:Nat) (l:List Int) (i:Nat),m-i<=d->i<m->mP f m l->l.Perm l0->aI (qG (uS k P f i0 L0)) (uS k P f i l)=some (.done (R (wI f k.clock.now l i))):=by
 intro d
 induction d with
 |zero=>intro l i h hi;omega
 |succ d ih=>
  intro l i h hi hl pm;have hm:=hl.len;have m1:=hl.small;have e:aA .i64 (aA .i64 (2*(i:Int))+1)=((2*i+1:Nat):Int):=by
   rw [show aA .i64 (2*(i:Int))=2*(i:Int) from fT ⟨by omega,by omega⟩,fT ⟨by omega,by omega⟩];omega
  have g:=aUa (k:=k) (P:=P) ok h0 (i0:=i0) hl hi (hR l pm);have st:qG (uS k P f i0 L0) (uS k P f i l)=some (if cS f k.clock.now l i=i then .done (.done (R l)) else .next (uS k P f (cS f k.clock.now l i) (iB l i (cS f k.clock.now l i)))):=by
   unfold qG;rw [show (uS k P f i l).1=(i:Int) from rfl,e];exact g
  by_cases hk:cS f k.clock.now l i=i
  · rw [if_pos hk] at st
    rw [qP hk];exact aJ st
  · rw [if_neg hk] at st
    have kc:=oZ f k.clock.now l i;have sp:=mO (l:=l) (i:=i) (j:=cS f k.clock.now l i) (by omega) (by omega)
    rw [aU st,BA hk];exact ih _ _ (by omega) (by omega) ⟨by rw [fX];exact hm,hl.small,fun y hy=>hl.hp y (sp.mem_iff.1 hy),sp.nodup_iff.2 hl.nd⟩ (sp.trans pm)
theorem aUd (ok:qQ k f) {L0:List Int} (h0:L0.length=m) {i0:Nat} {p q:Pt} {R:List Int->bW×Int} {l0:List Int} (hR: ∀l:List Int,l.Perm l0->bH k.clock ⟨f⟩ l=some (R l)):
 ∀(d:Nat) (l:List Int) (i:Nat),m-i<=d->i<m->mP f m l->l.Perm l0->aI (qF (uS k P f i0 L0)) (uJ k P f i l p q)=some (.done (R (wI f k.clock.now l i))):=by
 intro d
 induction d with
 |zero=>intro l i h hi;omega
 |succ d ih=>
  intro l i h hi hl pm;have hm:=hl.len;have m1:=hl.small;have e:aA .i64 (aA .i64 (2*(i:Int))+1)=((2*i+1:Nat):Int):=by
   rw [show aA .i64 (2*(i:Int))=2*(i:Int) from fT ⟨by omega,by omega⟩,fT ⟨by omega,by omega⟩];omega
  have g:=aUb (k:=k) (P:=P) ok h0 (i0:=i0) hl hi (p:=p) (q:=q) (hR l pm);have st:qF (uS k P f i0 L0) (uJ k P f i l p q)=some (if cS f k.clock.now l i=i then .done (.done (R l)) else .next (uJ k P f (cS f k.clock.now l i) (iB l i (cS f k.clock.now l i)) p q)):=by
   unfold qF;rw [show (uJ k P f i l p q).1=(i:Int) from rfl,e];exact g
  by_cases hk:cS f k.clock.now l i=i
  · rw [if_pos hk] at st
    rw [qP hk];exact aJ st
  · rw [if_neg hk] at st
    have kc:=oZ f k.clock.now l i;have sp:=mO (l:=l) (i:=i) (j:=cS f k.clock.now l i) (by omega) (by omega)
    rw [aU st,BA hk];exact ih _ _ (by omega) (by omega) ⟨by rw [fX];exact hm,hl.small,fun y hy=>hl.hp y (sp.mem_iff.1 hy),sp.nodup_iff.2 hl.nd⟩ (sp.trans pm)
theorem aUe (ok:qQ k f) {c0:List Int} (hc:c0.length=m) {R:List Int->bW×Int} {l0:List Int} (hR: ∀l:List Int,l.Perm l0->bH k.clock ⟨f⟩ l=some (R l)):
 ∀(i:Nat) (l:List Int),i<m->mP f m l->l.Perm l0->aI (nR c0) (uS k P f i l)=some (R (wI f k.clock.now (pN f k.clock.now i l) (vR f k.clock.now i l))):=by
 intro i
 induction i using Nat.strongRecOn with
 |ind i ih=>
  intro l hi hl pm;have hm:=hl.len;have m1:=hl.small;have lx:l.length=m:=hm;cases i with
  |zero=>
   have g:=aUc (P:=P) ok lx (i0:=0) hR m l 0 (by omega) hi hl pm
   unfold pN vR;refine aJ ?_;unfold nR;rw [show (uS k P f 0 l).1=0 from rfl,aL (by omega),cond_false]
   rw [show (uS k P f 0 l).2.2.2.2.2.2.2.2.2.2.2.2.2.2.2.2.2.2.2.2.1=l from rfl,lx,hc,beq_self_eq_true,cond_true];exact g
  |succ i=>
   have hu:=aAB (i:=i+1) (by omega) (by omega)
   rw [show (i+1-1) / 2=i / 2 from rfl] at hu;have pi:=hl.hp _ (aQ (show i+1<l.length by omega))
   have pj:=hl.hp _ (aQ (show i / 2<l.length by omega))
   have ne:l[i+1]!≠l[i / 2]!:=fun h=>bR.1 hl.nd (i / 2) (i+1) (by omega) (by omega) h.symm
   have a:=KJ ok.fok (t:=(k.clock.now.1,k.clock.now.2)) ok.clk.nowv ok.clk.now64 pi pj ne;have g1:=aB l (i+1) (by omega)
   have g2:=aB l (i / 2) (by omega)
   have g3:=aB (l.set (i+1) l[i / 2]!) (i / 2) (by rw [List.length_set];omega)
   unfold pN vR
   by_cases c:bI (bC f l[i+1]!) (bC f l[i / 2]!) k.clock.now
   · rw [if_pos c,if_pos c]
     rw [show decide (bI (bC f l[i+1]!) (bC f l[i / 2]!) (k.clock.now.1,k.clock.now.2))=true from aP c] at a;have sp:=mO (l:=l) (i:=i+1) (j:=i / 2) (by omega) (by omega)
     rw [aU (y:=uS k P f (i / 2) (iB l (i+1) (i / 2))) (by
      unfold nR uS;simp only [aP (show (0:Int)<((i+1:Nat):Int) by omega),cond_true,g1,g2,aD,hu,cO ok.fok pi,cO ok.fok pj,a,beq_self_eq_true,eO,g3]
      rfl)]
     exact ih (i / 2) (by omega) _ (by omega) ⟨by rw [fX];exact hm,hl.small,fun y hy=>hl.hp y (sp.mem_iff.1 hy),sp.nodup_iff.2 hl.nd⟩ (sp.trans pm)
   · rw [if_neg c,if_neg c]
     rw [show decide (bI (bC f l[i+1]!) (bC f l[i / 2]!) (k.clock.now.1,k.clock.now.2))=false from aL c] at a;have g:=aUd (P:=P) ok lx (i0:=i+1) (p:=bC f l[i+1]!) (q:=bC f l[i / 2]!) hR m l (i+1) (by omega) hi hl pm
     refine aJ ?_;unfold nR
     conv=>lhs;unfold uS
     simp only [aP (show (0:Int)<((i+1:Nat):Int) by omega),cond_true,g1,g2,aD,hu,cO ok.fok pi,cO ok.fok pj,a,beq_self_eq_true,cond_false,lx,hc]
     exact g
end
end Go.Proofs.YtfejhjllooomlaaGreat
namespace Go.Proofs.YtfejhjllooomlaaGreat
abbrev Nd:=Int×Int×Int
structure WT (P:Nat->Nat->Prop) (a b i:Nat):Prop where
 lo:a<=i
 hi:i<b
 top: ∀j,a<=j->j<b->j≠i->P i j
inductive sP (P:Nat->Nat->Prop) (N:List Nd):Nat->Nat->Int->Prop
 |nil {a b:Nat} (h:b<=a):sP P N a b (-1)
 |node {a b i:Nat} (h:WT P a b i) (l:sP P N a i (N[i]!).2.1) (r:sP P N (i+1) b (N[i]!).2.2):sP P N a b (i:Int)
structure aLb (P:Nat->Nat->Prop) (n:Nat):Prop where
 tr: ∀i j k,i<n->j<n->k<n->P i j->P j k->P i k
 asy: ∀i j,i<n->j<n->P i j-> ¬P j i
 tot: ∀i j,i<n->j<n->i≠j-> ¬P i j->P j i
theorem WT.one {P:Nat->Nat->Prop} {n a b i j:Nat} (o:aLb P n) (hb:b<=n) (h:WT P a b i) (k:WT P a b j):i=j:=by
 refine Classical.byContradiction fun hne=>?_
 have:=h.hi;have:=k.hi
 exact o.asy i j (by omega) (by omega) (h.top j k.lo k.hi (fun e=>hne e.symm)) (k.top i h.lo h.hi hne)
theorem sP.link {P:Nat->Nat->Prop} {N:List Nd} {a b:Nat} {r:Int} (h:sP P N a b r):(b<=a/\r= -1)\/(∃i:Nat,r=(i:Int)/\a<=i/\i<b):=by
 cases h with
 |nil h=>exact .inl ⟨h,rfl⟩
 |node h l r=>exact .inr ⟨_,rfl,h.lo,h.hi⟩
theorem sP.unique {P:Nat->Nat->Prop} {n:Nat} (o:aLb P n) {N N':List Nd} {a b:Nat} {r:Int} (h:sP P N a b r): ∀{r':Int},b<=n->sP P N' a b r'->r=r'/\ ∀k,a<=k->k<b->(N[k]!).2=(N'[k]!).2:=by
 induction h with
 |nil h=>
  intro r' hb h';cases h' with
  |nil _=>exact ⟨rfl,fun k h1 h2=>by omega⟩
  |node t _ _=>have:=t.lo;have:=t.hi;omega
 | @node a b i h l r ihl ihr=>
  intro r' hb h';have lo:=h.lo;have hi:=h.hi;cases h' with
  |nil q=>omega
  | @node _ _ j t l' r'=>
   have e:=h.one o hb t;subst e;obtain ⟨e1,f1⟩:=ihl (by omega) l'
   obtain ⟨e2,f2⟩:=ihr hb r';refine ⟨rfl,fun k h1 h2=>?_⟩
   rcases Nat.lt_trichotomy k i with q|q|q
   · exact f1 k h1 q
   · subst q;exact Prod.ext e1 e2
   · exact f2 k (by omega) h2
theorem sP.other {P Q:Nat->Nat->Prop} {n:Nat} (o:aLb Q n) {N:List Nd} {a b:Nat} {r:Int} (h:sP P N a b r):b<=n->(∀k j:Nat,a<=k->k<b->a<=j->j<b->((N[k]!).2.1=(j:Int)\/(N[k]!).2.2=(j:Int))->Q k j)->sP Q N a b r:=by
 induction h with
 |nil h=>exact fun _ _=> .nil h
 | @node a b i h l r ihl ihr=>
  intro hb q;have lo:=h.lo;have hi:=h.hi;have tl:=ihl (by omega) fun k j h1 h2 h3 h4=>q k j h1 (by omega) h3 (by omega)
  have tr:=ihr hb fun k j h1 h2 h3 h4=>q k j (by omega) h2 (by omega) h4
  refine .node ⟨lo,hi,fun j h1 h2 hne=>?_⟩ tl tr
  rcases Nat.lt_or_ge j i with hj|hj
  · generalize hr:(N[i]!).2.1=s at tl
    cases tl with
    |nil q=>omega
    | @node _ _ m t _ _=>
     have t1:=t.lo;have t2:=t.hi;have qm:=q i m lo hi t1 (by omega) (.inl hr)
     by_cases e:j=m
     · rw [e];exact qm
     · exact o.tr i m j (by omega) (by omega) (by omega) qm (t.top j h1 hj e)
  · generalize hr:(N[i]!).2.2=s at tr
    cases tr with
    |nil q=>omega
    | @node _ _ m t _ _=>
     have t1:=t.lo;have t2:=t.hi;have qm:=q i m lo hi (by omega) t2 (.inr hr)
     by_cases e:j=m
     · rw [e];exact qm
     · exact o.tr i m j (by omega) (by omega) (by omega) qm (t.top j (by omega) h2 e)
theorem sP.kids {P:Nat->Nat->Prop} {N:List Nd} {a b:Nat} {r:Int} (h:sP P N a b r): ∀k,a<=k->k<b-> ∀c:Int,((N[k]!).2.1=c\/(N[k]!).2.2=c)->c= -1\/ ∃j:Nat,c=(j:Int)/\a<=j/\j<b/\j≠k/\P k j/\r≠c:=by
 induction h with
 |nil h=>intro k h1 h2;omega
 | @node a b i h l r ihl ihr=>
  have lo:=h.lo;have hi:=h.hi;intro k h1 h2 c hc;rcases Nat.lt_trichotomy k i with q|q|q
  · rcases ihl k h1 q c hc with e|⟨j,e,j1,j2,j3,j4,_⟩
    · exact .inl e
    · exact .inr ⟨j,e,j1,by omega,j3,j4,by rw [e];omega⟩
  · subst q
    rcases hc with hc|hc
    · rcases l.link with ⟨_,e⟩|⟨j,e,j1,j2⟩
      · exact .inl (hc▸e)
      · exact .inr ⟨j,hc▸e,j1,by omega,by omega,h.top j j1 (by omega) (by omega),by rw [<- hc,e];omega⟩
    · rcases r.link with ⟨_,e⟩|⟨j,e,j1,j2⟩
      · exact .inl (hc▸e)
      · exact .inr ⟨j,hc▸e,by omega,j2,by omega,h.top j (by omega) j2 (by omega),by rw [<- hc,e];omega⟩
  · rcases ihr k (by omega) h2 c hc with e|⟨j,e,j1,j2,j3,j4,_⟩
    · exact .inl e
    · exact .inr ⟨j,e,by omega,j2,j3,j4,by rw [e];omega⟩
theorem sP.up {P:Nat->Nat->Prop} {N:List Nd} {a b:Nat} {r:Int} (h:sP P N a b r): ∀k:Nat,a<=k->k<b->(k:Int)≠r-> ∃j,a<=j/\j<b/\((N[j]!).2.1=(k:Int)\/(N[j]!).2.2=(k:Int))/\ ∀m,a<=m->m<b->((N[m]!).2.1=(k:Int)\/(N[m]!).2.2=(k:Int))->m=j:=by
 induction h with
 |nil h=>intro k h1 h2;omega
 | @node a b i h l r ihl ihr=>
  have lo:=h.lo;have hi:=h.hi;have lk:=l.kids;have rk:=r.kids;intro k h1 h2 hne;have hki:k≠i:=fun e=>hne (by rw [e])
  rcases Nat.lt_or_ge k i with q|q
  · by_cases er:(k:Int)=(N[i]!).2.1
    · refine ⟨i,lo,hi,.inl er.symm,fun m m1 m2 hm=>?_⟩
      rcases Nat.lt_trichotomy m i with w|w|w
      · rcases lk m m1 w _ hm with e|⟨j,e,_,_,_,_,hr⟩
        · omega
        · exact absurd er.symm hr
      · exact w
      · rcases rk m (by omega) m2 _ hm with e|⟨j,e,j1,_⟩<;>omega
    · obtain ⟨j,j1,j2,j3,j4⟩:=ihl k h1 q er
      refine ⟨j,j1,by omega,j3,fun m m1 m2 hm=>?_⟩
      rcases Nat.lt_trichotomy m i with w|w|w
      · exact j4 m m1 w hm
      · subst w
        rcases hm with hm|hm
        · exact absurd hm.symm er
        · rcases r.link with ⟨_,e⟩|⟨p,e,p1,p2⟩<;>omega
      · rcases rk m (by omega) m2 _ hm with e|⟨p,e,p1,_⟩<;>omega
  · by_cases er:(k:Int)=(N[i]!).2.2
    · refine ⟨i,lo,hi,.inr er.symm,fun m m1 m2 hm=>?_⟩
      rcases Nat.lt_trichotomy m i with w|w|w
      · rcases lk m m1 w _ hm with e|⟨j,e,_,j2,_⟩<;>omega
      · exact w
      · rcases rk m (by omega) m2 _ hm with e|⟨j,e,_,_,_,_,hr⟩
        · omega
        · exact absurd er.symm hr
    · obtain ⟨j,j1,j2,j3,j4⟩:=ihr k (by omega) h2 er
      refine ⟨j,by omega,j2,j3,fun m m1 m2 hm=>?_⟩
      rcases Nat.lt_trichotomy m i with w|w|w
      · rcases lk m m1 w _ hm with e|⟨p,e,_,p2,_⟩<;>omega
      · subst w
        rcases hm with hm|hm
        · rcases l.link with ⟨_,e⟩|⟨p,e,p1,p2⟩<;>omega
        · exact absurd hm.symm er
      · exact j4 m (by omega) m2 hm
inductive O7 (P:Nat->Nat->Prop) (N:List Nd):Nat->Nat->Int->List Nat->Prop
 |nil {a b:Nat} (h:b<=a):O7 P N a b (-1) []
 |cons {a b k:Nat} {es:List Nat} (h:WT P a b k) (l:sP P N a k (N[k]!).2.1) (r:O7 P N (k+1) b (N[k]!).2.2 es):O7 P N a b (k:Int) (k::es)
theorem O7.tree {P:Nat->Nat->Prop} {N:List Nd} {a b:Nat} {r:Int} {es:List Nat} (h:O7 P N a b r es):sP P N a b r:=by
 induction h with
 |nil h=>exact .nil h
 |cons h l r ih=>exact .node h l ih
theorem O7.mem {P:Nat->Nat->Prop} {N:List Nd} {a b:Nat} {r:Int} {es:List Nat} (h:O7 P N a b r es): ∀e∈es,a<=e/\e<b:=by
 induction h with
 |nil h=>intro e he;cases he
 |cons h l r ih=>
  intro e he;have lo:=h.lo;have hi:=h.hi;rcases List.mem_cons.1 he with rfl|he
  · exact ⟨lo,hi⟩
  · have:=ih e he;omega
end Go.Proofs.YtfejhjllooomlaaGreat
namespace Go.Proofs.YtfejhjllooomlaaGreat
open Go.Vm Classical
def ahP (f:List Pt) (t:Int×Int) (i j:Nat):Prop:=bI f[i]! f[j]! t
theorem mY {p q:Pt} {t:Int×Int} (h:bI p q t): ¬bI q p t:=by
 unfold bI at*;rw [TC] at*;generalize p.2.1*t.2+p.2.2*t.1=a at*;generalize q.2.1*t.2+q.2.2*t.1=b at*;omega
theorem aLc {f:List Pt} (h:gM f) (t:Int×Int):aLb (ahP f t) f.length where
 tr:=fun _ _ _ _ _ _ h1 h2=>zI h1 h2
 asy:=fun _ _ _ _ h=>mY h
 tot:=fun _ _ hi hj hne hn=>rI t (fun e=>hne (CE h hi hj e)) hn
structure EF (f:List Pt) (t:Int×Int) (N:List Nd) (r:Int):Prop where
 len:N.length=f.length
 ids: ∀k,k<f.length->(N[k]!).1=(f[k]!).1
 tree:sP (ahP f t) N 0 f.length r
theorem EF.same {f:List Pt} (h:gM f) {t:Int×Int} {N N':List Nd} {r r':Int} (a:EF f t N r) (b:EF f t N' r'):N=N'/\r=r':=by
 obtain ⟨e1,e2⟩:=a.tree.unique (aLc h t) (Nat.le_refl _) b.tree;refine ⟨IQ (by rw [a.len,b.len]) fun k hk=>?_,e1⟩
 have hk:k<f.length:=by rw [<- a.len];exact hk
 exact Prod.ext (by rw [a.ids k hk,b.ids k hk]) (e2 k (Nat.zero_le _) hk)
def Below (N:List Nd) (k j:Nat):Prop:=(N[j]!).2.1=(k:Int)\/(N[j]!).2.2=(k:Int)
noncomputable def LT (N:List Nd) (k:Nat):Nat:=if h: ∃j,j<N.length/\Below N k j then h.choose else N.length
noncomputable def aUf (N:List Nd) (k:Nat):List (Int×Int):=if LT N k<N.length then [((N[k]!).1,(N[LT N k]!).1)] else []
noncomputable def aD8 (N:List Nd):Nat->List (Int×Int)
 |0=>[]
 |k+1=>aD8 N k++aUf N k
section
variable {f : List Pt} {t : Int × Int} {N : List Nd} {r : Int}
theorem EF.par (h:EF f t N r) {k:Nat} (hk:k<f.length):((k:Int)=r->LT N k=N.length)/\((k:Int)≠r->LT N k<N.length/\Below N k (LT N k)/\LT N k≠k/\ahP f t (LT N k) k)/\ ∀m,m<N.length->Below N k m->m=LT N k:=by
 have ln:=h.len
 by_cases hr:(k:Int)=r
 · have none: ¬ ∃j,j<N.length/\Below N k j:=by
    rintro ⟨j,hj,hb⟩;rcases h.tree.kids j (Nat.zero_le _) (by omega) (k:Int) hb with e|⟨_,_,_,_,_,_,e⟩
    · omega
    · exact e hr.symm
   have e:LT N k=N.length:=by unfold LT;rw [dif_neg none]
   exact ⟨fun _=>e,fun q=>absurd hr q,fun m hm hb=>absurd ⟨m,hm,hb⟩ none⟩
 · obtain ⟨j,_,j2,j3,j4⟩:=h.tree.up k (Nat.zero_le _) hk hr
   have ex: ∃j,j<N.length/\Below N k j:=⟨j,by omega,j3⟩
   have e:LT N k=j:=by
    unfold LT;rw [dif_pos ex]
    have:=ex.choose_spec
    exact j4 _ (Nat.zero_le _) (by omega) this.2
   refine ⟨fun q=>absurd q hr,fun _=>?_,fun m hm hb=>by rw [e];exact j4 m (Nat.zero_le _) (by omega) hb⟩
   rw [e];refine ⟨by omega,j3,?_,?_⟩
   · rcases h.tree.kids j (Nat.zero_le _) j2 (k:Int) j3 with q|⟨i,q,_,_,q2,_⟩
     · omega
     · intro w;omega
   · rcases h.tree.kids j (Nat.zero_le _) j2 (k:Int) j3 with q|⟨i,q,_,_,_,q2,_⟩
     · omega
     · have:i=k:=by omega
       rw [<- this];exact q2
end
def o1 (f:List Pt) (t:Int×Int) (e c:Nat) (i:Nat) (root:Int) (N:List Nd) (E:List Int) (left:Int):=
 (e,c,(i:Int),f,(f.length:Int),(i:Int),f,t.1,t.2,(0:Int),root,N,E,(f[i]!).1,(f[i]!).2.1,(f[i]!).2.2,(f[i]!).1,left,(-1:Int))
section
variable {f : List Pt} {t : Int × Int} {N : List Nd} {r : Int}
theorem EF.link (h:EF f t N r) {j:Nat} (hj:j<f.length) {c:Int} (hc:(N[j]!).2.1=c\/(N[j]!).2.2=c):c= -1\/(0<=c/\c<N.length):=by
 have ln:=h.len;rcases h.tree.kids j (Nat.zero_le _) hj c hc with e|⟨k,e,_,k2,_⟩
 · exact .inl e
 · exact .inr ⟨by omega,by omega⟩
end
structure aD9 (k:SY):Prop where
 clk:bM k.clock
 tree:EF k.clock.field.points k.clock.now k.tree.nodes k.tree.root
 cert:(k.clock.certs.list.map fun x=>x.2).Perm (aD8 k.tree.nodes k.clock.field.points.length)
theorem O8 {α:Type} [BEq α] [LawfulBEq α]: ∀{a b:List α},a.Nodup->(∀x∈a,x∈b)->a.length<=b.length
 | [],_,_,_=>Nat.zero_le _
 |x::a,b,hd,h=>by
  rw [List.nodup_cons] at hd;have hx:=h x List.mem_cons_self
  have:=O8 (a:=a) (b:=b.erase x) hd.2 (fun y hy=>by
   rw [List.mem_erase_of_ne (fun e=>hd.1 (by rw [<- e];exact hy))]
   exact h y (List.mem_cons_of_mem _ hy))
  rw [List.length_erase_of_mem hx] at this
  have:=List.length_pos_of_mem hx
  rw [List.length_cons];omega
theorem WU {α:Type} [BEq α] [LawfulBEq α] {a b:List α} (ha:a.Nodup) (hb:b.Nodup) (h1: ∀x∈a,x∈b) (h2: ∀x∈b,x∈a):a.Perm b:=qO ha h1 (O8 hb h2)
theorem O9 {c:aR} (ok:bM c) {es:List (Int×Int)} (eok:I5 c.field.points es) (pm:(c.certs.list.map fun x=>x.2).Perm es):oT c c.field es=some (c,0):=by
 have bd:=ok.bd;have el:=eok.len;have f1:=ok.fld.1;have k1:=eU (body:=dN) (fun i=>kP c c.field.points es i c) c.certs.list.length (fun i hi=>by
  have hin:(c.certs.list[i]!).2∈es:=pm.mem_iff.1 (vQ.1 ⟨i,hi,rfl⟩);unfold dN kP;simp only [aP (show (i:Int)<(c.certs.list.length:Int) by omega),cond_true,aB c.certs.list i hi,aD,oE _ _ eok.len,aP hin,Bool.not_true,cond_false,bF (show i<1000000000 by omega)])
 refine (show oT c c.field es=_ from k1).trans (aJ ?_);unfold dN kP;simp only [aL (show¬(c.certs.list.length:Int)<(c.certs.list.length:Int) by omega),cond_false,I3 c.field.points c.field.points (by omega),aD,Bool.not_true,decide_true]
 have k2:=eU (body:=eC) (fun i=>eP es i c) es.length (fun i hi=>by
  have hin:xA c.certs.list es[i]!:=vQ.2 (pm.mem_iff.2 (aQ hi));unfold eC eP;simp only [aP (show (i:Int)<(es.length:Int) by omega),cond_true,aB es i hi,aD,FC,OW c.certs.list es[i]! (by omega),aP hin,bF (show i<1000000000 by omega)])
 refine (show _=_ from k2).trans (aJ ?_);unfold eC eP;simp only [aL (show¬(es.length:Int)<(es.length:Int) by omega),cond_false]
structure aEa (R:SY) (F:List Pt) (t:Int×Int):Prop where
 ok:aD9 R
 fld:R.clock.field.points=F
 now:R.clock.now=t
theorem aEa.nums {R:SY} {F:List Pt} {t:Int×Int} (h:aEa R F t):yD R.clock:=h.ok.clk.fit
theorem aEa.same {R S:SY} {F:List Pt} {t:Int×Int} (h:aEa R F t) (k:aEa S F t):R.tree=S.tree:=by
 have a:=h.ok.tree;rw [h.fld,h.now] at a;have b:=k.ok.tree;rw [k.fld,k.now] at b;obtain ⟨e1,e2⟩:=a.same (by rw [<- h.fld];exact h.ok.clk.fld.2.2) b
 obtain ⟨_,⟨r,N⟩⟩:=R;obtain ⟨_,⟨r',N'⟩⟩:=S;simp only at e1 e2;subst e1 e2;rfl
theorem FF {f:List Pt} (hs:gM f) {q:Nat} (hq:q<f.length) {p:Pt}:p∈f.eraseIdx q↔p∈f/\p.1≠(f[q]!).1:=by
 rw [List.mem_eraseIdx_iff_getElem];constructor
 · rintro ⟨i,hi,hne,rfl⟩
   refine ⟨List.getElem_mem _,fun e=>?_⟩
   rw [<- getElem!_pos f i hi] at e;rcases Nat.lt_trichotomy i q with c|c|c
   · have:=iS hs c hq;omega
   · exact hne c
   · have:=iS hs c hi;omega
 · rintro ⟨hp,hne⟩
   obtain ⟨i,hi,rfl⟩:=aW.1 hp;refine ⟨i,hi,fun e=>hne (by rw [e]),?_⟩
   rw [getElem!_pos f i hi]
theorem BB {f:List Pt} (hs:gM f) {q:Pt} (h:q∈f):bC f q.1=q:=by
 obtain ⟨i,hi,rfl⟩:=aW.1 h;exact FE hs hi rfl
theorem zJ {f:List Pt} (hs:gM f) {x:Int} (h:lC f x):bC f x∈f/\(bC f x).1=x:=by
 obtain ⟨i,hi,rfl⟩:=h;rw [BB hs (aQ hi)];exact ⟨aQ hi,rfl⟩
theorem Q4 {f g:List Pt} (hf:gM f) (hg:gM g) {x:Int} (h:lC f x) (hm:bC f x∈g):bC g x=bC f x:=by
 have:=BB hg hm
 rwa [(zJ hf h).2] at this
theorem FG {f:List Pt} (hs:gM f) (t:Int×Int):SO (fun a b=>bI (bC f a) (bC f b) t) (lC f) where
 irr:=fun a _ h=>mY h h
 tr:=fun _ _ _ _ _ _ h k=>zI h k
 tot:=fun a b ha hb hne=>by
  rcases Classical.em (bI (bC f a) (bC f b) t) with h|h
  · exact .inl h
  · exact .inr (rI t (by rw [(zJ hs ha).2,(zJ hs hb).2];exact hne) h)
abbrev LF (f:List Pt) (t:Int×Int) (a b:Int):Prop:=bI (bC f a) (bC f b) t
theorem Q5 {f:List Pt} (hs:gM f) {t:Int×Int} {l:List Int} (hp: ∀x∈l,lC f x) (nd:l.Nodup):(∀e∈dQ l,bI (bC f e.2) (bC f e.1) t)↔Hp (LF f t) l:=by
 constructor
 · intro h j h1 h2 c
   have hm:(l[j]!,l[par j]!)∈dQ l:=by
    refine aW.2 ⟨j-1,by rw [lO];omega,?_⟩
    rw [zH l (show j-1<l.length-1 by omega),show j-1+1=j by omega]
   exact mY c (h _ hm)
 · intro h e he
   obtain ⟨i,hi,rfl⟩:=aW.1 he;rw [lO] at hi;rw [zH l hi]
   have:=h (i+1) (by omega) (by omega)
   have pe:par (i+1)=i / 2:=by simp only [par];omega
   rw [pe] at this;refine rI t ?_ this;rw [(zJ hs (hp _ (aQ (by omega)))).2,(zJ hs (hp _ (aQ (by omega)))).2]
   exact fun e=>bR.1 nd (i / 2) (i+1) (by omega) (by omega) e.symm
structure TF (R:bW) (F:List Pt) (t:Int×Int):Prop where
 ok:mN R
 fld:R.clock.field.points=F
 now:R.clock.now=t
theorem mN.len {k:bW} (h:mN k):k.heap.length=k.clock.field.points.length:=by rw [<- h.perm.length_eq];exact List.length_map ..
theorem mN.bd {k:bW} (h:mN k):k.heap.length<=64:=by have:=h.len;have:=h.clk.fld.1;omega
theorem mN.has {k:bW} (h:mN k): ∀x∈k.heap,lC k.clock.field.points x:=fun _ hx=>pJ.1 (h.perm.mem_iff.2 hx)
theorem mN.nd {k:bW} (h:mN k):k.heap.Nodup:=h.perm.nodup_iff.1 (mM h.clk.fld.2.2)
theorem mN.hp {k:bW} (h:mN k):Hp (LF k.clock.field.points k.clock.now) k.heap:=(Q5 h.clk.fld.2.2 h.has h.nd).1 h.lead
abbrev noK:bW:=⟨gE,[]⟩
theorem LG {c:aR} (ok:bM c) {f:List Pt} (fok:cC f) {l:List Int} (pm:(pM f).Perm l):
 ∃R:bW×Int,bH c ⟨f⟩ l=some R/\(R=(noK,18)\/R.2=0/\R.1.heap=l/\Q0 c f (dQ l) R.1.clock)/\(f=c.field.points->(c.certs.list.map fun x=>x.2).Perm (dQ l)->R=(⟨c,l⟩,0)):=by
 have f1:=fok.1;have ln:l.length=f.length:=by rw [<- pm.length_eq];exact List.length_map ..
 have eok:=YZ fok pm;have nd:=pm.nodup_iff.1 (mM fok.2.2);obtain ⟨r,r1,r2,r3⟩:=aK5 ok fok eok;have ee:pK f (dQ l)=0:=by
  unfold pK;rw [if_neg (Classical.not_not.2 eok.cv),if_neg (Classical.not_not.2 (EB nd)),if_neg (fun h=>h eok.kn)]
 have rn:=O6 ok fok (es:=dQ l) (by rw [lO];omega) (fun _=>r1)
 rw [if_pos ee] at rn;rcases r3 with ⟨q0,q⟩|he
 · refine ⟨(⟨r.1,l⟩,0),?_,.inr ⟨rfl,rfl,q⟩,fun hf hc=>?_⟩
   · unfold bH
     rw [EE l (by omega),aD,rn,aD,q0];rfl
   · subst hf
     have:=O9 ok eok hc
     have e:r=(c,0):=Option.some.inj (r1.symm.trans this);rw [e]
 · refine ⟨(noK,18),?_,.inl rfl,fun hf hc=>?_⟩
   · unfold bH
     rw [EE l (by omega),aD,rn,aD,he];rfl
   · subst hf
     have:=O9 ok eok hc
     have e:r=(c,0):=Option.some.inj (r1.symm.trans this);rw [he] at e;cases e
theorem Q0.heap {c:aR} {f:List Pt} (fok:cC f) {l:List Int} (pm:(pM f).Perm l) {R:bW} (e:R.heap=l) (q:Q0 c f (dQ l) R.clock) (h:Hp (LF f c.now) l):TF R f c.now:=by
 have nd:=pm.nodup_iff.1 (mM fok.2.2);refine ⟨⟨q.ok,by rw [q.fld,e];exact pm,?_,?_⟩,q.fld,q.now⟩
 · rw [e]
   exact WU (LD q.ok.crt) (EB nd) (fun x hx=>by obtain ⟨y,hy,rfl⟩:=List.mem_map.1 hx;exact q.sub y hy) (fun x hx=>vQ.1 (q.has x hx))
 · rw [e,q.fld,q.now]
   exact (Q5 fok.2.2 (fun x hx=>pJ.1 (pm.mem_iff.2 hx)) nd).2 h
noncomputable def setR (c:aR) (f:List Pt) (l:List Int):bW×Int:=(bH c ⟨f⟩ l).getD (noK,0)
theorem TG {c:aR} (ok:bM c) {f:List Pt} (fok:cC f) {l:List Int} (pm:(pM f).Perm l):bH c ⟨f⟩ l=some (setR c f l):=by
 obtain ⟨R,h,_⟩:=LG ok fok pm;unfold setR;rw [h];rfl
theorem PA {c:aR} (ok:bM c) {f:List Pt} (fok:cC f) {l:List Int} (pm:(pM f).Perm l) (hh:Hp (LF f c.now) l):
 (setR c f l=(noK,18)\/(setR c f l).2=0/\TF (setR c f l).1 f c.now/\(setR c f l).1.heap=l)/\(f=c.field.points->(c.certs.list.map fun x=>x.2).Perm (dQ l)->setR c f l=(⟨c,l⟩,0)):=by
 obtain ⟨R,h,k1,k2⟩:=LG ok fok pm;have e:setR c f l=R:=by unfold setR;rw [h];rfl
 rw [e];exact ⟨k1.imp id fun ⟨a,b,d⟩=>⟨a,d.heap fok pm b hh,b⟩,k2⟩
theorem aLd {f:List Pt} {q:Nat} (hq:q<f.length) {p:Pt} (he:(f[q]!).1=p.1):pM (f.set q p)=pM f:=by
 unfold pM;rw [List.map_set,<- he];refine List.ext_getElem? fun j=>?_
 rw [List.getElem?_set];split
 · rename_i h
   subst h;rw [if_pos (by rw [List.length_map];exact hq),List.getElem?_map,List.getElem?_eq_getElem hq,getElem!_pos _ q hq];rfl
 · rfl
theorem WV {k:bW} (ok:mN k) (p:Pt):(∃e:Int,e≠0/\eX k.clock.field p=some (⟨[]⟩,e)/\kZ k p=some (noK,e))\/
 ∃q,q<k.clock.field.points.length/\(k.clock.field.points[q]!).1=p.1/\gY p/\eX k.clock.field p=some (⟨k.clock.field.points.set q p⟩,0)/\
  ∃R:bW×Int,kZ k p=some R/\(R=(noK,18)\/R.2=0/\TF R.1 (k.clock.field.points.set q p) k.clock.now)/\(k.clock.field.points.set q p=k.clock.field.points->R=(k,0)):=by
 have c1:=EC ok.clk.fit (show k.heap.length<=1000 by have:=ok.bd;omega)
 rw [if_pos ok] at c1;have hl:=ok.bd;have fok:=ok.clk.fld;have f1:=fok.1;rcases I7 fok p with ⟨e,e0,t1,_⟩|⟨q,hq,he,po,t1,_⟩
 · have t1:eX k.clock.field p=some (⟨[]⟩,e):=t1
   refine .inl ⟨e,e0,t1,?_⟩;unfold kZ;rw [c1,aD,cL rfl,cond_false,t1,aD,fI e0,cond_true]
 have t1:eX k.clock.field p=some (⟨k.clock.field.points.set q p⟩,0):=t1;have fok':=aD7 fok po hq he;have oth: ∀x,lC k.clock.field.points x->x≠p.1->bC (k.clock.field.points.set q p) x=bC k.clock.field.points x:=fun x hx hne=>by
  refine Q4 fok.2.2 fok'.2.2 hx ?_;obtain ⟨i,hi,rfl⟩:=hx;rw [FE fok.2.2 hi rfl];refine aW.2 ⟨i,by rw [List.length_set];exact hi,?_⟩
  rw [bG,if_neg (fun h=>hne (by rw [h.1];exact he))]
 have hn:=ok.len;have pm:(pM (k.clock.field.points.set q p)).Perm k.heap:=by rw [aLd hq he];exact ok.perm
 have hidm:p.1∈k.heap:=ok.perm.mem_iff.1 (pJ.2 ⟨q,hq,he⟩);obtain ⟨a,a1,a2,a3,_⟩:=KI (l:=k.heap) (by omega) hidm
 have lo:mP (k.clock.field.points.set q p) k.heap.length k.heap:=⟨rfl,by omega,fun y hy=>pJ.1 (pm.mem_iff.2 hy),pm.nodup_iff.1 (mM fok'.2.2)⟩
 have go:=aUe (k:=k) (P:=p) ⟨ok.clk,fok'⟩ (c0:=k.heap) rfl (R:=setR k.clock (k.clock.field.points.set q p)) (l0:=k.heap) (fun l hl=>TG ok.clk fok' (pm.trans hl.symm)) a k.heap a1 lo (List.Perm.refl _)
 have pr:=G7 (k.clock.field.points.set q p) k.clock.now a k.heap a1;have ri:=(O4 (k.clock.field.points.set q p) k.clock.now a k.heap a1).1;have pk:=(O5 (k.clock.field.points.set q p) k.clock.now _ (pN (k.clock.field.points.set q p) k.clock.now a k.heap) (vR (k.clock.field.points.set q p) k.clock.now a k.heap) (Nat.le_refl _) (by rw [pr.length_eq];exact ri)).trans pr
 have nea: ∀j,j<k.heap.length->j≠a->k.heap[j]!≠p.1:=fun j hj hne e=>by
  rcases Nat.lt_trichotomy j a with c|c|c
  · exact bR.1 ok.nd j a c a1 (e.trans a2.symm)
  · exact hne c
  · exact bR.1 ok.nd a j c hj (a2.trans e.symm)
 have hh:=LE (FG fok'.2.2 k.clock.now) (P:=LF (k.clock.field.points.set q p) k.clock.now) (fun _ _=>Iff.rfl) lo.hp a1 (fun j j1 j2 j3 j4=>by
  have q2:par j<k.heap.length:=by simp only [par];omega
  show¬bI _ _ _
  rw [oth _ (ok.has _ (aQ j2)) (nea j j2 j3),oth _ (ok.has _ (aQ q2)) (nea _ q2 j4)];exact ok.hp j j1 j2) (fun j j1 j2 j3 j4=>by
  have q2:par a<k.heap.length:=by simp only [par];omega
  have n1:j≠a:=by simp only [par] at j3;omega
  have n2:par a≠a:=by simp only [par];omega
  show¬bI _ _ _
  rw [oth _ (ok.has _ (aQ j2)) (nea j j2 n1),oth _ (ok.has _ (aQ q2)) (nea _ q2 n2)];have h1:=ok.hp j j1 j2;rw [j3] at h1;exact (FG fok.2.2 k.clock.now).ntr (ok.has _ (aQ j2)) (ok.has _ (aQ a1)) (ok.has _ (aQ q2)) h1 (ok.hp a j4 a1))
 obtain ⟨s1,s2⟩:=PA ok.clk fok' (pm.trans pk.symm) hh;refine .inr ⟨q,hq,he,po,t1,_,?_,s1.imp id fun h=>⟨h.1,h.2.1⟩,fun hF=>?_⟩
 · unfold kZ
   simp only [c1,aD,show ((0:Int) !=0)=false from rfl,cond_false,t1,bE (show k.heap.length<=1048576 by omega),beq_self_eq_true,cond_true,a3]
   exact go
 · have so:=FG (f:=k.clock.field.points.set q p) fok'.2.2 k.clock.now
   have e0:Hp (LF (k.clock.field.points.set q p) k.clock.now) k.heap:=by rw [hF];exact ok.hp
   obtain ⟨e1,e2⟩:=Q2 (f:=k.clock.field.points.set q p) (t:=k.clock.now) (l:=k.heap) (i:=a) (fun h0=>e0 a h0 a1)
   have e3:=Q3 so (fun _ _=>Iff.rfl) (f:=k.clock.field.points.set q p) (t:=k.clock.now) (fun j hj=>lo.hp _ (aQ hj)) e0 a1
   rw [e1,e2,e3] at s2 ⊢;exact s2 hF ok.cert
theorem aBR {k:bW} (ok:mN k) (id:Int):(¬lC k.clock.field.points id/\lH k.clock.field id=some (⟨[]⟩,6)/\nJ k id=some (noK,6))\/
 ∃q,q<k.clock.field.points.length/\(k.clock.field.points[q]!).1=id/\lH k.clock.field id=some (⟨k.clock.field.points.eraseIdx q⟩,0)/\
  ∃R:bW×Int,nJ k id=some R/\(R=(noK,18)\/R.2=0/\TF R.1 (k.clock.field.points.eraseIdx q) k.clock.now):=by
 have c1:=EC ok.clk.fit (show k.heap.length<=1000 by have:=ok.bd;omega)
 rw [if_pos ok] at c1;have hl:=ok.bd;have fok:=ok.clk.fld;have f1:=fok.1
 by_cases hid:lC k.clock.field.points id
 case neg=>
  obtain ⟨t1,_⟩:=TE fok hid;have t1:lH k.clock.field id=some (⟨[]⟩,6):=t1;refine .inl ⟨hid,t1,?_⟩;unfold nJ;rw [c1,aD,cL rfl,cond_false,t1];rfl
 have hidm:=ok.perm.mem_iff.1 (pJ.2 hid);obtain ⟨q,hq,rfl⟩:=hid;obtain ⟨t1,_⟩:=Y2 fok hq;have t1:lH k.clock.field (k.clock.field.points[q]!).1=some (⟨k.clock.field.points.eraseIdx q⟩,0):=t1;have fok':=aD6 fok q;have fl:(k.clock.field.points.eraseIdx q).length=k.clock.field.points.length-1:=L9 hq;have hn:=ok.len;have nd:=ok.nd
 have oth: ∀x,lC k.clock.field.points x->x≠(k.clock.field.points[q]!).1->bC (k.clock.field.points.eraseIdx q) x=bC k.clock.field.points x:=fun x hx hne=>by
  obtain ⟨y1,y2⟩:=zJ fok.2.2 hx;exact Q4 fok.2.2 fok'.2.2 hx ((FF fok.2.2 hq).2 ⟨y1,by rw [y2];exact hne⟩)
 obtain ⟨a,a1,a2,a3,_⟩:=KI (l:=k.heap) (by omega) hidm
 have lst:k.heap.length-1<k.heap.length:=by omega
 have ew:aA .i64 ((k.heap.length:Int) -1)=((k.heap.length-1:Nat):Int):=wZ (by omega) (by omega)
 have ga:=aB k.heap a a1;have gl:=aB k.heap (k.heap.length-1) lst;have nea: ∀j,j<k.heap.length->j≠a->k.heap[j]!≠(k.clock.field.points[q]!).1:=fun j hj hne e=>by
  rcases Nat.lt_trichotomy j a with c|c|c
  · exact bR.1 ok.nd j a c a1 (e.trans a2.symm)
  · exact hne c
  · exact bR.1 ok.nd a j c hj (a2.trans e.symm)
 generalize hL:k.heap.set a k.heap[k.heap.length-1]! =L;have Ll:L.length=k.heap.length:=by rw [<- hL,List.length_set]
 generalize hm:k.heap.length-1=m at*;have em:L=L.take m++[L[m]!]:=by
  have:=VT (l:=L) (i:=m) (by omega)
  rw [List.drop_of_length_le (by omega)] at this
  exact this
 have ll:(L.take m).length=m:=by rw [List.length_take];omega
 have bl: ∀j,j<m->(L.take m)[j]! =if j=a then k.heap[m]! else k.heap[j]!:=fun j hj=>by
  have:(L.take m)[j]! =L[j]!:=by rw [List.getElem!_eq_getElem?_getD,List.getElem!_eq_getElem?_getD,List.getElem?_take_of_lt hj]
  rw [this,<- hL,bG]
  by_cases c:j=a
  · rw [if_pos ⟨c,a1⟩,if_pos c]
  · rw [if_neg (fun h=>c h.1),if_neg c]
 have ps:(L.take m++[(k.clock.field.points[q]!).1]).Perm k.heap:=by
  have e:iB k.heap a m=L.take m++[(k.clock.field.points[q]!).1]:=by
   unfold iB;rw [hL,a2,List.set_eq_take_append_cons_drop,if_pos (by omega),List.drop_of_length_le (by omega)]
  rw [<- e];exact mO a1 (by omega)
 have pm:(pM (k.clock.field.points.eraseIdx q)).Perm (L.take m):=by
  refine qO (mM fok'.2.2) (fun y hy=>?_) (by rw [ll];show m<=(List.map _ _).length;rw [List.length_map];omega)
  obtain ⟨p,hp,rfl⟩:=List.mem_map.1 hy;obtain ⟨h1,h2⟩:=(FF fok.2.2 hq).1 hp
  have:=ps.mem_iff.2 (ok.perm.mem_iff.1 (List.mem_map.2 ⟨p,h1,rfl⟩))
  rcases List.mem_append.1 this with h|h
  · exact h
  · exact absurd (List.mem_singleton.1 h) h2
 have lo:mP (k.clock.field.points.eraseIdx q) m (L.take m):=⟨ll,by omega,fun y hy=>pJ.1 (pm.mem_iff.2 hy),pm.nodup_iff.1 (mM fok'.2.2)⟩
 have tok:qQ k (k.clock.field.points.eraseIdx q):=⟨ok.clk,fok'⟩;have s1:jR L 0 (m:Int)=some (L.take m):=oC L m (by omega)
 have cl:bX k.heap=some k.heap:=bE (by omega)
 by_cases ha:a<m
 · have go:=aT9 (k:=k) (n0:=k.heap.length) (x:=L[m]!) tok (c0:=k.heap) (c1:=a) (c2:=k.heap[m]!) (by omega) (R:=setR k.clock (k.clock.field.points.eraseIdx q)) (l0:=L.take m) (fun l hl=>TG ok.clk fok' (pm.trans hl.symm)) a (L.take m) ha lo (List.Perm.refl _)
   rw [<- em] at go;have pr:=G7 (k.clock.field.points.eraseIdx q) k.clock.now a (L.take m) (by omega)
   have ri:=(O4 (k.clock.field.points.eraseIdx q) k.clock.now a (L.take m) (by omega)).1
   have pk:=(O5 (k.clock.field.points.eraseIdx q) k.clock.now _ (pN (k.clock.field.points.eraseIdx q) k.clock.now a (L.take m)) (vR (k.clock.field.points.eraseIdx q) k.clock.now a (L.take m)) (Nat.le_refl _) (by rw [pr.length_eq];exact ri)).trans pr
   have hh:=LE (FG fok'.2.2 k.clock.now) (P:=LF (k.clock.field.points.eraseIdx q) k.clock.now) (l:=L.take m) (a:=a) (fun _ _=>Iff.rfl) lo.hp (by omega) (fun j j1 j2 j3 j4=>by
    rw [ll] at j2;have q2:par j<m:=by simp only [par];omega
    rw [bl j j2,bl _ q2,if_neg j3,if_neg j4]
    show¬bI _ _ _
    rw [oth _ (ok.has _ (aQ (by omega))) (nea j (by omega) j3),oth _ (ok.has _ (aQ (by omega))) (nea _ (by omega) j4)]
    exact ok.hp j j1 (by omega)) (fun j j1 j2 j3 j4=>by
    rw [ll] at j2;have q2:par a<m:=by simp only [par];omega
    have n1:j≠a:=by simp only [par] at j3;omega
    have n2:par a≠a:=by simp only [par];omega
    rw [bl j j2,bl _ q2,if_neg n1,if_neg n2]
    show¬bI _ _ _
    rw [oth _ (ok.has _ (aQ (by omega))) (nea j (by omega) n1),oth _ (ok.has _ (aQ (by omega))) (nea _ (by omega) n2)]
    have h1:=ok.hp j j1 (by omega)
    rw [j3] at h1;exact (FG fok.2.2 k.clock.now).ntr (ok.has _ (aQ (by omega))) (ok.has _ (aQ a1)) (ok.has _ (aQ (by omega))) h1 (ok.hp a j4 a1))
   refine .inr ⟨q,hq,rfl,t1,_,?_,((PA ok.clk fok' (pm.trans pk.symm) hh).1).imp id fun h=>⟨h.1,h.2.1⟩⟩
   unfold nJ;rw [c1,aD,cL rfl,cond_false,t1,aD,cL rfl,cond_false,cl,aD,a3,aD];simp only [aF,ew,gl,aD,ga,eO,hL,s1,aP (show (a:Int)<(m:Int) by omega),cond_true,beq_self_eq_true]
   rw [show ((m:Nat):Int).toNat=m from Int.toNat_natCast m,Ll];exact go
 · have hh:Hp (LF (k.clock.field.points.eraseIdx q) k.clock.now) (L.take m):=fun j j1 j2=>by
    rw [ll] at j2;have q2:par j<m:=by simp only [par];omega
    rw [bl j j2,bl _ q2,if_neg (by omega),if_neg (by omega)]
    show¬bI _ _ _
    rw [oth _ (ok.has _ (aQ (by omega))) (nea j (by omega) (by omega)),oth _ (ok.has _ (aQ (by omega))) (nea _ (by omega) (by omega))]
    exact ok.hp j j1 (by omega)
   refine .inr ⟨q,hq,rfl,t1,_,?_,((PA ok.clk fok' pm hh).1).imp id fun h=>⟨h.1,h.2.1⟩⟩
   unfold nJ;rw [c1,aD,cL rfl,cond_false,t1,aD,cL rfl,cond_false,cl,aD,a3,aD];simp only [aF,ew,gl,aD,ga,eO,hL,s1,aL (show¬(a:Int)<(m:Int) by omega),cond_false]
   rw [show ((m:Nat):Int).toNat=m from Int.toNat_natCast m,TG ok.clk fok' pm,aD]
section
variable {f : List Pt} {t : Int × Int}
abbrev sQ (t:Int×Int) (p q:Pt):Prop:=bI p q t
theorem aEb {f:List Pt} (hs:gM f) (t:Int×Int):SOA (sQ t) (fun p=>p∈f) where
 irr:=fun a _ h=>mY h h
 tr:=fun _ _ _ _ _ _ h k=>zI h k
 ntr:=fun a b c ha hb hc h1 h2 h=>by
  by_cases e:b.1=c.1
  · have:b=c:=by rw [<- BB hs hb,<- BB hs hc,e]
    exact h1 (this▸h)
  · rcases Classical.em (bI b c t) with k|k
    · exact h2 k
    · exact h1 (zI h (rI t e k))
theorem aEc (hs:gM f) {l:List Pt} (p:l.Perm f) {i j:Nat} (hi:i<l.length) (hj:j<l.length) (hne:i≠j):(l[i]!).1≠(l[j]!).1:=by
 have nd:(pM l).Nodup:=(p.map fun x:Pt=>x.1).nodup_iff.2 (mM hs)
 intro e;have b: ∀k,k<l.length->(pM l)[k]! =(l[k]!).1:=fun k hk=>by
  unfold pM;rw [getElem!_pos _ k (by rw [List.length_map];exact hk),List.getElem_map,getElem!_pos l k hk]
 have ll:(pM l).length=l.length:=List.length_map ..;rcases Nat.lt_trichotomy i j with c|c|c
 · exact bR.1 nd i j c (by omega) (by rw [b i hi,b j hj];exact e)
 · exact hne c
 · exact bR.1 nd j i c (by omega) (by rw [b i hi,b j hj];exact e.symm)
def i1S (n i j:Nat) (l:List Pt) (t:Int×Int):=((0:Int),(n:Int),(i:Int),(j:Int),l,t.1,t.2)
def i2S (n i:Nat) (l:List Pt) (t:Int×Int):=((0:Int),(n:Int),(i:Int),l,t.1,t.2)
theorem aEd (fok:cC f) (r:cM t) (r64:sS t) {n:Nat} (hn:n<=64): ∀(j i:Nat) (l:List Pt),l.Perm f->l.length=n->j<=i->i<n->
 aI aZ (i1S n i j l t)=some (.next (i2S n (i+1) (PH (sQ t) j l) t)):=by
 intro j
 induction j with
 |zero=>
  intro i l p hl hj hi;refine aJ ?_;unfold aZ i1S i2S;simp only [aL (show¬(0:Int)<((0:Nat):Int) by omega),cond_false,bF (show i<1000000000 by omega),PH]
 |succ j ih=>
  intro i l p hl hj hi;have h1:j+1<l.length:=by omega
  have h0:j<l.length:=by omega
  have m1:=p.mem_iff.1 (aQ h1);have m0:=p.mem_iff.1 (aQ h0);have ne:=aEc fok.2.2 p h1 h0 (by omega)
  have ah:eL l[j+1]! l[j]! (t.1,t.2)=some (decide (bI l[j+1]! l[j]! t),0):=by
   rcases wD (fok.2.1 _ m1) (fok.2.1 _ m0) r64 r with h|⟨h,_⟩
   · rw [show ((t.1,t.2):Int×Int)=t from rfl,h,if_neg ne]
   · exact absurd h ne
  have wp:aA .i64 (((j+1:Nat):Int) -1)=(j:Int):=by rw [fT ⟨by omega,by omega⟩];omega
  have g1:=aB l (j+1) h1;have g0:=aB l j h0;have gs:aH (bN l ((j+1:Nat):Int) l[j]!) (j:Int)=some ((bN l ((j+1:Nat):Int) l[j]!)[j]!):=aB _ j (by rw [AR];exact h0)
  have nb:((l[j+1]!).1==(l[j]!).1)=false:=by simpa using ne
  by_cases c:bI l[j+1]! l[j]! t
  · have s1:aZ (i1S n i (j+1) l t)=some (.next (i1S n i j (IR l (j+1) j) t)):=by
     unfold aZ i1S;simp only [aP (show (0:Int)<((j+1:Nat):Int) by omega),cond_true,wp,g1,g0,aD,nb,cond_false,ah,aP c,beq_self_eq_true,gs]
     simp only [eO];rfl
    rw [aU s1];have pm:=(G0 h1 h0).trans p;rw [ih i (IR l (j+1) j) pm (by rw [J7];exact hl) (by omega) hi]
    conv=>rhs;unfold PH
    rw [if_pos (show sQ t l[j+1]! l[j]! from c)]
  · refine aJ ?_
    unfold aZ i1S;simp only [aP (show (0:Int)<((j+1:Nat):Int) by omega),cond_true,wp,g1,g0,aD,nb,cond_false,ah,aL c,beq_self_eq_true,bF (show i<1000000000 by omega)]
    unfold PH;rw [if_neg (show¬sQ t l[j+1]! l[j]! from c)];rfl
theorem aBS (fok:cC f) (r:cM t) (r64:sS t) {c0:Int×Int×List Pt×Int×Int} (hc:c0.2.2.1.length=f.length): ∀(d i:Nat),f.length-i<=d->i<=f.length->
 aI (bA c0) (i2S f.length i (D1 (sQ t) f i) t)=some (D1 (sQ t) f f.length,t.1,t.2):=by
 have f1:=fok.1;intro d
 induction d with
 |zero=>
  intro i hd hi
  have:i=f.length:=by omega
  subst this;have le:=(xY (sQ t) f f.length (Nat.le_refl _)).length_eq;refine aJ ?_;unfold bA i2S;simp only [aL (show¬(f.length:Int)<(f.length:Int) by omega),cond_false,le,hc,beq_self_eq_true,cond_true]
 |succ d ih=>
  intro i hd hi
  by_cases e:i=f.length
  · exact ih i (by omega) hi
  · have pm:=xY (sQ t) f i hi
    have s1:bA c0 (i2S f.length i (D1 (sQ t) f i) t)=some (.next (i2S f.length (i+1) (D1 (sQ t) f (i+1)) t)):=by
     have:=aEd fok r r64 f1 i i _ pm pm.length_eq (Nat.le_refl _) (show i<f.length by omega)
     unfold bA;show (bif decide ((i:Int)<(f.length:Int)) then _ else _)=_
     rw [aP (show (i:Int)<(f.length:Int) by omega),cond_true]
     exact this
    rw [aU s1];exact ih (i+1) (by omega) (by omega)
theorem aEe (s:ByteArray) {n:Nat} (h:n<=12) (hs:12<s.size): ∃r,wH s (n:Int)=some r:=by
 show∃r,(s[n]?.map fun b=>(b.toNat:Int))=some r
 rw [getElem?_pos s n (show n<s.size by omega)]
 exact ⟨_,rfl⟩
set_option maxRecDepth 100000 in
theorem aUg {n:Nat} (h:n<=12): ∃r,uQ (n:Int)=some r:=by
 unfold uQ vZ;rw [aL (show¬4294967296<=(n:Int) by omega),cond_false,aL (show¬65536<=(n:Int) by omega),cond_false,aL (show¬256<=(n:Int) by omega),cond_false]
 have w8:aA .u8 (n:Int)=(n:Int):=by
  have:n=0\/n=1\/n=2\/n=3\/n=4\/n=5\/n=6\/n=7\/n=8\/n=9\/n=10\/n=11\/n=12:=by omega
  rcases this with rfl|rfl|rfl|rfl|rfl|rfl|rfl|rfl|rfl|rfl|rfl|rfl|rfl<;>rfl
 have key: ∀s:ByteArray,12<s.size-> ∃r,((wH s (aA .u8 (n:Int))).bind fun n7=>some (aA .i64 (0+aA .i64 n7))).bind (fun n0=>some n0)=some r:=fun s h12=>by
  obtain ⟨r,e⟩:=aEe s h h12;rw [w8,e];exact ⟨_,rfl⟩
 exact key _ (by decide)
theorem LU (fok:cC f) (r:cM t) (r64:sS t) (h12:f.length<=12): ∃L:List Pt,wY ⟨f⟩ t=some (L,0)/\L.Perm f/\J8 (sQ t) L f.length:=by
 have f1:=fok.1;obtain ⟨m,hm⟩:=aUg h12;have pm:=xY (sQ t) f f.length (Nat.le_refl _);refine ⟨D1 (sQ t) f f.length,?_,pm,N8 (aEb fok.2.2 t) (fun x hx=>hx) _ (Nat.le_refl _)⟩
 have ins:bT (0,(f.length:Int),f,t.1,t.2)=some (D1 (sQ t) f f.length,t.1,t.2):=by
  unfold bT
  by_cases h0:f.length=0
  · obtain rfl:f=[]:=List.length_eq_zero_iff.1 h0
    refine aJ ?_;unfold bA;rfl
  · refine Eq.trans ?_ (aBS fok r r64 (c0:=(0,(f.length:Int),f,t.1,t.2)) rfl f.length 1 (by omega) (by omega))
    have:D1 (sQ t) f 1=f:=rfl
    rw [this];rfl
 have pdq:bZ (0,(f.length:Int),m,f,t.1,t.2)=some (D1 (sQ t) f f.length,t.1,t.2):=by
  show cY (bP 999999) _=_;unfold cY;refine aJ ?_;unfold eY
  simp only [show aA .i64 ((f.length:Int) -0)=(f.length:Int) by rw [fT ⟨by omega,by omega⟩];omega,aP (show (f.length:Int)<=12 by omega),cond_true,ins,aD,pm.length_eq,beq_self_eq_true]
 have hc:dL ⟨f⟩=some 0:=by rw [gA];exact congrArg some (eV.2 fok)
 have ck:hH t=some 0:=by rw [gW r64,if_pos r]
 have wl:aA .u64 (Int.ofNat f.length)=(f.length:Int):=by
  show (Int.ofNat (Nat.mod f.length 18446744073709551616))=_;rw [show Nat.mod f.length 18446744073709551616=f.length from Nat.mod_eq_of_lt (by omega)];rfl
 unfold wY eF;simp only [hc,aD,show ((0:Int) !=0)=false from rfl,cond_false,ck,bE (show f.length<=1048576 by omega),wl,hm]
 rw [show bZ (0,Int.ofNat f.length,m,f,t)=_ from pdq];simp only [aD,pm.length_eq,beq_self_eq_true,cond_true]
end
theorem aEf {k:bW} (n:aD2 k.clock):AZ k=some false\/(AZ k=some true/\mN k/\k.clock.field.points.length<=10):=by
 unfold AZ;rcases Y0 k with e|⟨e,sh,hl⟩
 · rw [e];exact .inl rfl
 rw [e,aD];unfold GZ;rw [aD,Bool.not_false,cond_true]
 by_cases hm:10<Int.ofNat k.clock.field.points.length
 · rw [aP hm];exact .inl rfl
 · rw [aL hm,Bool.not_false,cond_true,O3 ⟨n.now,⟨sh.s3,sh.h,sh.w,n.at64⟩,sh.d⟩ (show k.heap.length<=1000 by omega),aD]
   by_cases ok:mN k
   · rw [if_pos ok];exact .inr ⟨rfl,ok,by rw [aF] at hm;omega⟩
   · rw [if_neg ok];exact .inl rfl
section
variable {f : List Pt} {t : Int × Int}
theorem EG (fok:cC f) (r:cM t) (r64:sS t) (h12:f.length<=12): ∃L:List Pt,iH ⟨f⟩ t=some (L.map (fun p:Pt=>p.1),0)/\L.Perm f/\J8 (sQ t) L f.length:=by
 have f1:=fok.1;obtain ⟨L,h1,h2,h3⟩:=LU fok r r64 h12;have le:=h2.length_eq;refine ⟨L,?_,h2,h3⟩;have mk:FP (L.length:Int) (0:Int)=some (List.replicate L.length 0):=by
  unfold FP;rw [if_pos ⟨by omega,by omega⟩,Int.toNat_natCast]
 let A:Nat->List Int:=fun j=>(L.take j).map (fun p:Pt=>p.1)++List.replicate (L.length-j) 0
 have Al: ∀j,j<=L.length->(A j).length=L.length:=fun j hj=>by
  show ((L.take j).map (fun p:Pt=>p.1)++List.replicate (L.length-j) 0).length=_
  rw [List.length_append,List.length_map,List.length_take,List.length_replicate];omega
 have st:=eU (body:=sM) (fun i=>(L,(L.length:Int),(i:Int),A i)) L.length (fun i hi=>by
  have g:=aB L i hi;have ga:=aB (A i) i (by rw [Al i (by omega)];exact hi)
  have e:(A i).set i (L[i]!).1=A (i+1):=by
   show ((L.take i).map (fun p:Pt=>p.1)++List.replicate (L.length-i) 0).set i (L[i]!).1=(L.take (i+1)).map (fun p:Pt=>p.1)++List.replicate (L.length- (i+1)) 0
   have li:((L.take i).map (fun p:Pt=>p.1)).length=i:=by rw [List.length_map,List.length_take];omega
   rw [List.set_append_right _ _ (by omega),li,Nat.sub_self,show L.length-i=(L.length- (i+1))+1 by omega,List.replicate_succ,List.set_cons_zero,iI hi,List.map_append,List.append_assoc]
   rfl
  unfold sM;simp only [aP (show (i:Int)<(L.length:Int) by omega),cond_true,g,ga,aD,eO,e,bF (show i<1000000000 by omega)])
 have A0:A 0=List.replicate L.length 0:=rfl;have An:A L.length=L.map (fun p:Pt=>p.1):=by
  show (L.take L.length).map (fun p:Pt=>p.1)++List.replicate (L.length-L.length) 0=_
  rw [List.take_length,Nat.sub_self,List.replicate_zero,List.append_nil]
 unfold iH;rw [h1,aD,show ((0:Int) !=0)=false from rfl,cond_false];simp only [aF,beq_self_eq_true,cond_true,mk,aD];rw [<- A0];refine (show _=_ from st).trans (aJ ?_);unfold sM;simp only [aL (show¬(L.length:Int)<(L.length:Int) by omega),cond_false,An]
theorem Y3 {L:List Pt} (pm:L.Perm f) (so:J8 (sQ t) L f.length) (h0:0<f.length):L[0]!∈f/\ ∀q∈f,¬bI q L[0]! t:=by
 have le:=pm.length_eq;refine ⟨pm.mem_iff.1 (aQ (by omega)),fun q hq=>?_⟩
 obtain ⟨i,hi,rfl⟩:=aW.1 (pm.mem_iff.2 hq)
 by_cases c:i=0
 · subst c;exact fun h=>mY h h
 · exact so 0 i (by omega) (by omega)
theorem aBT {L:List Pt} (pm:L.Perm f) (so:J8 (sQ t) L f.length) (h0:0<f.length):L[f.length-1]!∈f/\ ∀q∈f,¬bI L[f.length-1]! q t:=by
 have le:=pm.length_eq;refine ⟨pm.mem_iff.1 (aQ (by omega)),fun q hq=>?_⟩
 obtain ⟨i,hi,rfl⟩:=aW.1 (pm.mem_iff.2 hq)
 by_cases c:i=f.length-1
 · rw [c];exact fun h=>mY h h
 · exact so i (f.length-1) (by omega) (by omega)
theorem aBU {p q:Pt} (hp:p∈f) (hq:q∈f) (h1: ∀x∈f,¬bI x p t) (h2: ∀x∈f,¬bI x q t):p.1=q.1:=
 Classical.byContradiction fun c=>h2 p hp (rI t (fun e=>c e.symm) (h1 q hq))
theorem TF.first {R:bW} (h:TF R f t) (h0:0<f.length) {p:Pt} (hp:p∈f) (h1: ∀x∈f,¬bI x p t):R.heap[0]! =p.1:=by
 have ok:=h.ok;have fok:=ok.clk.fld;have ln:=ok.len;rw [h.fld] at ln fok;have hl:0<R.heap.length:=by omega
 have so:=FG fok.2.2 t;have hp':=ok.hp;have has:=ok.has;rw [h.fld] at hp' has;rw [h.now] at hp';have all: ∀j,j<R.heap.length-> ¬bI (bC f R.heap[j]!) (bC f R.heap[0]!) t:=by
  intro j
  induction j using Nat.strongRecOn with
  |ind j ih=>
   intro hj
   by_cases c:j=0
   · subst c;exact fun h=>mY h h
   · have hp:=hp' j (by omega) hj
     have hq:par j<R.heap.length:=by simp only [par];omega
     exact so.ntr (has _ (aQ hj)) (has _ (aQ hq)) (has _ (aQ hl)) hp (ih (par j) (by simp only [par];omega) hq)
 have h0m:=zJ fok.2.2 (has _ (aQ hl));have pm:=ok.perm;rw [h.fld] at pm;refine h0m.2.symm.trans (aBU h0m.1 hp (fun x hx=>?_) h1)
 obtain ⟨j,hj,ej⟩:=aW.1 (pm.mem_iff.1 (List.mem_map.2 ⟨x,hx,rfl⟩));have nl:=all j hj;have ej:R.heap[j]! =x.1:=ej;rw [ej,BB fok.2.2 hx] at nl;exact nl
theorem TF.leaf {R:bW} (h:TF R f t) {p:Pt} (hp:p∈f) (h1: ∀x∈f,¬bI p x t) {m:Nat} (e:R.heap[m]! =p.1): ¬2*m+1<R.heap.length:=by
 intro c;have ok:=h.ok;have fok:=ok.clk.fld;have hp':=ok.hp;have has:=ok.has;have nd:=ok.nd;rw [h.fld] at hp' has fok;rw [h.now] at hp';have q:=hp' (2*m+1) (by omega) c
 rw [show par (2*m+1)=m by simp only [par];omega,e] at q
 have km:=zJ fok.2.2 (has _ (aQ c));have q: ¬bI (bC f R.heap[2*m+1]!) (bC f p.1) t:=q;rw [BB fok.2.2 hp] at q;have ne:R.heap[2*m+1]!≠p.1:=fun z=>bR.1 nd m (2*m+1) (by omega) c (by rw [e,z])
 exact h1 _ km.1 (rI t (by rw [km.2];exact ne) q)
end
theorem I8 {k:bW} (ok:mN k) {q:Nat} (hq:q<k.clock.field.points.length) {p:Pt} (he:(k.clock.field.points[q]!).1=p.1) (po:gY p):
 gV k.clock.field p=some (⟨k.clock.field.points.set q p⟩,0)/\cC (k.clock.field.points.set q p)/\ ∃A:bW×Int,kZ k p=some A/\(A.2=18\/A.2=0/\TF A.1 (k.clock.field.points.set q p) k.clock.now):=by
 have fok:=ok.clk.fld;have f1:=fok.1;have hc:dL ⟨k.clock.field.points⟩=some 0:=by rw [gA];exact congrArg some (eV.2 fok)
 have hc2:jL ⟨k.clock.field.points⟩=some 0:=by rw [oV];exact congrArg some (eV.2 fok)
 have pl:=ED fok hq;rw [he] at pl;have r1:gV ⟨k.clock.field.points⟩ p=some (⟨k.clock.field.points.set q p⟩,0):=by
  unfold gV lE;rw [hc2,aD,cL rfl,cond_false,mL,if_pos po,aD,cL rfl,cond_false,A4 fok.2.2 (by omega) hq he,aD,aL (by omega),cond_false,bE (show k.clock.field.points.length<=1048576 by omega),aD,aD,aB _ q hq,aD,eO]
 have r2:eX ⟨k.clock.field.points⟩ p=some (⟨k.clock.field.points.set q p⟩,0):=by
  unfold eX;rw [hc,aD,cL rfl,cond_false,kM,if_pos po,aD,cL rfl,cond_false,pl,aD,cL rfl,cond_false,bE (show k.clock.field.points.length<=1048576 by omega),aD,aB _ q hq,aD,eO]
 have r2:eX k.clock.field p=some (⟨k.clock.field.points.set q p⟩,0):=r2;refine ⟨r1,aD7 fok po hq he,?_⟩;rcases WV ok p with ⟨e,e0,t1,_⟩|⟨q',hq',he',_,_,R,s1,s2,_⟩
 · rw [r2] at t1
   injection t1 with t1;injection t1 with _ t1;exact absurd t1.symm e0
 · have:q'=q:=CE fok.2.2 hq' hq (he'.trans he.symm)
   subst this;refine ⟨R,s1,?_⟩;rcases s2 with e|h
   · exact .inl (by rw [e])
   · exact .inr h
theorem C4 (k:bW) (p1:Int) (n:aD2 k.clock):tR k p1=some true:=by
 unfold tR;rw [aD];rcases aEf n with e|⟨e,ok,h10⟩
 · rw [e];rfl
 rw [e,aD,Bool.not_true,cond_false,show kU 0=some ((0:Int),(1:Int)) from rfl];simp only [aD]
 by_cases hn:k.clock.now=(0,1)
 case neg=>
  rw [show ((k.clock.now.1==0)&&(k.clock.now.2==1))=false from ?_]
  · rfl
  · rcases Classical.em (k.clock.now.1=0) with a|a
    · rw [eZ a,eM (fun b=>hn (Prod.ext a b))];rfl
    · rw [eM a];rfl
 have fok:=ok.clk.fld;have f1:=fok.1;rw [show ((k.clock.now.1==0)&&(k.clock.now.2==1))=true by rw [hn];rfl,Bool.not_true,cond_false]
 by_cases hid:lC k.clock.field.points p1
 case neg=>
  rw [show fO k.clock.field p1=_ from KG fok hid,aD];rfl
 obtain ⟨q,hq,he⟩:=hid;have rt:cM ((0:Int),(1:Int)):=by rw [<- hn];exact ok.clk.nowv
 have r64:sS ((0:Int),(1:Int)):=by rw [<- hn];exact ok.clk.now64
 rw [show fO k.clock.field p1=_ from A4 fok.2.2 (by omega) hq he,aD,aL (by omega),cond_false,cond_false]
 have pq:=fok.2.1 _ (aQ hq);have poA:gY (p1,1048576,1048576):=by unfold gY at pq ⊢;rw [he] at pq;dsimp only;omega
 have poB:gY (p1,-1048576,-1048576):=by unfold gY at pq ⊢;rw [he] at pq;dsimp only;omega
 obtain ⟨a1,fokA,A,a2,a3⟩:=I8 ok hq (p:=(p1,1048576,1048576)) he poA;obtain ⟨b1,fokB,B,b2,b3⟩:=I8 ok hq (p:=(p1,-1048576,-1048576)) he poB;rw [a1,aD,b1,aD,a2,aD,b2,aD];rw [hn] at a3 b3;have lA:(k.clock.field.points.set q (p1,1048576,1048576)).length=k.clock.field.points.length:=List.length_set
 have lB:(k.clock.field.points.set q (p1,-1048576,-1048576)).length=k.clock.field.points.length:=List.length_set;have mB:((p1,-1048576,-1048576):Pt)∈k.clock.field.points.set q (p1,-1048576,-1048576):=List.mem_set hq _;generalize k.clock.field.points.set q (p1,1048576,1048576)=FA at*;generalize k.clock.field.points.set q (p1,-1048576,-1048576)=FB at*;obtain ⟨A1,A2⟩:=A;obtain ⟨B1,B2⟩:=B
 dsimp only at a3 b3 ⊢;rcases a3 with rfl|⟨rfl,hA⟩
 · rcases b3 with rfl|⟨rfl,_⟩<;>rfl
 rcases b3 with rfl|⟨rfl,hB⟩
 · rfl
 obtain ⟨LA,oA,pA,sA⟩:=EG fokA rt r64 (by omega)
 obtain ⟨LB,oB,pB,sB⟩:=EG fokB rt r64 (by omega)
 have nA:0<FA.length:=by omega
 have nB:0<FB.length:=by omega
 have eA:=pA.length_eq;have eB:=pB.length_eq;have hlA:=hA.ok.len;have hlB:=hB.ok.len;rw [hA.fld] at hlA;rw [hB.fld] at hlB;obtain ⟨fA1,fA2⟩:=Y3 pA sA nA;obtain ⟨fB1,fB2⟩:=aBT pB sB nB;have top:=hA.first nA fA1 fA2
 have pmB:=hB.ok.perm;rw [hB.fld] at pmB;obtain ⟨m,m1,m2,_,m4⟩:=KI (l:=B1.heap) (x:=p1) (by omega) (pmB.mem_iff.1 (List.mem_map.2 ⟨_,mB,rfl⟩))
 have g0:aH (LA.map fun p:Pt=>p.1) 0=some (LA[0]!).1:=by
  have:=aB (LA.map fun p:Pt=>p.1) 0 (by rw [List.length_map];omega)
  rw [getElem!_pos _ 0 (by rw [List.length_map];omega),List.getElem_map,<- getElem!_pos LA 0 (by omega)] at this
  exact this
 have gB:aH (LB.map fun p:Pt=>p.1) (aA .i64 ((LB.length:Int) -1))=some (LB[FB.length-1]!).1:=by
  have:=aB (LB.map fun p:Pt=>p.1) (FB.length-1) (by rw [List.length_map];omega)
  rw [getElem!_pos _ (FB.length-1) (by rw [List.length_map];omega),List.getElem_map,<- getElem!_pos LB (FB.length-1) (by omega)] at this
  rw [fT ⟨by omega,by omega⟩,<- this]
  congr 1;omega
 have gh:aH A1.heap 0=some (LA[0]!).1:=by
  have:=aB A1.heap 0 (by omega)
  rw [top] at this;exact this
 have leaf:(LB[FB.length-1]!).1=p1->decide ((aA .i64 ((aA .i64 (2*(m:Int)))+1))<(B1.heap.length:Int))=false:=fun h=>by
  have:=hB.leaf fB1 fB2 (m:=m) (m2.trans h.symm)
  rw [fT (n:=2*(m:Int)) ⟨by omega,by omega⟩,fT ⟨by omega,by omega⟩]
  exact aL (by omega)
 have taken: ∃T:bW×Int,nJ A1 (LA[0]!).1=some T/\(T.2=18\/T.2=0/\T.1.heap.length=LA.length-1/\(1<LA.length->aH T.1.heap 0=aH (LA.map fun p:Pt=>p.1) 1)):=by
  rcases aBR hA.ok (LA[0]!).1 with ⟨h,_⟩|⟨j,hj,ej,_,T,t1,t2⟩
  · rw [hA.fld] at h
    exact absurd (pJ.1 (List.mem_map.2 ⟨_,fA1,rfl⟩)) h
  · rw [hA.fld,hA.now] at t2
    rw [hA.fld] at hj ej;refine ⟨T,t1,?_⟩;rcases t2 with e|⟨t0,hT⟩
    · exact .inl (by rw [e])
    · have hlT:=hT.ok.len
      rw [hT.fld,List.length_eraseIdx,if_pos hj] at hlT;refine .inr ⟨t0,by omega,fun h1=>?_⟩
      have hne:(LA[1]!).1≠(FA[j]!).1:=fun c=>by
       have nd:(LA.map fun p:Pt=>p.1).Nodup:=((pA.map fun p:Pt=>p.1).nodup_iff).2 (mM fokA.2.2)
       have:=bR.1 nd 0 1 (by omega) (by rw [List.length_map];exact h1)
       rw [getElem!_pos _ 0 (by rw [List.length_map];omega),getElem!_pos _ 1 (by rw [List.length_map];omega),List.getElem_map,List.getElem_map,<- getElem!_pos LA 0 (by omega),<- getElem!_pos LA 1 (by omega)] at this
       exact this (by rw [c,ej])
      have in1:LA[1]!∈FA:=pA.mem_iff.1 (aQ h1);have lead1: ∀x∈FA.eraseIdx j,¬bI x LA[1]! ((0:Int),(1:Int)):=fun x hx=>by
       obtain ⟨x1,x2⟩:=(FF fokA.2.2 hj).1 hx;obtain ⟨i,hi,rfl⟩:=aW.1 (pA.mem_iff.2 x1)
       by_cases c0:i=0
       · subst c0;exact absurd ej.symm x2
       · by_cases c1:i=1
         · subst c1;exact fun h=>mY h h
         · exact sA 1 i (by omega) (by omega)
      have tt:=hT.first (by rw [List.length_eraseIdx,if_pos hj];omega) ((FF fokA.2.2 hj).2 ⟨in1,hne⟩) lead1
      have ga:=aB T.1.heap 0 (by omega)
      have gb:=aB (LA.map fun p:Pt=>p.1) 1 (by rw [List.length_map];exact h1)
      rw [getElem!_pos _ 1 (by rw [List.length_map];omega),List.getElem_map,<- getElem!_pos LA 1 (by omega)] at gb
      rw [tt] at ga;exact (show aH T.1.heap 0=_ from ga).trans gb.symm
 obtain ⟨T,t1,t2⟩:=taken;have ck:hJ (p1,1048576,1048576)=some 0:=by rw [mL,if_pos poA]
 have z1:((Int.ofNat (LA.map fun p:Pt=>p.1).length)==0)=false:=by rw [List.length_map];exact eM (by rw [aF];omega)
 have z2:((Int.ofNat (LB.map fun p:Pt=>p.1).length) !=(Int.ofNat (LA.map fun p:Pt=>p.1).length))=false:=by rw [List.length_map,List.length_map];exact cL (by rw [aF,aF];omega)
 have z3:((Int.ofNat A1.heap.length) !=(Int.ofNat (LA.map fun p:Pt=>p.1).length))=false:=by rw [List.length_map];exact cL (by rw [aF,aF];omega)
 have last:(bif T.2 !=0 then (bif true then some (T.2==18) else some false) else
  bif true then
   bif (Int.ofNat (LA.map fun p:Pt=>p.1).length)==1 then
    bif (Int.ofNat T.1.heap.length)==0 then (hJ (p1,1048576,1048576)).bind fun n18=>some (n18==0)
    else
     bif decide (1<(Int.ofNat (LA.map fun p:Pt=>p.1).length)) then
      bif (Int.ofNat T.1.heap.length)==(aA .i64 ((Int.ofNat (LA.map fun p:Pt=>p.1).length) -1)) then
       (aH T.1.heap 0).bind fun n19=>(aH (LA.map fun p:Pt=>p.1) 1).bind fun n20=>bif n19==n20 then (hJ (p1,1048576,1048576)).bind fun n21=>some (n21==0) else some false
      else some false
     else some false
   else
    bif decide (1<(Int.ofNat (LA.map fun p:Pt=>p.1).length)) then
     bif (Int.ofNat T.1.heap.length)==(aA .i64 ((Int.ofNat (LA.map fun p:Pt=>p.1).length) -1)) then
      (aH T.1.heap 0).bind fun n22=>(aH (LA.map fun p:Pt=>p.1) 1).bind fun n23=>bif n22==n23 then (hJ (p1,1048576,1048576)).bind fun n24=>some (n24==0) else some false
     else some false
    else some false
  else some false)=some true:=by
  rcases t2 with e|⟨e,h1,h2⟩
  · rw [e];rfl
  · rw [e,List.length_map,aF,aF,show ((0:Int) !=0)=false from rfl,cond_false,cond_true]
    by_cases c:LA.length=1
    · rw [eZ (by omega),cond_true,eZ (by omega),cond_true,ck,aD];rfl
    · have c1:1<LA.length:=by omega
      have g1:=aB (LA.map fun p:Pt=>p.1) 1 (by rw [List.length_map];exact c1)
      have g1':aH (LA.map fun p:Pt=>p.1) 1=_:=g1
      rw [eM (by omega),cond_false,aP (by omega),cond_true,eZ (by rw [fT ⟨by omega,by omega⟩];omega),cond_true,h2 c1,g1',aD,aD,eZ rfl,cond_true,ck,aD];rfl
 have gB':aH (LB.map fun p:Pt=>p.1) (aA .i64 (Int.ofNat (LB.map fun p:Pt=>p.1).length-1))=some (LB[FB.length-1]!).1:=by rw [List.length_map,aF];exact gB
 have leaf:(LB[FB.length-1]!).1=p1->decide ((aA .i64 ((aA .i64 (2*(m:Int)))+1))<Int.ofNat B1.heap.length)=false:=leaf;have last:bO true p1 A1 (LA.map fun p:Pt=>p.1)=some true:=by
  unfold bO;rw [g0,aD,t1,aD];exact last
 simp only [show ((0:Int) !=0)=false from rfl,cond_false,show kU 0=some ((0:Int),(1:Int)) from rfl,oA,oB,aD,m4,z1,z2,z3,aL (show¬(m:Int)<0 by omega),g0,gh,gB']
 by_cases c1:(LA[0]!).1=p1
 · rw [eZ c1,cond_true,cL c1,cond_false]
   by_cases c2:(LB[FB.length-1]!).1=p1
   · rw [eZ c2,cond_true,leaf c2,cond_false];exact last
   · rw [eM c2,cond_false];exact last
 · rw [eM c1,cond_false]
   by_cases c2:(LB[FB.length-1]!).1=p1
   · rw [eZ c2,cond_true,leaf c2,cond_false];exact last
   · rw [eM c2,cond_false];exact last
theorem aD2.of {c:aR} (h1:RT.wf [.i .i64,.i .i64] c.now) (h2: ∀a∈c.agenda.heap,RT.wf [.i .i64,.i .i64,.i .i64,.i .i64,.i .i64] a):aD2 c where
 now:=⟨R4 h1.1,R4 h1.2⟩
 at64 w hw:=by
  have:=h2 (c.agenda.heap[w]!) (by rw [getElem!_pos c.agenda.heap w hw];exact List.getElem_mem hw)
  exact ⟨R4 this.1,R4 this.2.1⟩
end Go.Proofs.YtfejhjllooomlaaGreat
