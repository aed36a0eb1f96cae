/- Plain laws (4). -/
import Derived.Test.YtfejhjllooomlaaGreatCQM3
import Derived.Test.YtfejhjllooomlaaGreatCQS2
import Derived.Test.YtfejhjllooomlaaGreatCVm3
namespace Go.Proofs.YtfejhjllooomlaaGreat
open Go.Vm Classical
theorem X8 {f:List Pt} (fok:bX f) {l:List Int} (pm:(oK f).Perm l):IF f (dL l):=by
 have nd:=pm.nodup_iff.1 (nO fok.2.2);have f1:=fok.1;have ln:l.length=f.length:=by rw [<- pm.length_eq];exact List.length_map ..
 have hp: ∀e∈dL l,kY f e:=fun e he=>⟨oW.1 (pm.mem_iff.2 (JT he).1),oW.1 (pm.mem_iff.2 (JT he).2)⟩
 refine ⟨by rw [lA];omega,fun e he=>?_,hp⟩
 obtain ⟨⟨p1,p2⟩,q1,q2⟩:=And.intro (hU fok (hp e he).1) (hU fok (hp e he).2);have ne:=aDx nd he;unfold gS at p1 q1;unfold gA;omega
def gW (l:List Int) (i j:Nat):List Int:=(l.set i l[j]!).set j l[i]!
theorem kD {l:List Int} {i j:Nat} (hi:i<l.length) (hj:j<l.length):(gW l i j).Perm l:=by
 unfold gW;rw [getElem!_pos l i hi,getElem!_pos l j hj];exact List.set_set_perm hi hj
theorem aDA (l:List Int) (hl:l.length<=1000000):nJ l l=some true:=by
 unfold nJ;rw [bO rfl,cond_false]
 have:=cE (body:=oT) (fun i=>(l,l,(i:Int))) l.length (fun i hi=>by
  unfold oT;simp only [aF,aN (show (i:Int)<(l.length:Int) by omega),cond_true,aB l i hi,aC,bO rfl,cond_false,bA (show i<1000000000 by omega)])
 rw [show (l,l,(0:Int))=(l,l,((0:Nat):Int)) from rfl,this];refine aI ?_;unfold oT;simp only [aF,aL (show¬(l.length:Int)<(l.length:Int) by omega),cond_false]
theorem aBm {k:bM} (sh:P8 k.clock) (hl:k.heap.length<=1000000):mT k k=some true:=by
 unfold mT;rw [X7 sh,aC,cond_true,aDA _ hl,aC]
theorem X9 (k:bM):uZ k=some true\/(uZ k=some false/\P8 k.clock/\k.heap.length<=70):=by
 unfold uZ
 rcases VQ k.clock with e|⟨e,sh⟩
 · rw [e];exact .inl rfl
 rw [e,aC,cond_false,aF]
 by_cases h:70<k.heap.length
 · rw [aN (by omega)];exact .inl rfl
 · rw [aL (by omega)];exact .inr ⟨rfl,sh,by omega⟩
end Go.Proofs.YtfejhjllooomlaaGreat
namespace Go.Proofs.YtfejhjllooomlaaGreat
open Go.Vm Classical
theorem SH {i:Nat} (hi:i<1000000000) (h0:0<i):aA .i64 (Int.tdiv (aA .i64 ((i:Int) -1)) 2)=(((i-1) / 2:Nat):Int):=by
 rw [show aA .i64 ((i:Int) -1)=((i-1:Nat):Int) from wI hi h0,Int.tdiv_eq_ediv_of_nonneg (by omega),gM ⟨by omega,by omega⟩];omega
noncomputable def mH (f:List Pt) (t:Int×Int):Nat->List Int->List Int
 |0,l=>l
 |i+1,l=>if bK (bB f l[i+1]!) (bB f l[i / 2]!) t then mH f t (i / 2) (gW l (i+1) (i / 2)) else l
termination_by i=>i
decreasing_by omega
theorem B0 (f:List Pt) (t:Int×Int): ∀(i:Nat) (l:List Int),i<l.length->(mH f t i l).Perm l:=by
 intro i
 induction i using Nat.strongRecOn with
 |ind i ih=>
  intro l hi;cases i with
  |zero=>unfold mH;exact List.Perm.refl _
  |succ i=>
   unfold mH;split
   · have sp:=kD (l:=l) hi (show i / 2<l.length by omega)
     exact (ih (i / 2) (by omega) _ (by rw [sp.length_eq];omega)).trans sp
   · exact List.Perm.refl _
end Go.Proofs.YtfejhjllooomlaaGreat
namespace Go.Proofs.YtfejhjllooomlaaGreat
open Go.Vm Classical
theorem SI (p q:Pt) (t:Int×Int):PS p q t=(p.2.1*t.2+p.2.2*t.1) - (q.2.1*t.2+q.2.2*t.1):=by
 rw [aKi,Int.sub_mul,Int.sub_mul];omega
theorem KO {p q r:Pt} {t:Int×Int} (h1:bK p q t) (h2:bK q r t):bK p r t:=by
 unfold bK at*;rw [SI] at*;generalize p.2.1*t.2+p.2.2*t.1=a at*;generalize q.2.1*t.2+q.2.2*t.1=b at*;generalize r.2.1*t.2+r.2.2*t.1=c at*;omega
theorem DS {p q:Pt} (t:Int×Int) (h:p.1≠q.1) (hn: ¬bK p q t):bK q p t:=by
 unfold bK at*;rw [SI] at*;generalize p.2.1*t.2+p.2.2*t.1=a at*;generalize q.2.1*t.2+q.2.2*t.1=b at*;omega
theorem fA (l:List Int) (i j:Nat):(gW l i j).length=l.length:=by
 unfold gW;rw [List.length_set,List.length_set]
theorem YA (l:List Int) {i j:Nat} (hi:i<l.length) (hj:j<l.length):(gW l i j)[j]! =l[i]!:=by
 unfold gW;rw [bF,if_pos ⟨rfl,by rw [List.length_set];exact hj⟩]
noncomputable def vE (f:List Pt) (t:Int×Int):Nat->List Int->Nat
 |0,_=>0
 |i+1,l=>if bK (bB f l[i+1]!) (bB f l[i / 2]!) t then vE f t (i / 2) (gW l (i+1) (i / 2)) else i+1
termination_by i=>i
decreasing_by omega
theorem OE (f:List Pt) (t:Int×Int): ∀(i:Nat) (l:List Int),i<l.length->vE f t i l<l.length/\(mH f t i l)[vE f t i l]! =l[i]!:=by
 intro i
 induction i using Nat.strongRecOn with
 |ind i ih=>
  intro l hi;cases i with
  |zero=>unfold vE mH;exact ⟨hi,rfl⟩
  |succ i=>
   unfold vE mH;split
   · have hj:i / 2<l.length:=by omega
     obtain ⟨h1,h2⟩:=ih (i / 2) (by omega) (gW l (i+1) (i / 2)) (by rw [fA];exact hj)
     rw [fA] at h1;exact ⟨h1,by rw [h2,YA l hi hj]⟩
   · exact ⟨hi,rfl⟩
noncomputable def iU (f:List Pt) (t:Int×Int) (l:List Int) (i:Nat):Nat:=if 2*i+1<l.length/\bK (bB f l[2*i+1]!) (bB f l[i]!) t then 2*i+1 else i
noncomputable def cL (f:List Pt) (t:Int×Int) (l:List Int) (i:Nat):Nat:=if 2*i+2<l.length/\bK (bB f l[2*i+2]!) (bB f l[iU f t l i]!) t then 2*i+2 else iU f t l i
theorem jR (f:List Pt) (t:Int×Int) (l:List Int) (i:Nat):iU f t l i=i\/(iU f t l i=2*i+1/\2*i+1<l.length):=by
 unfold iU;split
 · rename_i h;exact .inr ⟨rfl,h.1⟩
 · exact .inl rfl
theorem oL (f:List Pt) (t:Int×Int) (l:List Int) (i:Nat):cL f t l i=i\/(i<cL f t l i/\cL f t l i<l.length):=by
 unfold cL;split
 · rename_i h;exact .inr ⟨by omega,h.1⟩
 · rcases jR f t l i with h|⟨h,k⟩
   · exact .inl h
   · exact .inr (by omega)
noncomputable def vR (f:List Pt) (t:Int×Int) (l:List Int) (i:Nat):List Int:=
 if h:i<cL f t l i/\cL f t l i<l.length then vR f t (gW l i (cL f t l i)) (cL f t l i) else l
termination_by l.length-i
decreasing_by rw [fA];omega
theorem qB {f:List Pt} {t:Int×Int} {l:List Int} {i:Nat} (h:cL f t l i=i):vR f t l i=l:=by
 unfold vR;rw [dif_neg (by omega)]
theorem AP {f:List Pt} {t:Int×Int} {l:List Int} {i:Nat} (h:cL f t l i≠i):vR f t l i=vR f t (gW l i (cL f t l i)) (cL f t l i):=by
 have:=oL f t l i
 conv=>lhs;unfold vR
 rw [dif_pos (by omega)]
theorem OF (f:List Pt) (t:Int×Int): ∀(d:Nat) (l:List Int) (i:Nat),l.length-i<=d->i<l.length->(vR f t l i).Perm l:=by
 intro d
 induction d with
 |zero=>intro l i h hi;omega
 |succ d ih=>
  intro l i h hi
  by_cases e:cL f t l i=i
  · rw [qB e]
  · have:=oL f t l i
    rw [AP e];exact (ih _ _ (by rw [fA];omega) (by rw [fA];omega)).trans (kD hi (by omega))
end Go.Proofs.YtfejhjllooomlaaGreat
namespace Go.Proofs.YtfejhjllooomlaaGreat
open Go.Vm Classical
structure SO (P:Int->Int->Prop) (S:Int->Prop):Prop where
 irr: ∀a,S a-> ¬P a a
 tr: ∀a b c,S a->S b->S c->P a b->P b c->P a c
 tot: ∀a b,S a->S b->a≠b->P a b\/P b a
abbrev par (j:Nat):Nat:=(j-1) / 2
def Hp (P:Int->Int->Prop) (l:List Int):Prop:= ∀j,0<j->j<l.length-> ¬P l[j]! l[par j]!
section
variable {P : Int -> Int -> Prop} {S : Int -> Prop}
theorem SO.asym (o:SO P S) {a b:Int} (ha:S a) (hb:S b) (h:P a b): ¬P b a:=fun k=>o.irr a ha (o.tr a b a ha hb ha h k)
theorem SO.ntr (o:SO P S) {a b c:Int} (ha:S a) (hb:S b) (hc:S c) (h1: ¬P a b) (h2: ¬P b c): ¬P a c:=fun h=>by
 by_cases e:b=c
 · exact h1 (e▸h)
 · rcases o.tot b c hb hc e with k|k
   · exact h2 k
   · exact h1 (o.tr a c b ha hc hb h k)
theorem SO.up (o:SO P S) {a b c:Int} (ha:S a) (hb:S b) (hc:S c) (h1:P b c) (h2: ¬P a c): ¬P a b:=fun h=>h2 (o.tr a b c ha hb hc h h1)
theorem oM (l:List Int) {i j:Nat} (hi:i<l.length) (hj:j<l.length) (k:Nat):(gW l i j)[k]! =if k=j then l[i]! else if k=i then l[j]! else l[k]!:=by
 unfold gW;rw [bF,List.length_set,bF]
 by_cases c:k=j
 · rw [if_pos ⟨c,hj⟩,if_pos c]
 · rw [if_neg (fun h=>c h.1),if_neg c]
   by_cases d:k=i
   · rw [if_pos ⟨d,hi⟩,if_pos d]
   · rw [if_neg (fun h=>d h.1),if_neg d]
structure aAc (P:Int->Int->Prop) (l:List Int) (i:Nat):Prop where
 lt:i<l.length
 el: ∀j,0<j->j<l.length->j≠i-> ¬P l[j]! l[par j]!
 gr: ∀j,0<j->j<l.length->par j=i->0<i-> ¬P l[j]! l[par i]!
theorem P9 (o:SO P S) {f:List Pt} {t:Int×Int} (hP: ∀a b,P a b↔bK (bB f a) (bB f b) t): ∀(i:Nat) (l:List Int),(∀x∈l,S x)->aAc P l i->Hp P (mH f t i l):=by
 intro i
 induction i using Nat.strongRecOn with
 |ind i ih=>
  intro l hS v;have sm: ∀j,j<l.length->S l[j]!:=fun j hj=>hS _ (aR hj)
  cases i with
  |zero=>unfold mH;exact fun j h1 h2=>v.el j h1 h2 (by omega)
  |succ i=>
   have hi:=v.lt;have hp:i / 2<l.length:=by omega
   have pe:par (i+1)=i / 2:=by simp only [par];omega
   unfold mH;split
   · rename_i hc
     have hc:P l[i+1]! l[i / 2]!:=(hP _ _).2 hc;refine ih (i / 2) (by omega) _ (fun x hx=>hS x ((kD hi hp).mem_iff.1 hx)) ⟨by rw [fA];exact hp,fun j h1 h2 h3=>?_,fun j h1 h2 h3 h4=>?_⟩
     · rw [fA] at h2
       rw [oM l hi hp,oM l hi hp,if_neg h3]
       by_cases a:j=i+1
       · subst a
         rw [if_pos rfl,pe,if_pos rfl];exact o.asym (sm _ hi) (sm _ hp) hc
       · rw [if_neg a]
         by_cases b:par j=i / 2
         · rw [b,if_pos rfl]
           have:=v.el j h1 h2 a
           rw [b] at this;exact o.up (sm _ h2) (sm _ hi) (sm _ hp) hc this
         · rw [if_neg b]
           by_cases d:par j=i+1
           · rw [if_pos d]
             have:=v.gr j h1 h2 d (by omega)
             rw [pe] at this;exact this
           · rw [if_neg d];exact v.el j h1 h2 a
     · rw [fA] at h2
       have hq:par (i / 2)<l.length:=by simp only [par];omega
       have ne1:par (i / 2)≠i / 2:=by simp only [par];omega
       have ne2:par (i / 2)≠i+1:=by simp only [par];omega
       rw [oM l hi hp,oM l hi hp,if_neg ne1,if_neg ne2,if_neg (by simp only [par] at h3;omega)]
       have gp:=v.el (i / 2) h4 hp (by omega)
       by_cases a:j=i+1
       · rw [if_pos a];exact gp
       · rw [if_neg a]
         have:=v.el j h1 h2 a
         rw [h3] at this;exact o.ntr (sm _ h2) (sm _ hp) (sm _ hq) this gp
   · rename_i hc
     have hc: ¬P l[i+1]! l[i / 2]!:=fun h=>hc ((hP _ _).1 h)
     intro j h1 h2
     by_cases a:j=i+1
     · subst a;rw [pe];exact hc
     · exact v.el j h1 h2 a
structure aKm (P:Int->Int->Prop) (l:List Int) (i:Nat):Prop where
 lt:i<l.length
 el: ∀j,0<j->j<l.length->par j≠i-> ¬P l[j]! l[par j]!
 gr: ∀j,0<j->j<l.length->par j=i->0<i-> ¬P l[j]! l[par i]!
theorem VU (o:SO P S) {f:List Pt} {t:Int×Int} (hP: ∀a b,P a b↔bK (bB f a) (bB f b) t) {l:List Int} (sm: ∀j,j<l.length->S l[j]!) {i:Nat} (hi:i<l.length):
 (cL f t l i=i\/P l[cL f t l i]! l[i]!)/\ ∀j,0<j->j<l.length->par j=i-> ¬P l[j]! l[cL f t l i]!:=by
 have hA:(iU f t l i=i\/P l[iU f t l i]! l[i]!)/\(2*i+1<l.length-> ¬P l[2*i+1]! l[iU f t l i]!)/\iU f t l i<l.length:=by
  unfold iU;split
  · rename_i h
    exact ⟨.inr ((hP _ _).2 h.2),fun _=>o.irr _ (sm _ h.1),h.1⟩
  · rename_i h
    exact ⟨.inl rfl,fun hl c=>h ⟨hl,(hP _ _).1 c⟩,hi⟩
 obtain ⟨a1,a2,a3⟩:=hA;have ch: ∀j,0<j->par j=i->j=2*i+1\/j=2*i+2:=fun j h1 h2=>by simp only [par] at h2;omega
 unfold cL;split
 · rename_i h
   have h2:=(hP _ _).2 h.2;refine ⟨.inr ?_,fun j h1 hl hp=>?_⟩
   · rcases a1 with e|e
     · rw [e] at h2;exact h2
     · exact o.tr _ _ _ (sm _ h.1) (sm _ a3) (sm _ hi) h2 e
   · rcases ch j h1 hp with rfl|rfl
     · exact o.ntr (sm _ hl) (sm _ a3) (sm _ h.1) (a2 hl) (o.asym (sm _ h.1) (sm _ a3) h2)
     · exact o.irr _ (sm _ hl)
 · rename_i h
   refine ⟨a1,fun j h1 hl hp=>?_⟩
   rcases ch j h1 hp with rfl|rfl
   · exact a2 hl
   · exact fun c=>h ⟨hl,(hP _ _).1 c⟩
theorem aBn (o:SO P S) {f:List Pt} {t:Int×Int} (hP: ∀a b,P a b↔bK (bB f a) (bB f b) t): ∀(d:Nat) (l:List Int) (i:Nat),l.length-i<=d->(∀x∈l,S x)->aKm P l i->Hp P (vR f t l i):=by
 intro d
 induction d with
 |zero=>intro l i h _ v;have:=v.lt;omega
 |succ d ih=>
  intro l i h hS v;have sm: ∀j,j<l.length->S l[j]!:=fun j hj=>hS _ (aR hj)
  have hi:=v.lt;obtain ⟨b1,b2⟩:=VU o hP sm hi
  by_cases e:cL f t l i=i
  · rw [qB e]
    intro j h1 h2
    by_cases c:par j=i
    · have:=b2 j h1 h2 c
      rw [e] at this;rw [c];exact this
    · exact v.el j h1 h2 c
  · rw [AP e]
    have kc:=oL f t l i;have ki:cL f t l i=2*i+1\/cL f t l i=2*i+2:=by
     have:=jR f t l i
     unfold cL at e ⊢;split
     · exact .inr rfl
     · rename_i hh;rw [if_neg hh] at e;omega
    have hb:cL f t l i<l.length:=by omega
    have pb:par (cL f t l i)=i:=by simp only [par];omega
    have hbi:P l[cL f t l i]! l[i]!:=b1.resolve_left e;generalize cL f t l i=b at*;refine ih _ b (by rw [fA];omega) (fun x hx=>hS x ((kD hi hb).mem_iff.1 hx)) ⟨by rw [fA];exact hb,fun j h1 h2 h3=>?_,fun j h1 h2 h3 h4=>?_⟩
    · rw [fA] at h2
      rw [oM l hi hb,oM l hi hb,if_neg h3]
      by_cases a:j=b
      · subst a
        rw [if_pos rfl,pb,if_pos rfl];exact o.asym (sm _ hb) (sm _ hi) hbi
      · rw [if_neg a]
        by_cases c:j=i
        · subst c
          rw [if_pos rfl,if_neg (by simp only [par];omega)]
          exact v.gr b (by omega) hb pb h1
        · rw [if_neg c]
          by_cases g:par j=i
          · rw [if_pos g];exact b2 j h1 h2 g
          · rw [if_neg g];exact v.el j h1 h2 g
    · rw [fA] at h2
      have j1:j≠b:=by simp only [par] at h3;omega
      have j2:j≠i:=by simp only [par] at h3;omega
      rw [oM l hi hb,oM l hi hb,if_neg j1,if_neg j2,pb,if_neg (by omega),if_pos rfl]
      have:=v.el j h1 h2 (by omega)
      rw [h3] at this;exact this
theorem QA {f:List Pt} {t:Int×Int} {l:List Int} {i:Nat} (h:0<i-> ¬bK (bB f l[i]!) (bB f l[par i]!) t):mH f t i l=l/\vE f t i l=i:=by
 cases i with
 |zero=>unfold mH vE;exact ⟨rfl,rfl⟩
 |succ i=>
  have pe:par (i+1)=i / 2:=by simp only [par];omega
  have h:=h (by omega)
  rw [pe] at h;unfold mH vE;rw [if_neg h,if_neg h];exact ⟨rfl,rfl⟩
theorem QB (o:SO P S) {f:List Pt} {t:Int×Int} (hP: ∀a b,P a b↔bK (bB f a) (bB f b) t) {l:List Int} (sm: ∀j,j<l.length->S l[j]!) (h:Hp P l) {i:Nat} (hi:i<l.length):vR f t l i=l:=by
 refine qB ?_;rcases (VU o hP sm hi).1 with e|e
 · exact e
 · have kc:=oL f t l i
   have kA:=jR f t l i;rcases Classical.em (cL f t l i=i) with q|q
   · exact q
   · have pk:par (cL f t l i)=i:=by
      simp only [par];unfold cL at q ⊢;split
      · omega
      · rename_i hh;rw [if_neg hh] at q;omega
     have:=h (cL f t l i) (by omega) (by omega)
     rw [pk] at this;exact absurd e this
theorem KP (o:SO P S) {f:List Pt} {t:Int×Int} (hP: ∀a b,P a b↔bK (bB f a) (bB f b) t) {l:List Int} (hS: ∀x∈l,S x) {a:Nat} (ha:a<l.length)
 (h1: ∀j,0<j->j<l.length->j≠a->par j≠a-> ¬P l[j]! l[par j]!) (h2: ∀j,0<j->j<l.length->par j=a->0<a-> ¬P l[j]! l[par a]!):
 Hp P (vR f t (mH f t a l) (vE f t a l)):=by
 have sm: ∀j,j<l.length->S l[j]!:=fun j hj=>hS _ (aR hj)
 by_cases c:0<a/\P l[a]! l[par a]!
 · have rv:aAc P l a:=⟨ha,fun j j1 j2 j3=>by
    by_cases e:par j=a
    · rw [e]
      exact o.up (sm _ j2) (sm _ ha) (sm _ (by simp only [par];omega)) c.2 (h2 j j1 j2 e c.1)
    · exact h1 j j1 j2 j3 e,h2⟩
   have hh:=P9 o hP a l hS rv;have pm:=B0 f t a l ha;have ri:=(OE f t a l ha).1;rw [QB o hP (fun j hj=>hS _ (pm.mem_iff.1 (aR hj))) hh (by rw [pm.length_eq];exact ri)]
   exact hh
 · have c':0<a-> ¬bK (bB f l[a]!) (bB f l[par a]!) t:=fun h0 h=>c ⟨h0,(hP _ _).2 h⟩
   obtain ⟨e1,e2⟩:=QA c';rw [e1,e2];refine aBn o hP _ l a (Nat.le_refl _) hS ⟨ha,fun j j1 j2 j3=>?_,h2⟩
   by_cases e:j=a
   · subst e;exact fun h=>c ⟨j1,h⟩
   · exact h1 j j1 j2 e j3
end
end Go.Proofs.YtfejhjllooomlaaGreat
namespace Go.Proofs.YtfejhjllooomlaaGreat
open Go.Vm Classical
theorem aDB {f:List Pt} (fok:bX f) (k:Nat):bX (f.eraseIdx k):=by
 refine ⟨Nat.le_trans (List.length_eraseIdx_le f k) fok.1,fun p hp=>fok.2.1 p (List.mem_of_mem_eraseIdx hp),?_⟩
 have h:=fok.2.2;intro i hi;have hl:=List.length_eraseIdx_le f k
 by_cases hk:k<f.length
 · have:=LF hk
   rw [BW,BW];split<;>split<;>exact eL h (by omega) (by omega)
 · rw [List.eraseIdx_of_length_le (by omega)] at hi ⊢
   exact h i hi
theorem KQ {f:List Pt} (fok:bX f) {k:Nat} (hk:k<f.length):jB ⟨f⟩ (f[k]!).1=some ((k:Int),0):=by
 have h1:=fok.1;have hc:dY ⟨f⟩=some 0:=by rw [gP];exact congrArg some (eH.2 fok)
 have bs:=wJ f (f[k]!).1 (by omega) (fun i j=>eL fok.2.2)
 unfold jB jN;rw [EP];simp only [hc,aC,show ((0:Int) !=0)=false from rfl,cond_false,bs.1 k hk rfl,Bool.not_true]
theorem FJ {f:List Pt} (fok:bX f) {id:Int} (h: ¬iT f id):jB ⟨f⟩ id=some (0,6):=by
 have h1:=fok.1;have hc:dY ⟨f⟩=some 0:=by rw [gP];exact congrArg some (eH.2 fok)
 have bs:=wJ f id (by omega) (fun i j=>eL fok.2.2)
 obtain ⟨m,_,_,_,e⟩:=bs.2 (fun k hk he=>h ⟨k,hk,he⟩)
 unfold jB jN;rw [EP];simp only [hc,aC,show ((0:Int) !=0)=false from rfl,cond_false,e,Bool.not_false,cond_true]
theorem SJ:kS=dA:=rfl
theorem YB {f:List Pt} (fok:bX f) {k:Nat} (hk:k<f.length):kT ⟨f⟩ (f[k]!).1=some (⟨f.eraseIdx k⟩,0)/\BO ⟨f⟩ (f[k]!).1=some (⟨f.eraseIdx k⟩,0):=by
 have f1:=fok.1;constructor
 · obtain ⟨L,d1,d2⟩:=DM f k hk
   unfold kT;rw [KQ fok hk,aC,bO rfl,cond_false,bD (show f.length<=1048576 by omega),aC,bA (show k<1000000000 by omega),SJ,d1,aC]
   show some (Field.mk (L.take (f.length-1)),(0:Int))=_;rw [d2]
 · have hc:gT ⟨f⟩=some 0:=by rw [lY];exact congrArg some (eH.2 fok)
   unfold BO;rw [hc,aC,bO rfl,cond_false,AI fok.2.2 (by omega) hk rfl,aC,aL (by omega),cond_false]
   unfold FB;generalize hn:(f[k]!).1=n;have key:=cE (body:=jF) (fun i=>(n,(i:Int),f,(f.take i).filter (fun x=>x.1 !=n))) f.length (fun i hi=>by
    have nx:(f.take (i+1)).filter (fun x=>x.1 !=n)=(f.take i).filter (fun x=>x.1 !=n)++(if (f[i]!).1 !=n then [f[i]!] else []):=by
     rw [gQ hi,List.filter_append,List.filter_cons,List.filter_nil]
    have fl:((f.take i).filter (fun x=>x.1 !=n)).length<=200:=Nat.le_trans (List.length_filter_le _ _) (by rw [List.length_take];omega)
    unfold jF;simp only [aF,aN (show (i:Int)<(f.length:Int) by omega),cond_true,aB f i hi,aC,bA (show i<1000000000 by omega),nx]
    by_cases h:(f[i]!).1=n
    · rw [bO h];simp
    · rw [eT h]
      simp only [cond_true,if_true,dJ (show ((f.take i).filter (fun x=>x.1 !=n)).length+[f[i]!].length<=1048576 by simp only [List.length_cons,List.length_nil];omega),aC])
   have fin:aH jF (n,(f.length:Int),f,(f.take f.length).filter (fun x=>x.1 !=n))=some ⟨f.eraseIdx k⟩:=aI (by
    unfold jF;simp only [aF,aL (show¬(f.length:Int)<(f.length:Int) by omega),cond_false,List.take_length]
    rw [IA hk (fun i j=>eL fok.2.2) hn])
   rw [show aH jF (n,0,f,[])=_ from key,fin,aC]
theorem SK {f:List Pt} (fok:bX f) {id:Int} (h: ¬iT f id):kT ⟨f⟩ id=some (⟨[]⟩,6)/\BO ⟨f⟩ id=some (⟨[]⟩,6):=by
 constructor
 · unfold kT
   rw [FJ fok h];rfl
 · have hc:gT ⟨f⟩=some 0:=by rw [lY];exact congrArg some (eH.2 fok)
   unfold BO;rw [hc,aC,bO rfl,cond_false,GI fok h];rfl
end Go.Proofs.YtfejhjllooomlaaGreat
namespace Go.Proofs.YtfejhjllooomlaaGreat
open Go.Vm Classical
def qU (f:List Pt) (m:Nat) (p:Pt):List Pt:=f.take m++p::f.drop m
structure QC (f:List Pt) (p:Pt) (m:Nat):Prop where
 le:m<=f.length
 lo: ∀i,i<m->(f[i]!).1<p.1
 hi: ∀i,m<=i->i<f.length->p.1<(f[i]!).1
theorem IH {f:List Pt} {m:Nat} (h:m<=f.length) (p:Pt):(qU f m p).length=f.length+1:=by
 unfold qU;rw [List.length_append,List.length_cons,List.length_take,List.length_drop];omega
theorem EU {f:List Pt} {m:Nat} (h:m<=f.length) (p:Pt) (i:Nat):(qU f m p)[i]! =if i<m then f[i]! else if i=m then p else f[i-1]!:=by
 have ht:(f.take m).length=m:=by rw [List.length_take];omega
 unfold qU;simp only [List.getElem!_eq_getElem?_getD]
 by_cases h1:i<m
 · rw [if_pos h1,List.getElem?_append_left (by omega),List.getElem?_take_of_lt h1]
 · rw [if_neg h1,List.getElem?_append_right (by omega),ht]
   by_cases h2:i=m
   · rw [if_pos h2,h2,Nat.sub_self];rfl
   · rw [if_neg h2,show i-m=(i-1-m)+1 by omega,List.getElem?_cons_succ,List.getElem?_drop,show m+(i-1-m)=i-1 by omega]
theorem aKn {f:List Pt} (fok:bX f) {p:Pt} (po:gS p) {m:Nat} (h:QC f p m) (hl:f.length<64):bX (qU f m p):=by
 refine ⟨by rw [IH h.le];omega,fun q hq=>?_,fun i hi=>?_⟩
 · rcases List.mem_append.1 hq with hq|hq
   · exact fok.2.1 q (List.mem_of_mem_take hq)
   · rcases List.mem_cons.1 hq with rfl|hq
     · exact po
     · exact fok.2.1 q (List.mem_of_mem_drop hq)
 · rw [IH h.le] at hi
   rw [EU h.le,EU h.le];rcases Nat.lt_trichotomy (i+1) m with c|c|c
   · rw [if_pos (by omega),if_pos c];exact eL fok.2.2 (by omega) (by have:=h.le;omega)
   · rw [if_pos (by omega),if_neg (by omega),if_pos c];exact h.lo i (by omega)
   · rw [if_neg (show¬i+1<m by omega),if_neg (show¬i+1=m by omega),Nat.add_sub_cancel]
     by_cases d:i=m
     · rw [if_neg (by omega),if_pos d];exact h.hi i (by omega) (by omega)
     · rw [if_neg (by omega),if_neg d];exact eL fok.2.2 (by omega) (by omega)
theorem YC {f:List Pt} (fok:bX f) {p:Pt} (h: ¬iT f p.1): ∃m,QC f p m/\jN ⟨f⟩ p.1=some ((m:Int),false):=by
 have h1:=fok.1;obtain ⟨m,a,b,c,e⟩:=(wJ f p.1 (by omega) (fun i j=>eL fok.2.2)).2 (fun k hk he=>h ⟨k,hk,he⟩)
 refine ⟨m,⟨a,b,c⟩,?_⟩;unfold jN;rw [EP,e];rfl
theorem YD {f:List Pt} (fok:bX f) {id:Int} (h:iT f id): ∃k,k<f.length/\(f[k]!).1=id/\jN ⟨f⟩ id=some ((k:Int),true):=by
 have h1:=fok.1;obtain ⟨k,hk,he⟩:=h;refine ⟨k,hk,he,?_⟩;unfold jN;rw [EP,(wJ f id (by omega) (fun i j=>eL fok.2.2)).1 k hk he];rfl
theorem aKo {f:List Pt} (fok:bX f) {p:Pt} {m:Nat} (h:QC f p m) (hl:f.length<64):aH fR (false,0,f,p.1,p.2.1,p.2.2,[])=some (⟨qU f m p⟩,0):=by
 have hle:=h.le;have tl: ∀i,(f.take i).length<=64:=fun i=>by rw [List.length_take];omega
 have k1:=cE (body:=fR) (fun i=>(false,(i:Int),f,p.1,p.2.1,p.2.2,f.take i)) m (fun i hi=>by
  unfold fR;simp only [aF,aN (show (i:Int)<(f.length:Int) by omega),cond_true,Bool.not_false,aB f i (by omega),aC,aL (show¬p.1<(f[i]!).1 from Int.not_lt.2 (Int.le_of_lt (h.lo i hi))),cond_false,
   dJ (show (f.take i).length+[f[i]!].length<=1048576 by have:=tl i;simp only [List.length_cons,List.length_nil];omega),bA (show i<1000000000 by omega),gQ (show i<f.length by omega)])
 refine (show aH fR (false,0,f,p.1,p.2.1,p.2.2,[])=_ from k1).trans ?_;have pe:((p.1,p.2.1,p.2.2):Pt)=p:=rfl;rcases Nat.lt_or_ge m f.length with hm|hm
 · have s1:fR (false,(m:Int),f,p.1,p.2.1,p.2.2,f.take m)=some (.next (true,((m+1:Nat):Int),f,p.1,p.2.1,p.2.2,f.take m++[p]++[f[m]!])):=by
    unfold fR;simp only [aF,aN (show (m:Int)<(f.length:Int) by omega),cond_true,Bool.not_false,aB f m hm,aC,aN (h.hi m (Nat.le_refl _) hm),pe,
     dJ (show (f.take m).length+[p].length<=1048576 by have:=tl m;simp only [List.length_cons,List.length_nil];omega),
     dJ (show (f.take m++[p]).length+[f[m]!].length<=1048576 by have:=tl m;simp only [List.length_append,List.length_cons,List.length_nil];omega),bA (show m<1000000000 by omega)]
   rw [aU s1];have k2:=cE (body:=fR) (fun i=>(true,((m+1+i:Nat):Int),f,p.1,p.2.1,p.2.2,f.take m++[p]++(f.drop m).take (i+1))) (f.length- (m+1)) (fun i hi=>by
    have ed:(f.drop m).take (i+1+1)=(f.drop m).take (i+1)++[f[m+1+i]!]:=by
     rw [gQ (show i+1<(f.drop m).length by rw [List.length_drop];omega),sX];congr 3;omega
    unfold fR;simp only [aF,aN (show ((m+1+i:Nat):Int)<(f.length:Int) by omega),cond_true,Bool.not_true,cond_false,aB f (m+1+i) (by omega),aC,
     dJ (show (f.take m++[p]++(f.drop m).take (i+1)).length+[f[m+1+i]!].length<=1048576 by have:=tl m;simp only [List.length_append,List.length_take,List.length_drop,List.length_cons,List.length_nil] at this ⊢;omega),bA (show m+1+i<1000000000 by omega),ed]
    rw [List.append_assoc (f.take m++[p]),show m+1+i+1=m+1+(i+1) by omega])
   have e0:(f.drop m).take (0+1)=[f[m]!]:=by
    have:=NJ hm
    rw [show f.drop m=f[m]!::f.drop (m+1) by rw [getElem!_pos f m hm,List.getElem_cons_drop]];rfl
   rw [e0] at k2;refine (show aH fR (true,((m+1:Nat):Int),f,p.1,p.2.1,p.2.2,f.take m++[p]++[f[m]!])=_ from k2).trans (aI ?_);have ef:(f.drop m).take (f.length- (m+1)+1)=f.drop m:=List.take_of_length_le (by rw [List.length_drop];omega)
   rw [ef,show m+1+(f.length- (m+1))=f.length by omega]
   unfold fR qU;simp only [aF,aL (show¬(f.length:Int)<(f.length:Int) by omega),cond_false,Bool.not_true,List.append_assoc,List.singleton_append]
 · obtain rfl:m=f.length:=by omega
   refine aI ?_;unfold fR qU;simp only [aF,aL (show¬(f.length:Int)<(f.length:Int) by omega),cond_false,Bool.not_false,cond_true,pe,List.take_length,
    dJ (show f.length+[p].length<=1048576 by simp only [List.length_cons,List.length_nil];omega),aC,List.drop_length]
theorem OG {f:List Pt} (fok:bX f) (p:Pt):
 (∃e:Int,e≠0/\kC ⟨f⟩ p=some (⟨[]⟩,e)/\wQ ⟨f⟩ p=some (⟨[]⟩,e))\/
 (∃m,QC f p m/\ ¬iT f p.1/\gS p/\f.length<64/\kC ⟨f⟩ p=some (⟨qU f m p⟩,0)/\wQ ⟨f⟩ p=some (⟨qU f m p⟩,0)):=by
 have f1:=fok.1;have hc:dY ⟨f⟩=some 0:=by rw [gP];exact congrArg some (eH.2 fok)
 have hc2:gT ⟨f⟩=some 0:=by rw [lY];exact congrArg some (eH.2 fok)
 by_cases po:gS p
 case neg=>
  refine .inl ⟨8,by decide,?_,?_⟩
  · unfold kC;rw [hc,aC,bO rfl,cond_false,fS,if_neg po];rfl
  · unfold wQ;rw [hc2,aC,bO rfl,cond_false,gO,if_neg po];rfl
 by_cases hp:iT f p.1
 · obtain ⟨k,hk,he,e⟩:=YD fok hp
   refine .inl ⟨14,by decide,?_,?_⟩
   · unfold kC;rw [hc,aC,bO rfl,cond_false,fS,if_pos po,aC,bO rfl,cond_false,e];rfl
   · unfold wQ;rw [hc2,aC,bO rfl,cond_false,gO,if_pos po,aC,bO rfl,cond_false,AI fok.2.2 (by omega) hk he,aC,aN (show (0:Int)<=(k:Int) by omega)];rfl
 obtain ⟨m,hm,e⟩:=YC fok hp
 by_cases full:f.length=64
 · refine .inl ⟨18,by decide,?_,?_⟩
   · unfold kC;rw [hc,aC,bO rfl,cond_false,fS,if_pos po,aC,bO rfl,cond_false,e,aC,cond_false]
     simp only [aF,full];rfl
   · unfold wQ;rw [hc2,aC,bO rfl,cond_false,gO,if_pos po,aC,bO rfl,cond_false,GI fok hp,aC,aL (by decide),cond_false]
     simp only [aF,full];rfl
 · have hl:f.length<64:=by omega
   have hf:(Int.ofNat f.length==64)=false:=by simp only [aF,beq_eq_false_iff_ne];omega
   refine .inr ⟨m,hm,hp,po,hl,?_,?_⟩
   · have hi:D2 f (m:Int) [p]=some (qU f m p):=by
      unfold D2;rw [if_pos ⟨by omega,by have:=hm.le;simpa using this,rfl,by omega⟩]
      simp [qU]
     unfold kC;rw [hc,aC,bO rfl,cond_false,fS,if_pos po,aC,bO rfl,cond_false,e,aC,cond_false,hf,cond_false,bD (show f.length<=1048576 by omega),aC,hi,aC]
   · unfold wQ
     rw [hc2,aC,bO rfl,cond_false,gO,if_pos po,aC,bO rfl,cond_false,GI fok hp,aC,aL (by decide),cond_false,hf,cond_false]
     exact aKo fok hm hl
theorem aQj {f:List Pt} (fok:bX f) {p:Pt} (po:gS p) {k:Nat} (hk:k<f.length) (he:(f[k]!).1=p.1):bX (f.set k p):=by
 refine ⟨by rw [List.length_set];exact fok.1,fun q hq=>?_,fun i hi=>?_⟩
 · rcases List.mem_or_eq_of_mem_set hq with h|rfl
   · exact fok.2.1 q h
   · exact po
 · rw [List.length_set] at hi
   have h:=eL fok.2.2 (show i<i+1 by omega) hi
   have g: ∀j:Nat,((f.set k p)[j]!).1=(f[j]!).1:=fun j=>by
    simp only [List.getElem!_eq_getElem?_getD,List.getElem?_set]
    by_cases c:k=j
    · subst c
      rw [if_pos rfl,if_pos hk];simp only [List.getElem!_eq_getElem?_getD] at he;exact he.symm
    · rw [if_neg c]
   rw [g,g];exact h
theorem yT {f:List Pt} (fok:bX f) (p:Pt):
 (∃e:Int,e≠0/\fQ ⟨f⟩ p=some (⟨[]⟩,e)/\oU ⟨f⟩ p=some (⟨[]⟩,e))\/
 (∃k,k<f.length/\(f[k]!).1=p.1/\gS p/\fQ ⟨f⟩ p=some (⟨f.set k p⟩,0)/\oU ⟨f⟩ p=some (⟨f.set k p⟩,0)):=by
 have f1:=fok.1;have hc:dY ⟨f⟩=some 0:=by rw [gP];exact congrArg some (eH.2 fok)
 have hc2:gT ⟨f⟩=some 0:=by rw [lY];exact congrArg some (eH.2 fok)
 by_cases po:gS p
 case neg=>
  refine .inl ⟨8,by decide,?_,?_⟩
  · unfold fQ;rw [hc,aC,bO rfl,cond_false,fS,if_neg po];rfl
  · unfold oU;rw [hc2,aC,bO rfl,cond_false,gO,if_neg po];rfl
 by_cases hp:iT f p.1
 case neg=>
  refine .inl ⟨6,by decide,?_,?_⟩
  · unfold fQ;rw [hc,aC,bO rfl,cond_false,fS,if_pos po,aC,bO rfl,cond_false,FJ fok hp];rfl
  · unfold oU;rw [hc2,aC,bO rfl,cond_false,gO,if_pos po,aC,bO rfl,cond_false,GI fok hp];rfl
 obtain ⟨k,hk,he⟩:=hp;have pl:=KQ fok hk;rw [he] at pl;refine .inr ⟨k,hk,he,po,?_,?_⟩
 · unfold fQ
   rw [hc,aC,bO rfl,cond_false,fS,if_pos po,aC,bO rfl,cond_false,pl,aC,bO rfl,cond_false,bD (show f.length<=1048576 by omega),aC,aB f k hk,aC,fE]
 · unfold oU kO
   rw [hc2,aC,bO rfl,cond_false,gO,if_pos po,aC,bO rfl,cond_false,AI fok.2.2 (by omega) hk he,aC,aL (by omega),cond_false,bD (show f.length<=1048576 by omega),aC,aC,aB f k hk,aC,fE]
end Go.Proofs.YtfejhjllooomlaaGreat
namespace Go.Proofs.YtfejhjllooomlaaGreat
open Go.Vm Classical
noncomputable def oX (f:List Pt) (es:List (Int×Int)):Int:=if¬(∀x∈es,gA x) then 8 else if¬es.Nodup then 14 else if¬(∀x∈es,kY f x) then 6 else 0
def rP (c:aQ) (f:List Pt) (es:List (Int×Int)) (i:Nat):=
 (es,es,(es.length:Int),(i:Int),c.now.1,c.now.2,c.field.points,c.certs.next_,c.certs.list,c.agenda.slots.uses,c.agenda.slots.used,c.agenda.slots.free,c.agenda.heap,c.agenda.where_,c.due,f,(0:Int),(0:Int),(0:Int))
theorem OH {c:aQ} (ok:bJ c) {f:List Pt} (fok:bX f) {es:List (Int×Int)} (hl:es.length<=1000) {r:aQ×Int} (hr:oX f es=0->oE c ⟨f⟩ es=some r):
 uW c ⟨f⟩ es=some (if oX f es=0 then r else (fT,oX f es)):=by
 have bd:=ok.bd;have ab:=ok.agd.bd;have sl:=ok.agd.so.fl;have sn:=ok.agd.so.n2;have su:=ok.agd.so.ul;have el:decide ((es.length:Int)<(es.length:Int))=false:=aL (by omega)
 have hc:iB c=some 0:=by rw [oJ ok.fit,if_pos ok]
 have hf:dY ⟨f⟩=some 0:=by rw [gP];exact congrArg some (eH.2 fok)
 have tw:xE (aQ.mk (c.now.1,c.now.2) (Field.mk c.field.points) (bG.mk c.certs.next_ c.certs.list) (aO.mk (aX.mk c.agenda.slots.uses c.agenda.slots.used c.agenda.slots.free) c.agenda.heap c.agenda.where_) c.due)=some c:=by
  unfold xE;simp only [bD (show c.field.points.length<=1048576 by omega),bD (show c.certs.list.length<=1048576 by omega),bD (show c.due.length<=1048576 by omega),bD (show c.agenda.heap.length<=1048576 by omega),bD (show c.agenda.where_.length<=1048576 by omega),
   bD (show c.agenda.slots.uses.length<=1048576 by omega),bD (show c.agenda.slots.used.length<=1048576 by omega),bD (show c.agenda.slots.free.length<=1048576 by omega),aC]
 have k3: ∀e2:aQ×Int,aH eQ (rP c f es 0)=some (.done e2)->aH eS (rP c f es 0)=some (if∀i,i<es.length->gA es[i]! then e2 else (fT,8)):=by
  intro e2 h2;refine GJ (body:=eS) (fun i=>rP c f es i) es.length (fun i=>gA es[i]!) (r:=(fT,8)) (e:=e2) (fun i hi=>?_) ?_
  · have e1:decide ((i:Int)<(es.length:Int))=true:=aN (by omega)
    unfold eS rP gA;simp only [e1,cond_true,aB es i hi,aC,bA (show i<1000000000 by omega)]
    generalize es[i]! =x
    by_cases a1:x.1<0
    · rw [aN a1];exact ⟨fun _=>rfl,fun h=>by omega⟩
    rw [aL a1]
    by_cases a2:x.2<0
    · rw [aN a2];exact ⟨fun _=>rfl,fun h=>by omega⟩
    rw [aL a2]
    by_cases a3:65535<x.1
    · rw [aN a3];exact ⟨fun _=>rfl,fun h=>by omega⟩
    rw [aL a3]
    by_cases a4:65535<x.2
    · rw [aN a4];exact ⟨fun _=>rfl,fun h=>by omega⟩
    rw [aL a4]
    by_cases a5:x.1=x.2
    · rw [fY a5];exact ⟨fun _=>rfl,fun h=>absurd a5 h.2.2.2.2⟩
    · rw [fD a5];exact ⟨fun h=>absurd ⟨by omega,by omega,by omega,by omega,a5⟩ h,fun _=>rfl⟩
  · unfold eS rP
    simp only [aF,el,cond_false];exact h2
 have k2: ∀e1:aQ×Int,aH fN (rP c f es 0)=some (.done (.done e1))->aH eQ (rP c f es 0)=some (.done (if∀i,i<es.length->es[i]!∉es.take i then e1 else (fT,14))):=by
  intro e0 h2
  have:=GJ (body:=eQ) (fun i=>rP c f es i) es.length (fun i=>es[i]!∉es.take i) (r:= .done (fT,14)) (e:= .done e0) (fun i hi=>by
   have e1:decide ((i:Int)<(es.length:Int))=true:=aN (by omega)
   unfold eQ rP;simp only [e1,cond_true,aB es i hi,nL es i (by omega),aC,nN _ _ (show (es.take i).length<=1000000 by rw [List.length_take];omega),bA (show i<1000000000 by omega)]
   by_cases h:es[i]!∈es.take i
   · rw [aN h];exact ⟨fun _=>rfl,fun k=>absurd h k⟩
   · rw [aL h];exact ⟨fun k=>absurd h k,fun _=>rfl⟩) (by
   unfold eQ rP;simp only [aF,el,cond_false];exact h2)
  refine this.trans ?_
  by_cases hb: ∀i,i<es.length->es[i]!∉es.take i
  · rw [if_pos hb,if_pos hb]
  · rw [if_neg hb,if_neg hb]
 have step1: ∀i,i<es.length->(¬kY f es[i]!->fN (rP c f es i)=some (.done (.done (.done (fT,6)))))/\(kY f es[i]!->fN (rP c f es i)=some (.next (rP c f es (i+1)))):=by
  intro i hi;have e1:decide ((i:Int)<(es.length:Int))=true:=aN (by omega)
  obtain ⟨p,e,a1,a2⟩:=FI fok (es[i]!).1;obtain ⟨q,g,b1,b2⟩:=FI fok (es[i]!).2;unfold fN rP kY;simp only [e1,cond_true,aB es i hi,aC,a1,b1,bA (show i<1000000000 by omega)]
  by_cases h1:iT f (es[i]!).1
  · rw [bO (a2.2 h1)]
    by_cases h2:iT f (es[i]!).2
    · rw [bO (b2.2 h2)]
      exact ⟨fun h=>absurd ⟨h1,h2⟩ h,fun _=>rfl⟩
    · rw [eT (fun h=>h2 (b2.1 h))]
      exact ⟨fun _=>rfl,fun h=>absurd h.2 h2⟩
  · rw [eT (fun h=>h1 (a2.1 h))]
    exact ⟨fun _=>rfl,fun h=>absurd h.1 h1⟩
 have start:uW c ⟨f⟩ es=aH eS (rP c f es 0):=by
  unfold uW;simp only [hc,aC,show ((0:Int) !=0)=false from rfl,cond_false,hf];rfl
 rw [start]
 by_cases h1: ∀x∈es,gA x
 case neg=>
  have er:oX f es=8:=by unfold oX;rw [if_pos h1]
  rw [er,if_neg (by omega)]
  have:=dK (body:=eS) (fun i=>rP c f es i) es.length (fun i=> ¬gA es[i]!) (r:=(fT,8)) (e:=r)
  have k3':=k3;rw [IG (P:=gA)] at h1;obtain ⟨i,h⟩:=Classical.not_forall.1 h1;obtain ⟨hi,hx⟩:=Classical.not_imp.1 h;obtain ⟨m,m1,m2,m3⟩:=DF (c:=fun i=> ¬gA es[i]!) ⟨i,hi,hx⟩
  have go: ∀j,j<es.length->(¬gA es[j]!->eS (rP c f es j)=some (.done (fT,8)))/\(gA es[j]!->eS (rP c f es j)=some (.next (rP c f es (j+1)))):=by
   intro j hj;have e1:decide ((j:Int)<(es.length:Int))=true:=aN (by omega)
   unfold eS rP gA;simp only [e1,cond_true,aB es j hj,aC,bA (show j<1000000000 by omega)]
   generalize es[j]! =x
   by_cases a1:x.1<0
   · rw [aN a1];exact ⟨fun _=>rfl,fun h=>by omega⟩
   rw [aL a1]
   by_cases a2:x.2<0
   · rw [aN a2];exact ⟨fun _=>rfl,fun h=>by omega⟩
   rw [aL a2]
   by_cases a3:65535<x.1
   · rw [aN a3];exact ⟨fun _=>rfl,fun h=>by omega⟩
   rw [aL a3]
   by_cases a4:65535<x.2
   · rw [aN a4];exact ⟨fun _=>rfl,fun h=>by omega⟩
   rw [aL a4]
   by_cases a5:x.1=x.2
   · rw [fY a5];exact ⟨fun _=>rfl,fun h=>absurd a5 h.2.2.2.2⟩
   · rw [fD a5];exact ⟨fun h=>absurd ⟨by omega,by omega,by omega,by omega,a5⟩ h,fun _=>rfl⟩
  rw [cE (body:=eS) (fun i=>rP c f es i) m fun j hj=>(go j (by omega)).2 (Classical.not_not.1 (m3 j hj))]
  exact aI ((go m m1).1 m2)
 have h1':=(IG (P:=gA)).1 h1
 by_cases h2:es.Nodup
 case neg=>
  have er:oX f es=14:=by unfold oX;rw [if_neg (Classical.not_not.2 h1),if_pos h2]
  rw [er,if_neg (by omega)]
  have h2':=h2;rw [OC] at h2';obtain ⟨i,h⟩:=Classical.not_forall.1 h2';obtain ⟨hi,hx⟩:=Classical.not_imp.1 h;obtain ⟨m,m1,m2,m3⟩:=DF (c:=fun i=> ¬es[i]!∉es.take i) ⟨i,hi,hx⟩
  have go: ∀j,j<es.length->(es[j]!∈es.take j->eQ (rP c f es j)=some (.done (.done (fT,14))))/\(es[j]!∉es.take j->eQ (rP c f es j)=some (.next (rP c f es (j+1)))):=by
   intro j hj;have e1:decide ((j:Int)<(es.length:Int))=true:=aN (by omega)
   unfold eQ rP;simp only [e1,cond_true,aB es j hj,nL es j (by omega),aC,nN _ _ (show (es.take j).length<=1000000 by rw [List.length_take];omega),bA (show j<1000000000 by omega)]
   by_cases h:es[j]!∈es.take j
   · rw [aN h];exact ⟨fun _=>rfl,fun k=>absurd h k⟩
   · rw [aL h];exact ⟨fun k=>absurd k h,fun _=>rfl⟩
  have l2:aH eQ (rP c f es 0)=some (.done (fT,14)):=by
   rw [cE (body:=eQ) (fun i=>rP c f es i) m fun j hj=>(go j (by omega)).2 (Classical.not_not.1 (m3 j hj))]
   exact aI ((go m m1).1 (Classical.not_not.1 m2))
  rw [k3 _ l2,if_pos h1']
 have h2':=OC.1 h2
 by_cases h3: ∀x∈es,kY f x
 case neg=>
  have er:oX f es=6:=by unfold oX;rw [if_neg (Classical.not_not.2 h1),if_neg (Classical.not_not.2 h2),if_pos h3]
  rw [er,if_neg (by omega)]
  have h3':=h3;rw [IG (P:=kY f)] at h3';obtain ⟨i,h⟩:=Classical.not_forall.1 h3';obtain ⟨hi,hx⟩:=Classical.not_imp.1 h;obtain ⟨m,m1,m2,m3⟩:=DF (c:=fun i=> ¬kY f es[i]!) ⟨i,hi,hx⟩
  have l1:aH fN (rP c f es 0)=some (.done (.done (fT,6))):=by
   rw [cE (body:=fN) (fun i=>rP c f es i) m fun j hj=>(step1 j (by omega)).2 (Classical.not_not.1 (m3 j hj))]
   exact aI ((step1 m m1).1 m2)
  rw [k3 _ (k2 _ l1),if_pos h1',if_pos h2']
 have h3':=(IG (P:=kY f)).1 h3;have er:oX f es=0:=by unfold oX;rw [if_neg (Classical.not_not.2 h1),if_neg (Classical.not_not.2 h2),if_neg (Classical.not_not.2 h3)]
 rw [er,if_pos rfl];have l1:aH fN (rP c f es 0)=some (.done (.done r)):=by
  rw [cE (body:=fN) (fun i=>rP c f es i) es.length fun j hj=>(step1 j hj).2 (h3' j hj)]
  refine aI ?_;unfold fN rP;simp only [el,cond_false,tw,aC,hr er]
 rw [k3 _ (k2 _ l1),if_pos h1',if_pos h2']
end Go.Proofs.YtfejhjllooomlaaGreat
namespace Go.Proofs.YtfejhjllooomlaaGreat
open Go.Vm Classical
theorem QD {l:List Int} {x:Int} (hl:l.length<=1000000) (hx:x∈l): ∃k,k<l.length/\l[k]! =x/\hM l x=some (k:Int)/\yG l x=some (k:Int):=by
 obtain ⟨k,k1,k2,k3⟩:=DF (c:=fun k=>l[k]! =x) (aY.1 hx)
 have p:=mG (body:=rI) (fun i=>(l,x,(i:Int))) l.length (fun i=>l[i]! =x) (fun i=>(i:Int)) (e:= -1) (fun i hi=>by
  unfold rI;simp only [aF,aN (show (i:Int)<(l.length:Int) by omega),cond_true,aB l i hi,aC,bA (show i<1000000000 by omega)]
  refine ⟨fun h=>?_,fun h=>?_⟩
  · rw [fY h];rfl
  · rw [fD h];rfl) (by
  unfold rI;simp only [aF,aL (show¬(l.length:Int)<(l.length:Int) by omega),cond_false])
 exact ⟨k,k1,k2,(OD l x hl).1 k k1 k2 k3,p.1 k k1 k2 k3⟩
end Go.Proofs.YtfejhjllooomlaaGreat
namespace Go.Proofs.YtfejhjllooomlaaGreat
open Go.Vm Classical
theorem DT (l:List Int) (hl:l.length<=1000):yJ l=some (dL l):=by
 have n:aA .i64 ((l.length:Int) - (if (l.length:Int)<1 then (l.length:Int) else 1))=((l.length-1:Nat):Int):=by
  split
  · rw [gM ⟨by omega,by omega⟩];omega
  · rw [gM ⟨by omega,by omega⟩];omega
 have key:=cE (body:=oC) (fun i=>(l,((l.length-1:Nat):Int),(i:Int),vO l i)) (l.length-1) (fun i hi=>by
  have e:aA .i64 (Int.tdiv (i:Int) 2)=((i / 2:Nat):Int):=by
   rw [Int.tdiv_eq_ediv_of_nonneg (by omega),gM ⟨by omega,by omega⟩];omega
  unfold oC;simp only [aN (show (i:Int)<((l.length-1:Nat):Int) by omega),cond_true,bA (show i<1000000000 by omega),aB l (i+1) (by omega),e,aB l (i / 2) (by omega),aC]
  rw [dJ (by rw [lA,List.length_singleton];omega),aC,<- KM])
 unfold yJ;simp only [aF,n];rw [show aH oC (l,((l.length-1:Nat):Int),0,[])=_ from key];refine aI ?_;unfold oC;simp only [aL (show¬((l.length-1:Nat):Int)<((l.length-1:Nat):Int) by omega),cond_false]
theorem GK {f:List Pt} (fok:bX f) {t:Int×Int} (r:cO t) (r64:vC t) {a b:Int} (ha:iT f a) (hb:iT f b) (hne:a≠b):eW (bB f a) (bB f b) t=some (decide (bK (bB f a) (bB f b) t),0):=by
 obtain ⟨p1,p2⟩:=hU fok ha;obtain ⟨q1,q2⟩:=hU fok hb;have ne:(bB f a).1≠(bB f b).1:=by rw [p2,q2];exact hne
 rcases CH p1 q1 r64 r with h|⟨h,_⟩
 · rw [h,if_neg ne]
 · exact absurd h ne
end Go.Proofs.YtfejhjllooomlaaGreat
namespace Go.Proofs.YtfejhjllooomlaaGreat
open Go.Vm Classical
def tS (k:bM) (f:List Pt) (m n0 i:Nat) (L:List Int):=
 ((i:Int),k.clock.now.1,k.clock.now.2,k.clock.field.points,k.clock.certs.next_,k.clock.certs.list,k.clock.agenda.slots.uses,k.clock.agenda.slots.used,k.clock.agenda.slots.free,k.clock.agenda.heap,k.clock.agenda.where_,k.clock.due,k.heap,(0:Int),(0:Int),(0:Int),f,L,f,k.clock.now.1,k.clock.now.2,m,n0)
def tJ (k:bM) (f:List Pt) (m n0 i:Nat) (L:List Int) (p q:Pt):=
 ((i:Int),k.clock.now.1,k.clock.now.2,k.clock.field.points,k.clock.certs.next_,k.clock.certs.list,k.clock.agenda.slots.uses,k.clock.agenda.slots.used,k.clock.agenda.slots.free,k.clock.agenda.heap,k.clock.agenda.where_,k.clock.due,k.heap,(0:Int),(0:Int),(0:Int),f,L,f,k.clock.now.1,k.clock.now.2,m,n0,p.1,p.2.1,p.2.2,q)
structure pA (k:bM) (f:List Pt):Prop where
 clk:bJ k.clock
 fok:bX f
structure jY (f:List Pt) (m:Nat) (l:List Int):Prop where
 len:l.length=m
 small:m<=100
 hp: ∀x∈l,iT f x
 nd:l.Nodup
theorem tk {l:List Int} {m:Nat} {x:Int} (h:l.length=m):(l++[x]).take m=l:=by rw [<- h,List.take_left]
section
variable {k : bM} {f : List Pt} {m n0 : Nat} {x : Int}
theorem aAd (ok:pA k f) {c0:_} {c1:List Int} {l:List Int} (hl:jY f m l) {i b j:Nat} (hi:i<m) (hb:b<m) (hj:j<m) (h2:j<=2*i+2) (hne:j≠b):
 kV c0 c1 ((i:Int),(b:Int),(j:Int),(tS k f m n0 i (l++[x])).2)=some (.next ((i:Int),((if bK (bB f l[j]!) (bB f l[b]!) k.clock.now then j else b:Nat):Int),((j+1:Nat):Int),(tS k f m n0 i (l++[x])).2)):=by
 have hm:=hl.len;have m1:=hl.small;have e:aA .i64 (aA .i64 (2*(i:Int))+2)=((2*i+2:Nat):Int):=by
  rw [show aA .i64 (2*(i:Int))=2*(i:Int) from gM ⟨by omega,by omega⟩,gM ⟨by omega,by omega⟩];omega
 have pj:=hl.hp _ (aR (show j<l.length by omega))
 have pb:=hl.hp _ (aR (show b<l.length by omega))
 have ne:l[j]!≠l[b]!:=fun h=>by
  rcases Nat.lt_trichotomy j b with q|q|q
  · exact bV.1 hl.nd _ _ q (by omega) h
  · exact hne q
  · exact bV.1 hl.nd _ _ q (by omega) h.symm
 have a:=GK ok.fok (t:=(k.clock.now.1,k.clock.now.2)) ok.clk.nowv ok.clk.now64 pj pb ne;unfold kV tS;simp only [aF,e,aN (show (j:Int)<=((2*i+2:Nat):Int) by omega),aN (show (j:Int)<(m:Int) by omega),cond_true,tk hm,aB l j (by omega),aB l b (by omega),aC,bT ok.fok pj,bT ok.fok pb,a,beq_self_eq_true,bA (show j<1000000000 by omega)]
 by_cases c:bK (bB f l[j]!) (bB f l[b]!) k.clock.now
 · rw [show decide (bK (bB f l[j]!) (bB f l[b]!) (k.clock.now.1,k.clock.now.2))=true from aN c,if_pos c];rfl
 · rw [show decide (bK (bB f l[j]!) (bB f l[b]!) (k.clock.now.1,k.clock.now.2))=false from aL c,if_neg c];rfl
theorem aQk {c1:List Int} (hc:c1.length=m+1) {L0:List Int} (h0:L0.length=m+1) {n1 i0:Nat} {l:List Int} (hl:jY f m l) {i b j:Nat} (hi:i<m) (hb:b<m) (he: ¬(j<=2*i+2/\j<m)):
 kV (tS k f m n1 i0 L0) c1 ((i:Int),(b:Int),(j:Int),(tS k f m n0 i (l++[x])).2)=if b=i then (bE k.clock ⟨f⟩ l).bind fun a=>some (.done (.done (.done a))) else some (.done (.next (tS k f m n0 b (gW l i b++[x])))):=by
 have hm:=hl.len;have m1:=hl.small;have e:aA .i64 (aA .i64 (2*(i:Int))+2)=((2*i+2:Nat):Int):=by
  rw [show aA .i64 (2*(i:Int))=2*(i:Int) from gM ⟨by omega,by omega⟩,gM ⟨by omega,by omega⟩];omega
 have ec:(aA .i64 ((c1.length:Int) -1)).toNat=m:=by rw [gM ⟨by omega,by omega⟩];omega
 have lx:(l++[x]).length=L0.length:=by rw [List.length_append,List.length_singleton];omega
 have sa:(l++[x]).set i l[b]! =l.set i l[b]!++[x]:=List.set_append_left _ _ (by omega)
 have sb:(l.set i l[b]!++[x]).set b l[i]! =gW l i b++[x]:=List.set_append_left _ _ (by rw [List.length_set];omega)
 have t1:(l.set i l[b]!++[x]).take m=l.set i l[b]!:=tk (by rw [List.length_set];exact hm)
 have g1:=aB (l.set i l[b]!) b (by rw [List.length_set];omega)
 have ceta:(aQ.mk (k.clock.now.1,k.clock.now.2) (Field.mk k.clock.field.points) (bG.mk k.clock.certs.next_ k.clock.certs.list) (aO.mk (aX.mk k.clock.agenda.slots.uses k.clock.agenda.slots.used k.clock.agenda.slots.free) k.clock.agenda.heap k.clock.agenda.where_) k.clock.due)=k.clock:=rfl;unfold kV tS
 by_cases h1:j<=2*i+2
 · have h2: ¬j<m:=fun h=>he ⟨h1,h⟩
   simp only [aF,e,aN (show (j:Int)<=((2*i+2:Nat):Int) by omega),aL (show¬(j:Int)<(m:Int) by omega),cond_true,cond_false,tk hm,aB l i (by omega),aB l b (by omega),aC,fE,sa,sb,t1,g1,lx,beq_self_eq_true,ec,ceta]
   by_cases hbi:b=i
   · rw [if_pos hbi,fY (by omega),cond_true]
   · rw [if_neg hbi,fD (by omega),cond_false]
 · simp only [aF,e,aL (show¬(j:Int)<=((2*i+2:Nat):Int) by omega),cond_true,cond_false,tk hm,aB l i (by omega),aB l b (by omega),aC,fE,sa,sb,t1,g1,lx,beq_self_eq_true,ec,ceta]
   by_cases hbi:b=i
   · rw [if_pos hbi,fY (by omega),cond_true]
   · rw [if_neg hbi,fD (by omega),cond_false]
theorem aS1 (ok:pA k f) {c1:List Int} (hc:c1.length=m+1) {L0:List Int} (h0:L0.length=m+1) {n1 i0:Nat} {l:List Int} (hl:jY f m l) {i:Nat} (hi:i<m) {R:List Int->bM×Int} (hR:bE k.clock ⟨f⟩ l=some (R l)):
 aH (kV (tS k f m n1 i0 L0) c1) ((i:Int),(i:Int),((2*i+1:Nat):Int),(tS k f m n0 i (l++[x])).2)=some (if cL f k.clock.now l i=i then .done (.done (R l)) else .next (tS k f m n0 (cL f k.clock.now l i) (gW l i (cL f k.clock.now l i)++[x]))):=by
 have hm:=hl.len;have fin: ∀b j:Nat,b<m-> ¬(j<=2*i+2/\j<m)->cL f k.clock.now l i=b->aH (kV (tS k f m n1 i0 L0) c1) ((i:Int),(b:Int),(j:Int),(tS k f m n0 i (l++[x])).2)=some (if cL f k.clock.now l i=i then .done (.done (R l)) else .next (tS k f m n0 (cL f k.clock.now l i) (gW l i (cL f k.clock.now l i)++[x]))):=by
  intro b j hb he hk;rw [hk]
  have:=aQk (k:=k) (n0:=n0) (x:=x) hc h0 (n1:=n1) (i0:=i0) hl hi hb he
  by_cases hbi:b=i
  · rw [if_pos hbi,hR,aC] at this
    rw [if_pos hbi];exact aI this
  · rw [if_neg hbi] at this
    rw [if_neg hbi];exact aI this
 have kA:iU f k.clock.now l i<m:=by rcases jR f k.clock.now l i with h|⟨h,h2⟩<;>omega
 by_cases h1:2*i+1<m
 case neg=>
  have e1:iU f k.clock.now l i=i:=by unfold iU;rw [if_neg (fun h=>h1 (by omega))]
  have e2:cL f k.clock.now l i=i:=by unfold cL;rw [if_neg (fun h=>h1 (by omega)),e1]
  exact fin i (2*i+1) hi (fun h=>h1 h.2) e2
 rw [aU (aAd ok hl hi hi h1 (by omega) (by omega))]
 have eA:(if bK (bB f l[2*i+1]!) (bB f l[i]!) k.clock.now then 2*i+1 else i)=iU f k.clock.now l i:=by
  unfold iU
  by_cases c:bK (bB f l[2*i+1]!) (bB f l[i]!) k.clock.now
  · rw [if_pos c,if_pos ⟨by omega,c⟩]
  · rw [if_neg c,if_neg (fun h=>c h.2)]
 rw [eA]
 by_cases h2:2*i+1+1<m
 case neg=>
  have e2:cL f k.clock.now l i=iU f k.clock.now l i:=by unfold cL;rw [if_neg (fun h=>h2 (by omega))]
  exact fin _ (2*i+1+1) kA (fun h=>h2 h.2) e2
 have nk:2*i+1+1≠iU f k.clock.now l i:=by rcases jR f k.clock.now l i with h|⟨h,_⟩<;>omega
 rw [aU (aAd ok hl hi kA h2 (by omega) nk)]
 have eG:(if bK (bB f l[2*i+1+1]!) (bB f l[iU f k.clock.now l i]!) k.clock.now then 2*i+1+1 else iU f k.clock.now l i)=cL f k.clock.now l i:=by
  unfold cL
  by_cases c:bK (bB f l[2*i+1+1]!) (bB f l[iU f k.clock.now l i]!) k.clock.now
  · rw [if_pos c,if_pos ⟨by omega,c⟩]
  · rw [if_neg c,if_neg (fun h=>c h.2)]
 rw [eG];exact fin _ (2*i+1+1+1) (by rw [<- eG];split<;>omega) (fun h=>by omega) rfl
theorem aAe (ok:pA k f) {c0:_} {c1:List Int} {l:List Int} (hl:jY f m l) {i b j:Nat} (hi:i<m) (hb:b<m) (hj:j<m) (h2:j<=2*i+2) (hne:j≠b) {p q:Pt}:
 kU c0 c1 ((i:Int),(b:Int),(j:Int),(tJ k f m n0 i (l++[x]) p q).2)=some (.next ((i:Int),((if bK (bB f l[j]!) (bB f l[b]!) k.clock.now then j else b:Nat):Int),((j+1:Nat):Int),(tJ k f m n0 i (l++[x]) p q).2)):=by
 have hm:=hl.len;have m1:=hl.small;have e:aA .i64 (aA .i64 (2*(i:Int))+2)=((2*i+2:Nat):Int):=by
  rw [show aA .i64 (2*(i:Int))=2*(i:Int) from gM ⟨by omega,by omega⟩,gM ⟨by omega,by omega⟩];omega
 have pj:=hl.hp _ (aR (show j<l.length by omega))
 have pb:=hl.hp _ (aR (show b<l.length by omega))
 have ne:l[j]!≠l[b]!:=fun h=>by
  rcases Nat.lt_trichotomy j b with q|q|q
  · exact bV.1 hl.nd _ _ q (by omega) h
  · exact hne q
  · exact bV.1 hl.nd _ _ q (by omega) h.symm
 have a:=GK ok.fok (t:=(k.clock.now.1,k.clock.now.2)) ok.clk.nowv ok.clk.now64 pj pb ne;unfold kU tJ;simp only [aF,e,aN (show (j:Int)<=((2*i+2:Nat):Int) by omega),aN (show (j:Int)<(m:Int) by omega),cond_true,tk hm,aB l j (by omega),aB l b (by omega),aC,bT ok.fok pj,bT ok.fok pb,a,beq_self_eq_true,bA (show j<1000000000 by omega)]
 by_cases c:bK (bB f l[j]!) (bB f l[b]!) k.clock.now
 · rw [show decide (bK (bB f l[j]!) (bB f l[b]!) (k.clock.now.1,k.clock.now.2))=true from aN c,if_pos c];rfl
 · rw [show decide (bK (bB f l[j]!) (bB f l[b]!) (k.clock.now.1,k.clock.now.2))=false from aL c,if_neg c];rfl
theorem aQl {c1:List Int} (hc:c1.length=m+1) {L0:List Int} (h0:L0.length=m+1) {n1 i0:Nat} {l:List Int} (hl:jY f m l) {i b j:Nat} (hi:i<m) (hb:b<m) (he: ¬(j<=2*i+2/\j<m)) {p q:Pt}:
 kU (tS k f m n1 i0 L0) c1 ((i:Int),(b:Int),(j:Int),(tJ k f m n0 i (l++[x]) p q).2)=if b=i then (bE k.clock ⟨f⟩ l).bind fun a=>some (.done (.done (.done a))) else some (.done (.next (tJ k f m n0 b (gW l i b++[x]) p q))):=by
 have hm:=hl.len;have m1:=hl.small;have e:aA .i64 (aA .i64 (2*(i:Int))+2)=((2*i+2:Nat):Int):=by
  rw [show aA .i64 (2*(i:Int))=2*(i:Int) from gM ⟨by omega,by omega⟩,gM ⟨by omega,by omega⟩];omega
 have ec:(aA .i64 ((c1.length:Int) -1)).toNat=m:=by rw [gM ⟨by omega,by omega⟩];omega
 have lx:(l++[x]).length=L0.length:=by rw [List.length_append,List.length_singleton];omega
 have sa:(l++[x]).set i l[b]! =l.set i l[b]!++[x]:=List.set_append_left _ _ (by omega)
 have sb:(l.set i l[b]!++[x]).set b l[i]! =gW l i b++[x]:=List.set_append_left _ _ (by rw [List.length_set];omega)
 have t1:(l.set i l[b]!++[x]).take m=l.set i l[b]!:=tk (by rw [List.length_set];exact hm)
 have g1:=aB (l.set i l[b]!) b (by rw [List.length_set];omega)
 have ceta:(aQ.mk (k.clock.now.1,k.clock.now.2) (Field.mk k.clock.field.points) (bG.mk k.clock.certs.next_ k.clock.certs.list) (aO.mk (aX.mk k.clock.agenda.slots.uses k.clock.agenda.slots.used k.clock.agenda.slots.free) k.clock.agenda.heap k.clock.agenda.where_) k.clock.due)=k.clock:=rfl;unfold kU tS tJ
 by_cases h1:j<=2*i+2
 · have h2: ¬j<m:=fun h=>he ⟨h1,h⟩
   simp only [aF,e,aN (show (j:Int)<=((2*i+2:Nat):Int) by omega),aL (show¬(j:Int)<(m:Int) by omega),cond_true,cond_false,tk hm,aB l i (by omega),aB l b (by omega),aC,fE,sa,sb,t1,g1,lx,beq_self_eq_true,ec,ceta]
   by_cases hbi:b=i
   · rw [if_pos hbi,fY (by omega),cond_true]
   · rw [if_neg hbi,fD (by omega),cond_false]
 · simp only [aF,e,aL (show¬(j:Int)<=((2*i+2:Nat):Int) by omega),cond_true,cond_false,tk hm,aB l i (by omega),aB l b (by omega),aC,fE,sa,sb,t1,g1,lx,beq_self_eq_true,ec,ceta]
   by_cases hbi:b=i
   · rw [if_pos hbi,fY (by omega),cond_true]
   · rw [if_neg hbi,fD (by omega),cond_false]
theorem aS2 (ok:pA k f) {c1:List Int} (hc:c1.length=m+1) {L0:List Int} (h0:L0.length=m+1) {n1 i0:Nat} {l:List Int} (hl:jY f m l) {i:Nat} (hi:i<m) {p q:Pt} {R:List Int->bM×Int} (hR:bE k.clock ⟨f⟩ l=some (R l)):
 aH (kU (tS k f m n1 i0 L0) c1) ((i:Int),(i:Int),((2*i+1:Nat):Int),(tJ k f m n0 i (l++[x]) p q).2)=some (if cL f k.clock.now l i=i then .done (.done (R l)) else .next (tJ k f m n0 (cL f k.clock.now l i) (gW l i (cL f k.clock.now l i)++[x]) p q)):=by
 have hm:=hl.len;have fin: ∀b j:Nat,b<m-> ¬(j<=2*i+2/\j<m)->cL f k.clock.now l i=b->aH (kU (tS k f m n1 i0 L0) c1) ((i:Int),(b:Int),(j:Int),(tJ k f m n0 i (l++[x]) p q).2)=some (if cL f k.clock.now l i=i then .done (.done (R l)) else .next (tJ k f m n0 (cL f k.clock.now l i) (gW l i (cL f k.clock.now l i)++[x]) p q)):=by
  intro b j hb he hk;rw [hk]
  have:=aQl (k:=k) (n0:=n0) (x:=x) hc h0 (n1:=n1) (i0:=i0) hl hi hb he (p:=p) (q:=q)
  by_cases hbi:b=i
  · rw [if_pos hbi,hR,aC] at this
    rw [if_pos hbi];exact aI this
  · rw [if_neg hbi] at this
    rw [if_neg hbi];exact aI this
 have kA:iU f k.clock.now l i<m:=by rcases jR f k.clock.now l i with h|⟨h,h2⟩<;>omega
 by_cases h1:2*i+1<m
 case neg=>
  have e1:iU f k.clock.now l i=i:=by unfold iU;rw [if_neg (fun h=>h1 (by omega))]
  have e2:cL f k.clock.now l i=i:=by unfold cL;rw [if_neg (fun h=>h1 (by omega)),e1]
  exact fin i (2*i+1) hi (fun h=>h1 h.2) e2
 rw [aU (aAe ok hl hi hi h1 (by omega) (by omega) (p:=p) (q:=q))]
 have eA:(if bK (bB f l[2*i+1]!) (bB f l[i]!) k.clock.now then 2*i+1 else i)=iU f k.clock.now l i:=by
  unfold iU
  by_cases c:bK (bB f l[2*i+1]!) (bB f l[i]!) k.clock.now
  · rw [if_pos c,if_pos ⟨by omega,c⟩]
  · rw [if_neg c,if_neg (fun h=>c h.2)]
 rw [eA]
 by_cases h2:2*i+1+1<m
 case neg=>
  have e2:cL f k.clock.now l i=iU f k.clock.now l i:=by unfold cL;rw [if_neg (fun h=>h2 (by omega))]
  exact fin _ (2*i+1+1) kA (fun h=>h2 h.2) e2
 have nk:2*i+1+1≠iU f k.clock.now l i:=by rcases jR f k.clock.now l i with h|⟨h,_⟩<;>omega
 rw [aU (aAe ok hl hi kA h2 (by omega) nk (p:=p) (q:=q))]
 have eG:(if bK (bB f l[2*i+1+1]!) (bB f l[iU f k.clock.now l i]!) k.clock.now then 2*i+1+1 else iU f k.clock.now l i)=cL f k.clock.now l i:=by
  unfold cL
  by_cases c:bK (bB f l[2*i+1+1]!) (bB f l[iU f k.clock.now l i]!) k.clock.now
  · rw [if_pos c,if_pos ⟨by omega,c⟩]
  · rw [if_neg c,if_neg (fun h=>c h.2)]
 rw [eG];exact fin _ (2*i+1+1+1) (by rw [<- eG];split<;>omega) (fun h=>by omega) rfl
theorem aS3 (ok:pA k f) {c1:List Int} (hc:c1.length=m+1) {L0:List Int} (h0:L0.length=m+1) {n1 i0:Nat} {R:List Int->bM×Int} {l0:List Int} (hR: ∀l:List Int,l.Perm l0->bE k.clock ⟨f⟩ l=some (R l)):
 ∀(d:Nat) (l:List Int) (i:Nat),m-i<=d->i<m->jY f m l->l.Perm l0->aH (tV (tS k f m n1 i0 L0) c1) (tS k f m n0 i (l++[x]))=some (.done (R (vR f k.clock.now l i))):=by
 intro d
 induction d with
 |zero=>intro l i h hi;omega
 |succ d ih=>
  intro l i h hi hl pm;have hm:=hl.len;have m1:=hl.small;have e:aA .i64 (aA .i64 (2*(i:Int))+1)=((2*i+1:Nat):Int):=by
   rw [show aA .i64 (2*(i:Int))=2*(i:Int) from gM ⟨by omega,by omega⟩,gM ⟨by omega,by omega⟩];omega
  have g:=aS1 (k:=k) (n0:=n0) (x:=x) ok hc h0 (n1:=n1) (i0:=i0) hl hi (hR l pm);have st:tV (tS k f m n1 i0 L0) c1 (tS k f m n0 i (l++[x]))=some (if cL f k.clock.now l i=i then .done (.done (R l)) else .next (tS k f m n0 (cL f k.clock.now l i) (gW l i (cL f k.clock.now l i)++[x]))):=by
   unfold tV;rw [show (tS k f m n0 i (l++[x])).1=(i:Int) from rfl,e];exact g
  by_cases hk:cL f k.clock.now l i=i
  · rw [if_pos hk] at st
    rw [qB hk];exact aI st
  · rw [if_neg hk] at st
    have kc:=oL f k.clock.now l i;have sp:=kD (l:=l) (i:=i) (j:=cL f k.clock.now l i) (by omega) (by omega)
    rw [aU st,AP hk];exact ih _ _ (by omega) (by omega) ⟨by rw [fA];exact hm,hl.small,fun y hy=>hl.hp y (sp.mem_iff.1 hy),sp.nodup_iff.2 hl.nd⟩ (sp.trans pm)
theorem aS4 (ok:pA k f) {c1:List Int} (hc:c1.length=m+1) {L0:List Int} (h0:L0.length=m+1) {n1 i0:Nat} {p q:Pt} {R:List Int->bM×Int} {l0:List Int} (hR: ∀l:List Int,l.Perm l0->bE k.clock ⟨f⟩ l=some (R l)):
 ∀(d:Nat) (l:List Int) (i:Nat),m-i<=d->i<m->jY f m l->l.Perm l0->aH (tU (tS k f m n1 i0 L0) c1) (tJ k f m n0 i (l++[x]) p q)=some (.done (R (vR f k.clock.now l i))):=by
 intro d
 induction d with
 |zero=>intro l i h hi;omega
 |succ d ih=>
  intro l i h hi hl pm;have hm:=hl.len;have m1:=hl.small;have e:aA .i64 (aA .i64 (2*(i:Int))+1)=((2*i+1:Nat):Int):=by
   rw [show aA .i64 (2*(i:Int))=2*(i:Int) from gM ⟨by omega,by omega⟩,gM ⟨by omega,by omega⟩];omega
  have g:=aS2 (k:=k) (n0:=n0) (x:=x) ok hc h0 (n1:=n1) (i0:=i0) hl hi (p:=p) (q:=q) (hR l pm);have st:tU (tS k f m n1 i0 L0) c1 (tJ k f m n0 i (l++[x]) p q)=some (if cL f k.clock.now l i=i then .done (.done (R l)) else .next (tJ k f m n0 (cL f k.clock.now l i) (gW l i (cL f k.clock.now l i)++[x]) p q)):=by
   unfold tU;rw [show (tJ k f m n0 i (l++[x]) p q).1=(i:Int) from rfl,e];exact g
  by_cases hk:cL f k.clock.now l i=i
  · rw [if_pos hk] at st
    rw [qB hk];exact aI st
  · rw [if_neg hk] at st
    have kc:=oL f k.clock.now l i;have sp:=kD (l:=l) (i:=i) (j:=cL f k.clock.now l i) (by omega) (by omega)
    rw [aU st,AP hk];exact ih _ _ (by omega) (by omega) ⟨by rw [fA];exact hm,hl.small,fun y hy=>hl.hp y (sp.mem_iff.1 hy),sp.nodup_iff.2 hl.nd⟩ (sp.trans pm)
theorem aS5 (ok:pA k f) {c0:List Int} (hc:c0.length=m+1) {c1:Nat} {c2:Int} {R:List Int->bM×Int} {l0:List Int} (hR: ∀l:List Int,l.Perm l0->bE k.clock ⟨f⟩ l=some (R l)):
 ∀(i:Nat) (l:List Int),i<m->jY f m l->l.Perm l0->aH (pJ c0 (c1:Int) c2) (tS k f m n0 i (l++[x]))=some (R (vR f k.clock.now (mH f k.clock.now i l) (vE f k.clock.now i l))):=by
 intro i
 induction i using Nat.strongRecOn with
 |ind i ih=>
  intro l hi hl pm;have hm:=hl.len;have m1:=hl.small;have lx:(l++[x]).length=m+1:=by rw [List.length_append,List.length_singleton];omega
  have sl:(bL c0 (c1:Int) c2).length=m+1:=by rw [fE,List.length_set];exact hc
  cases i with
  |zero=>
   have g:=aS3 (n0:=n0) (x:=x) ok hc lx (n1:=n0) (i0:=0) hR m l 0 (by omega) hi hl pm
   unfold mH vE;refine aI ?_;unfold pJ;rw [show (tS k f m n0 0 (l++[x])).1=0 from rfl,aL (by omega),cond_false]
   rw [show (tS k f m n0 0 (l++[x])).2.2.2.2.2.2.2.2.2.2.2.2.2.2.2.2.2.1=l++[x] from rfl,lx,sl,beq_self_eq_true,cond_true];exact g
  |succ i=>
   have hu:=SH (i:=i+1) (by omega) (by omega)
   rw [show (i+1-1) / 2=i / 2 from rfl] at hu;have pi:=hl.hp _ (aR (show i+1<l.length by omega))
   have pj:=hl.hp _ (aR (show i / 2<l.length by omega))
   have ne:l[i+1]!≠l[i / 2]!:=fun h=>bV.1 hl.nd (i / 2) (i+1) (by omega) (by omega) h.symm
   have a:=GK ok.fok (t:=(k.clock.now.1,k.clock.now.2)) ok.clk.nowv ok.clk.now64 pi pj ne;have g1:=aB l (i+1) (by omega)
   have g2:=aB l (i / 2) (by omega)
   have sa:(l++[x]).set (i+1) l[i / 2]! =l.set (i+1) l[i / 2]!++[x]:=List.set_append_left _ _ (by omega)
   have sb:(l.set (i+1) l[i / 2]!++[x]).set (i / 2) l[i+1]! =gW l (i+1) (i / 2)++[x]:=List.set_append_left _ _ (by rw [List.length_set];omega)
   have t1:(l.set (i+1) l[i / 2]!++[x]).take m=l.set (i+1) l[i / 2]!:=tk (by rw [List.length_set];exact hm)
   have g3:=aB (l.set (i+1) l[i / 2]!) (i / 2) (by rw [List.length_set];omega)
   unfold mH vE
   by_cases c:bK (bB f l[i+1]!) (bB f l[i / 2]!) k.clock.now
   · rw [if_pos c,if_pos c]
     rw [show decide (bK (bB f l[i+1]!) (bB f l[i / 2]!) (k.clock.now.1,k.clock.now.2))=true from aN c] at a;have sp:=kD (l:=l) (i:=i+1) (j:=i / 2) (by omega) (by omega)
     rw [aU (y:=tS k f m n0 (i / 2) (gW l (i+1) (i / 2)++[x])) (by
      unfold pJ tS;simp only [aN (show (0:Int)<((i+1:Nat):Int) by omega),cond_true,tk hm,g1,g2,aC,hu,bT ok.fok pi,bT ok.fok pj,a,beq_self_eq_true,fE,sa,sb,t1,g3])]
     exact ih (i / 2) (by omega) _ (by omega) ⟨by rw [fA];exact hm,hl.small,fun y hy=>hl.hp y (sp.mem_iff.1 hy),sp.nodup_iff.2 hl.nd⟩ (sp.trans pm)
   · rw [if_neg c,if_neg c]
     rw [show decide (bK (bB f l[i+1]!) (bB f l[i / 2]!) (k.clock.now.1,k.clock.now.2))=false from aL c] at a;have g:=aS4 (n0:=n0) (x:=x) ok hc lx (n1:=n0) (i0:=i+1) (p:=bB f l[i+1]!) (q:=bB f l[i / 2]!) hR m l (i+1) (by omega) hi hl pm
     refine aI ?_;unfold pJ
     conv=>lhs;unfold tS
     simp only [aN (show (0:Int)<((i+1:Nat):Int) by omega),cond_true,tk hm,g1,g2,aC,hu,bT ok.fok pi,bT ok.fok pj,a,beq_self_eq_true,cond_false,lx,sl]
     exact g
end
end Go.Proofs.YtfejhjllooomlaaGreat
namespace Go.Proofs.YtfejhjllooomlaaGreat
open Go.Vm Classical
def uS (k:bM) (P:Pt) (f:List Pt) (i:Nat) (L:List Int):=
 ((i:Int),k.clock.now.1,k.clock.now.2,k.clock.field.points,k.clock.certs.next_,k.clock.certs.list,k.clock.agenda.slots.uses,k.clock.agenda.slots.used,k.clock.agenda.slots.free,k.clock.agenda.heap,k.clock.agenda.where_,k.clock.due,k.heap,P.1,P.2.1,P.2.2,(0:Int),(0:Int),(0:Int),f,L,f,k.clock.now.1,k.clock.now.2)
def uJ (k:bM) (P:Pt) (f:List Pt) (i:Nat) (L:List Int) (p q:Pt):=
 ((i:Int),k.clock.now.1,k.clock.now.2,k.clock.field.points,k.clock.certs.next_,k.clock.certs.list,k.clock.agenda.slots.uses,k.clock.agenda.slots.used,k.clock.agenda.slots.free,k.clock.agenda.heap,k.clock.agenda.where_,k.clock.due,k.heap,P.1,P.2.1,P.2.2,(0:Int),(0:Int),(0:Int),f,L,f,k.clock.now.1,k.clock.now.2,p.1,p.2.1,p.2.2,q)
section
variable {k : bM} {P : Pt} {f : List Pt} {m : Nat}
theorem aAf (ok:pA k f) {c0:_} {l:List Int} (hl:jY f m l) {i b j:Nat} (hi:i<m) (hb:b<m) (hj:j<m) (h2:j<=2*i+2) (hne:j≠b):
 iP c0 ((i:Int),(b:Int),(j:Int),(uS k P f i l).2)=some (.next ((i:Int),((if bK (bB f l[j]!) (bB f l[b]!) k.clock.now then j else b:Nat):Int),((j+1:Nat):Int),(uS k P f i l).2)):=by
 have hm:=hl.len;have m1:=hl.small;have e:aA .i64 (aA .i64 (2*(i:Int))+2)=((2*i+2:Nat):Int):=by
  rw [show aA .i64 (2*(i:Int))=2*(i:Int) from gM ⟨by omega,by omega⟩,gM ⟨by omega,by omega⟩];omega
 have pj:=hl.hp _ (aR (show j<l.length by omega))
 have pb:=hl.hp _ (aR (show b<l.length by omega))
 have ne:l[j]!≠l[b]!:=fun h=>by
  rcases Nat.lt_trichotomy j b with q|q|q
  · exact bV.1 hl.nd _ _ q (by omega) h
  · exact hne q
  · exact bV.1 hl.nd _ _ q (by omega) h.symm
 have a:=GK ok.fok (t:=(k.clock.now.1,k.clock.now.2)) ok.clk.nowv ok.clk.now64 pj pb ne;unfold iP uS
 simp only [aF,e,aN (show (j:Int)<=((2*i+2:Nat):Int) by omega),aN (show (j:Int)<(l.length:Int) by omega),cond_true,aB l j (by omega),aB l b (by omega),aC,bT ok.fok pj,bT ok.fok pb,a,beq_self_eq_true,bA (show j<1000000000 by omega)]
 by_cases c:bK (bB f l[j]!) (bB f l[b]!) k.clock.now
 · rw [show decide (bK (bB f l[j]!) (bB f l[b]!) (k.clock.now.1,k.clock.now.2))=true from aN c,if_pos c];rfl
 · rw [show decide (bK (bB f l[j]!) (bB f l[b]!) (k.clock.now.1,k.clock.now.2))=false from aL c,if_neg c];rfl
theorem aQm {L0:List Int} (h0:L0.length=m) {i0:Nat} {l:List Int} (hl:jY f m l) {i b j:Nat} (hi:i<m) (hb:b<m) (he: ¬(j<=2*i+2/\j<m)):
 iP (uS k P f i0 L0) ((i:Int),(b:Int),(j:Int),(uS k P f i l).2)=if b=i then (bE k.clock ⟨f⟩ l).bind fun a=>some (.done (.done (.done a))) else some (.done (.next (uS k P f b (gW l i b)))):=by
 have hm:=hl.len;have m1:=hl.small;have e:aA .i64 (aA .i64 (2*(i:Int))+2)=((2*i+2:Nat):Int):=by
  rw [show aA .i64 (2*(i:Int))=2*(i:Int) from gM ⟨by omega,by omega⟩,gM ⟨by omega,by omega⟩];omega
 have lx:l.length=L0.length:=by omega
 have g1:=aB (l.set i l[b]!) b (by rw [List.length_set];omega)
 have ceta:(aQ.mk (k.clock.now.1,k.clock.now.2) (Field.mk k.clock.field.points) (bG.mk k.clock.certs.next_ k.clock.certs.list) (aO.mk (aX.mk k.clock.agenda.slots.uses k.clock.agenda.slots.used k.clock.agenda.slots.free) k.clock.agenda.heap k.clock.agenda.where_) k.clock.due)=k.clock:=rfl;unfold iP uS
 by_cases h1:j<=2*i+2
 · have h2: ¬j<m:=fun h=>he ⟨h1,h⟩
   simp only [aF,e,aN (show (j:Int)<=((2*i+2:Nat):Int) by omega),aL (show¬(j:Int)<(l.length:Int) by omega),aL (show¬(j:Int)<(L0.length:Int) by omega),cond_true,cond_false,aB l i (by omega),aB l b (by omega),aC,fE,g1,lx,beq_self_eq_true,ceta]
   by_cases hbi:b=i
   · rw [if_pos hbi,fY (by omega),cond_true]
   · rw [if_neg hbi,fD (by omega),cond_false];rfl
 · simp only [aF,e,aL (show¬(j:Int)<=((2*i+2:Nat):Int) by omega),cond_true,cond_false,aB l i (by omega),aB l b (by omega),aC,fE,g1,lx,beq_self_eq_true,ceta]
   by_cases hbi:b=i
   · rw [if_pos hbi,fY (by omega),cond_true]
   · rw [if_neg hbi,fD (by omega),cond_false];rfl
theorem aS6 (ok:pA k f) {L0:List Int} (h0:L0.length=m) {i0:Nat} {l:List Int} (hl:jY f m l) {i:Nat} (hi:i<m) {R:List Int->bM×Int} (hR:bE k.clock ⟨f⟩ l=some (R l)):
 aH (iP (uS k P f i0 L0)) ((i:Int),(i:Int),((2*i+1:Nat):Int),(uS k P f i l).2)=some (if cL f k.clock.now l i=i then .done (.done (R l)) else .next (uS k P f (cL f k.clock.now l i) (gW l i (cL f k.clock.now l i)))):=by
 have hm:=hl.len;have fin: ∀b j:Nat,b<m-> ¬(j<=2*i+2/\j<m)->cL f k.clock.now l i=b->aH (iP (uS k P f i0 L0)) ((i:Int),(b:Int),(j:Int),(uS k P f i l).2)=some (if cL f k.clock.now l i=i then .done (.done (R l)) else .next (uS k P f (cL f k.clock.now l i) (gW l i (cL f k.clock.now l i)))):=by
  intro b j hb he hk;rw [hk]
  have:=aQm (k:=k) (P:=P) h0 (i0:=i0) hl hi hb he
  by_cases hbi:b=i
  · rw [if_pos hbi,hR,aC] at this
    rw [if_pos hbi];exact aI this
  · rw [if_neg hbi] at this
    rw [if_neg hbi];exact aI this
 have kA:iU f k.clock.now l i<m:=by rcases jR f k.clock.now l i with h|⟨h,h2⟩<;>omega
 by_cases h1:2*i+1<m
 case neg=>
  have e1:iU f k.clock.now l i=i:=by unfold iU;rw [if_neg (fun h=>h1 (by omega))]
  have e2:cL f k.clock.now l i=i:=by unfold cL;rw [if_neg (fun h=>h1 (by omega)),e1]
  exact fin i (2*i+1) hi (fun h=>h1 h.2) e2
 rw [aU (aAf ok hl hi hi h1 (by omega) (by omega))]
 have eA:(if bK (bB f l[2*i+1]!) (bB f l[i]!) k.clock.now then 2*i+1 else i)=iU f k.clock.now l i:=by
  unfold iU
  by_cases c:bK (bB f l[2*i+1]!) (bB f l[i]!) k.clock.now
  · rw [if_pos c,if_pos ⟨by omega,c⟩]
  · rw [if_neg c,if_neg (fun h=>c h.2)]
 rw [eA]
 by_cases h2:2*i+1+1<m
 case neg=>
  have e2:cL f k.clock.now l i=iU f k.clock.now l i:=by unfold cL;rw [if_neg (fun h=>h2 (by omega))]
  exact fin _ (2*i+1+1) kA (fun h=>h2 h.2) e2
 have nk:2*i+1+1≠iU f k.clock.now l i:=by rcases jR f k.clock.now l i with h|⟨h,_⟩<;>omega
 rw [aU (aAf ok hl hi kA h2 (by omega) nk)]
 have eG:(if bK (bB f l[2*i+1+1]!) (bB f l[iU f k.clock.now l i]!) k.clock.now then 2*i+1+1 else iU f k.clock.now l i)=cL f k.clock.now l i:=by
  unfold cL
  by_cases c:bK (bB f l[2*i+1+1]!) (bB f l[iU f k.clock.now l i]!) k.clock.now
  · rw [if_pos c,if_pos ⟨by omega,c⟩]
  · rw [if_neg c,if_neg (fun h=>c h.2)]
 rw [eG];exact fin _ (2*i+1+1+1) (by rw [<- eG];split<;>omega) (fun h=>by omega) rfl
theorem aAg (ok:pA k f) {c0:_} {l:List Int} (hl:jY f m l) {i b j:Nat} (hi:i<m) (hb:b<m) (hj:j<m) (h2:j<=2*i+2) (hne:j≠b) {p q:Pt}:
 iO c0 ((i:Int),(b:Int),(j:Int),(uJ k P f i l p q).2)=some (.next ((i:Int),((if bK (bB f l[j]!) (bB f l[b]!) k.clock.now then j else b:Nat):Int),((j+1:Nat):Int),(uJ k P f i l p q).2)):=by
 have hm:=hl.len;have m1:=hl.small;have e:aA .i64 (aA .i64 (2*(i:Int))+2)=((2*i+2:Nat):Int):=by
  rw [show aA .i64 (2*(i:Int))=2*(i:Int) from gM ⟨by omega,by omega⟩,gM ⟨by omega,by omega⟩];omega
 have pj:=hl.hp _ (aR (show j<l.length by omega))
 have pb:=hl.hp _ (aR (show b<l.length by omega))
 have ne:l[j]!≠l[b]!:=fun h=>by
  rcases Nat.lt_trichotomy j b with q|q|q
  · exact bV.1 hl.nd _ _ q (by omega) h
  · exact hne q
  · exact bV.1 hl.nd _ _ q (by omega) h.symm
 have a:=GK ok.fok (t:=(k.clock.now.1,k.clock.now.2)) ok.clk.nowv ok.clk.now64 pj pb ne;unfold iO uJ
 simp only [aF,e,aN (show (j:Int)<=((2*i+2:Nat):Int) by omega),aN (show (j:Int)<(l.length:Int) by omega),cond_true,aB l j (by omega),aB l b (by omega),aC,bT ok.fok pj,bT ok.fok pb,a,beq_self_eq_true,bA (show j<1000000000 by omega)]
 by_cases c:bK (bB f l[j]!) (bB f l[b]!) k.clock.now
 · rw [show decide (bK (bB f l[j]!) (bB f l[b]!) (k.clock.now.1,k.clock.now.2))=true from aN c,if_pos c];rfl
 · rw [show decide (bK (bB f l[j]!) (bB f l[b]!) (k.clock.now.1,k.clock.now.2))=false from aL c,if_neg c];rfl
theorem aQn {L0:List Int} (h0:L0.length=m) {i0:Nat} {l:List Int} (hl:jY f m l) {i b j:Nat} (hi:i<m) (hb:b<m) (he: ¬(j<=2*i+2/\j<m)) {p q:Pt}:
 iO (uS k P f i0 L0) ((i:Int),(b:Int),(j:Int),(uJ k P f i l p q).2)=if b=i then (bE k.clock ⟨f⟩ l).bind fun a=>some (.done (.done (.done a))) else some (.done (.next (uJ k P f b (gW l i b) p q))):=by
 have hm:=hl.len;have m1:=hl.small;have e:aA .i64 (aA .i64 (2*(i:Int))+2)=((2*i+2:Nat):Int):=by
  rw [show aA .i64 (2*(i:Int))=2*(i:Int) from gM ⟨by omega,by omega⟩,gM ⟨by omega,by omega⟩];omega
 have lx:l.length=L0.length:=by omega
 have g1:=aB (l.set i l[b]!) b (by rw [List.length_set];omega)
 have ceta:(aQ.mk (k.clock.now.1,k.clock.now.2) (Field.mk k.clock.field.points) (bG.mk k.clock.certs.next_ k.clock.certs.list) (aO.mk (aX.mk k.clock.agenda.slots.uses k.clock.agenda.slots.used k.clock.agenda.slots.free) k.clock.agenda.heap k.clock.agenda.where_) k.clock.due)=k.clock:=rfl;unfold iO uS uJ
 by_cases h1:j<=2*i+2
 · have h2: ¬j<m:=fun h=>he ⟨h1,h⟩
   simp only [aF,e,aN (show (j:Int)<=((2*i+2:Nat):Int) by omega),aL (show¬(j:Int)<(l.length:Int) by omega),aL (show¬(j:Int)<(L0.length:Int) by omega),cond_true,cond_false,aB l i (by omega),aB l b (by omega),aC,fE,g1,lx,beq_self_eq_true,ceta]
   by_cases hbi:b=i
   · rw [if_pos hbi,fY (by omega),cond_true]
   · rw [if_neg hbi,fD (by omega),cond_false];rfl
 · simp only [aF,e,aL (show¬(j:Int)<=((2*i+2:Nat):Int) by omega),cond_true,cond_false,aB l i (by omega),aB l b (by omega),aC,fE,g1,lx,beq_self_eq_true,ceta]
   by_cases hbi:b=i
   · rw [if_pos hbi,fY (by omega),cond_true]
   · rw [if_neg hbi,fD (by omega),cond_false];rfl
theorem aS7 (ok:pA k f) {L0:List Int} (h0:L0.length=m) {i0:Nat} {l:List Int} (hl:jY f m l) {i:Nat} (hi:i<m) {p q:Pt} {R:List Int->bM×Int} (hR:bE k.clock ⟨f⟩ l=some (R l)):
 aH (iO (uS k P f i0 L0)) ((i:Int),(i:Int),((2*i+1:Nat):Int),(uJ k P f i l p q).2)=some (if cL f k.clock.now l i=i then .done (.done (R l)) else .next (uJ k P f (cL f k.clock.now l i) (gW l i (cL f k.clock.now l i)) p q)):=by
 have hm:=hl.len;have fin: ∀b j:Nat,b<m-> ¬(j<=2*i+2/\j<m)->cL f k.clock.now l i=b->aH (iO (uS k P f i0 L0)) ((i:Int),(b:Int),(j:Int),(uJ k P f i l p q).2)=some (if cL f k.clock.now l i=i then .done (.done (R l)) else .next (uJ k P f (cL f k.clock.now l i) (gW l i (cL f k.clock.now l i)) p q)):=by
  intro b j hb he hk;rw [hk]
  have:=aQn (k:=k) (P:=P) h0 (i0:=i0) hl hi hb he (p:=p) (q:=q)
  by_cases hbi:b=i
  · rw [if_pos hbi,hR,aC] at this
    rw [if_pos hbi];exact aI this
  · rw [if_neg hbi] at this
    rw [if_neg hbi];exact aI this
 have kA:iU f k.clock.now l i<m:=by rcases jR f k.clock.now l i with h|⟨h,h2⟩<;>omega
 by_cases h1:2*i+1<m
 case neg=>
  have e1:iU f k.clock.now l i=i:=by unfold iU;rw [if_neg (fun h=>h1 (by omega))]
  have e2:cL f k.clock.now l i=i:=by unfold cL;rw [if_neg (fun h=>h1 (by omega)),e1]
  exact fin i (2*i+1) hi (fun h=>h1 h.2) e2
 rw [aU (aAg ok hl hi hi h1 (by omega) (by omega) (p:=p) (q:=q))]
 have eA:(if bK (bB f l[2*i+1]!) (bB f l[i]!) k.clock.now then 2*i+1 else i)=iU f k.clock.now l i:=by
  unfold iU
  by_cases c:bK (bB f l[2*i+1]!) (bB f l[i]!) k.clock.now
  · rw [if_pos c,if_pos ⟨by omega,c⟩]
  · rw [if_neg c,if_neg (fun h=>c h.2)]
 rw [eA]
 by_cases h2:2*i+1+1<m
 case neg=>
  have e2:cL f k.clock.now l i=iU f k.clock.now l i:=by unfold cL;rw [if_neg (fun h=>h2 (by omega))]
  exact fin _ (2*i+1+1) kA (fun h=>h2 h.2) e2
 have nk:2*i+1+1≠iU f k.clock.now l i:=by rcases jR f k.clock.now l i with h|⟨h,_⟩<;>omega
 rw [aU (aAg ok hl hi kA h2 (by omega) nk (p:=p) (q:=q))]
 have eG:(if bK (bB f l[2*i+1+1]!) (bB f l[iU f k.clock.now l i]!) k.clock.now then 2*i+1+1 else iU f k.clock.now l i)=cL f k.clock.now l i:=by
  unfold cL
  by_cases c:bK (bB f l[2*i+1+1]!) (bB f l[iU f k.clock.now l i]!) k.clock.now
  · rw [if_pos c,if_pos ⟨by omega,c⟩]
  · rw [if_neg c,if_neg (fun h=>c h.2)]
 rw [eG];exact fin _ (2*i+1+1+1) (by rw [<- eG];split<;>omega) (fun h=>by omega) rfl
theorem aS8 (ok:pA k f) {L0:List Int} (h0:L0.length=m) {i0:Nat} {R:List Int->bM×Int} {l0:List Int} (hR: ∀l:List Int,l.Perm l0->bE k.clock ⟨f⟩ l=some (R l)):
 ∀(d:Nat) (l:List Int) (i:Nat),m-i<=d->i<m->jY f m l->l.Perm l0->aH (pS (uS k P f i0 L0)) (uS k P f i l)=some (.done (R (vR f k.clock.now l i))):=by
 intro d
 induction d with
 |zero=>intro l i h hi;omega
 |succ d ih=>
  intro l i h hi hl pm;have hm:=hl.len;have m1:=hl.small;have e:aA .i64 (aA .i64 (2*(i:Int))+1)=((2*i+1:Nat):Int):=by
   rw [show aA .i64 (2*(i:Int))=2*(i:Int) from gM ⟨by omega,by omega⟩,gM ⟨by omega,by omega⟩];omega
  have g:=aS6 (k:=k) (P:=P) ok h0 (i0:=i0) hl hi (hR l pm);have st:pS (uS k P f i0 L0) (uS k P f i l)=some (if cL f k.clock.now l i=i then .done (.done (R l)) else .next (uS k P f (cL f k.clock.now l i) (gW l i (cL f k.clock.now l i)))):=by
   unfold pS;rw [show (uS k P f i l).1=(i:Int) from rfl,e];exact g
  by_cases hk:cL f k.clock.now l i=i
  · rw [if_pos hk] at st
    rw [qB hk];exact aI st
  · rw [if_neg hk] at st
    have kc:=oL f k.clock.now l i;have sp:=kD (l:=l) (i:=i) (j:=cL f k.clock.now l i) (by omega) (by omega)
    rw [aU st,AP hk];exact ih _ _ (by omega) (by omega) ⟨by rw [fA];exact hm,hl.small,fun y hy=>hl.hp y (sp.mem_iff.1 hy),sp.nodup_iff.2 hl.nd⟩ (sp.trans pm)
theorem aS9 (ok:pA k f) {L0:List Int} (h0:L0.length=m) {i0:Nat} {p q:Pt} {R:List Int->bM×Int} {l0:List Int} (hR: ∀l:List Int,l.Perm l0->bE k.clock ⟨f⟩ l=some (R l)):
 ∀(d:Nat) (l:List Int) (i:Nat),m-i<=d->i<m->jY f m l->l.Perm l0->aH (pR (uS k P f i0 L0)) (uJ k P f i l p q)=some (.done (R (vR f k.clock.now l i))):=by
 intro d
 induction d with
 |zero=>intro l i h hi;omega
 |succ d ih=>
  intro l i h hi hl pm;have hm:=hl.len;have m1:=hl.small;have e:aA .i64 (aA .i64 (2*(i:Int))+1)=((2*i+1:Nat):Int):=by
   rw [show aA .i64 (2*(i:Int))=2*(i:Int) from gM ⟨by omega,by omega⟩,gM ⟨by omega,by omega⟩];omega
  have g:=aS7 (k:=k) (P:=P) ok h0 (i0:=i0) hl hi (p:=p) (q:=q) (hR l pm);have st:pR (uS k P f i0 L0) (uJ k P f i l p q)=some (if cL f k.clock.now l i=i then .done (.done (R l)) else .next (uJ k P f (cL f k.clock.now l i) (gW l i (cL f k.clock.now l i)) p q)):=by
   unfold pR;rw [show (uJ k P f i l p q).1=(i:Int) from rfl,e];exact g
  by_cases hk:cL f k.clock.now l i=i
  · rw [if_pos hk] at st
    rw [qB hk];exact aI st
  · rw [if_neg hk] at st
    have kc:=oL f k.clock.now l i;have sp:=kD (l:=l) (i:=i) (j:=cL f k.clock.now l i) (by omega) (by omega)
    rw [aU st,AP hk];exact ih _ _ (by omega) (by omega) ⟨by rw [fA];exact hm,hl.small,fun y hy=>hl.hp y (sp.mem_iff.1 hy),sp.nodup_iff.2 hl.nd⟩ (sp.trans pm)
theorem aTa (ok:pA k f) {c0:List Int} (hc:c0.length=m) {R:List Int->bM×Int} {l0:List Int} (hR: ∀l:List Int,l.Perm l0->bE k.clock ⟨f⟩ l=some (R l)):
 ∀(i:Nat) (l:List Int),i<m->jY f m l->l.Perm l0->aH (nB c0) (uS k P f i l)=some (R (vR f k.clock.now (mH f k.clock.now i l) (vE f k.clock.now i l))):=by
 intro i
 induction i using Nat.strongRecOn with
 |ind i ih=>
  intro l hi hl pm;have hm:=hl.len;have m1:=hl.small;have lx:l.length=m:=hm;cases i with
  |zero=>
   have g:=aS8 (P:=P) ok lx (i0:=0) hR m l 0 (by omega) hi hl pm
   unfold mH vE;refine aI ?_;unfold nB;rw [show (uS k P f 0 l).1=0 from rfl,aL (by omega),cond_false]
   rw [show (uS k P f 0 l).2.2.2.2.2.2.2.2.2.2.2.2.2.2.2.2.2.2.2.2.1=l from rfl,lx,hc,beq_self_eq_true,cond_true];exact g
  |succ i=>
   have hu:=SH (i:=i+1) (by omega) (by omega)
   rw [show (i+1-1) / 2=i / 2 from rfl] at hu;have pi:=hl.hp _ (aR (show i+1<l.length by omega))
   have pj:=hl.hp _ (aR (show i / 2<l.length by omega))
   have ne:l[i+1]!≠l[i / 2]!:=fun h=>bV.1 hl.nd (i / 2) (i+1) (by omega) (by omega) h.symm
   have a:=GK ok.fok (t:=(k.clock.now.1,k.clock.now.2)) ok.clk.nowv ok.clk.now64 pi pj ne;have g1:=aB l (i+1) (by omega)
   have g2:=aB l (i / 2) (by omega)
   have g3:=aB (l.set (i+1) l[i / 2]!) (i / 2) (by rw [List.length_set];omega)
   unfold mH vE
   by_cases c:bK (bB f l[i+1]!) (bB f l[i / 2]!) k.clock.now
   · rw [if_pos c,if_pos c]
     rw [show decide (bK (bB f l[i+1]!) (bB f l[i / 2]!) (k.clock.now.1,k.clock.now.2))=true from aN c] at a;have sp:=kD (l:=l) (i:=i+1) (j:=i / 2) (by omega) (by omega)
     rw [aU (y:=uS k P f (i / 2) (gW l (i+1) (i / 2))) (by
      unfold nB uS;simp only [aN (show (0:Int)<((i+1:Nat):Int) by omega),cond_true,g1,g2,aC,hu,bT ok.fok pi,bT ok.fok pj,a,beq_self_eq_true,fE,g3]
      rfl)]
     exact ih (i / 2) (by omega) _ (by omega) ⟨by rw [fA];exact hm,hl.small,fun y hy=>hl.hp y (sp.mem_iff.1 hy),sp.nodup_iff.2 hl.nd⟩ (sp.trans pm)
   · rw [if_neg c,if_neg c]
     rw [show decide (bK (bB f l[i+1]!) (bB f l[i / 2]!) (k.clock.now.1,k.clock.now.2))=false from aL c] at a;have g:=aS9 (P:=P) ok lx (i0:=i+1) (p:=bB f l[i+1]!) (q:=bB f l[i / 2]!) hR m l (i+1) (by omega) hi hl pm
     refine aI ?_;unfold nB
     conv=>lhs;unfold uS
     simp only [aN (show (0:Int)<((i+1:Nat):Int) by omega),cond_true,g1,g2,aC,hu,bT ok.fok pi,bT ok.fok pj,a,beq_self_eq_true,cond_false,lx,hc]
     exact g
end
end Go.Proofs.YtfejhjllooomlaaGreat
namespace Go.Proofs.YtfejhjllooomlaaGreat
open Go.Vm Classical
end Go.Proofs.YtfejhjllooomlaaGreat
namespace Go.Proofs.YtfejhjllooomlaaGreat
open Go.Vm Classical
def vS (k:bM) (P:Pt) (f:List Pt) (i:Nat) (L:List Int):=
 ((i:Int),k.clock.now.1,k.clock.now.2,k.clock.field.points,k.clock.certs.next_,k.clock.certs.list,k.clock.agenda.slots.uses,k.clock.agenda.slots.used,k.clock.agenda.slots.free,k.clock.agenda.heap,k.clock.agenda.where_,k.clock.due,k.heap,P.1,P.2.1,P.2.2,(0:Int),(0:Int),(0:Int),f,[P.1],L,f,k.clock.now.1,k.clock.now.2)
theorem aTb {k:bM} {P:Pt} {f:List Pt} {m:Nat} (ok:pA k f) {c0:Pt} {c1:List Int} (hc:c1.length=m) {R:List Int->bM×Int} {l0:List Int} (hR: ∀l:List Int,l.Perm l0->bE k.clock ⟨f⟩ l=some (R l)):
 ∀(i:Nat) (l:List Int),i<m->jY f m l->l.Perm l0->aH (rS c0 c1) (vS k P f i l)=some (R (mH f k.clock.now i l)):=by
 have ceta:(aQ.mk (k.clock.now.1,k.clock.now.2) (Field.mk k.clock.field.points) (bG.mk k.clock.certs.next_ k.clock.certs.list) (aO.mk (aX.mk k.clock.agenda.slots.uses k.clock.agenda.slots.used k.clock.agenda.slots.free) k.clock.agenda.heap k.clock.agenda.where_) k.clock.due)=k.clock:=rfl;intro i
 induction i using Nat.strongRecOn with
 |ind i ih=>
  intro l hi hl pm;have hm:=hl.len;have m1:=hl.small;have lx:l.length=m:=hm;cases i with
  |zero=>
   unfold mH;refine aI ?_;unfold rS vS;simp only [aL (show¬(0:Int)<((0:Nat):Int) by omega),cond_false,List.length_singleton,lx,hc,beq_self_eq_true,cond_true,ceta,hR l pm,aC]
  |succ i=>
   have hu:=SH (i:=i+1) (by omega) (by omega)
   rw [show (i+1-1) / 2=i / 2 from rfl] at hu;have pi:=hl.hp _ (aR (show i+1<l.length by omega))
   have pj:=hl.hp _ (aR (show i / 2<l.length by omega))
   have ne:l[i+1]!≠l[i / 2]!:=fun h=>bV.1 hl.nd (i / 2) (i+1) (by omega) (by omega) h.symm
   have a:=GK ok.fok (t:=(k.clock.now.1,k.clock.now.2)) ok.clk.nowv ok.clk.now64 pi pj ne;have g1:=aB l (i+1) (by omega)
   have g2:=aB l (i / 2) (by omega)
   have g3:=aB (l.set (i+1) l[i / 2]!) (i / 2) (by rw [List.length_set];omega)
   unfold mH
   by_cases c:bK (bB f l[i+1]!) (bB f l[i / 2]!) k.clock.now
   · rw [if_pos c]
     rw [show decide (bK (bB f l[i+1]!) (bB f l[i / 2]!) (k.clock.now.1,k.clock.now.2))=true from aN c] at a;have sp:=kD (l:=l) (i:=i+1) (j:=i / 2) (by omega) (by omega)
     rw [aU (y:=vS k P f (i / 2) (gW l (i+1) (i / 2))) (by
      unfold rS vS;simp only [aN (show (0:Int)<((i+1:Nat):Int) by omega),cond_true,g1,g2,aC,hu,bT ok.fok pi,bT ok.fok pj,a,beq_self_eq_true,fE,g3]
      rfl)]
     exact ih (i / 2) (by omega) _ (by omega) ⟨by rw [fA];exact hm,hl.small,fun y hy=>hl.hp y (sp.mem_iff.1 hy),sp.nodup_iff.2 hl.nd⟩ (sp.trans pm)
   · rw [if_neg c]
     rw [show decide (bK (bB f l[i+1]!) (bB f l[i / 2]!) (k.clock.now.1,k.clock.now.2))=false from aL c] at a;refine aI ?_;unfold rS vS;simp only [aN (show (0:Int)<((i+1:Nat):Int) by omega),cond_true,g1,g2,aC,hu,bT ok.fok pi,bT ok.fok pj,a,beq_self_eq_true,cond_false,List.length_singleton,lx,hc,ceta,hR l pm]
end Go.Proofs.YtfejhjllooomlaaGreat
namespace Go.Proofs.YtfejhjllooomlaaGreat
abbrev Nd:=Int×Int×Int
structure VV (P:Nat->Nat->Prop) (a b i:Nat):Prop where
 lo:a<=i
 hi:i<b
 top: ∀j,a<=j->j<b->j≠i->P i j
inductive rZ (P:Nat->Nat->Prop) (N:List Nd):Nat->Nat->Int->Prop
 |nil {a b:Nat} (h:b<=a):rZ P N a b (-1)
 |node {a b i:Nat} (h:VV P a b i) (l:rZ P N a i (N[i]!).2.1) (r:rZ P N (i+1) b (N[i]!).2.2):rZ P N a b (i:Int)
structure aKp (P:Nat->Nat->Prop) (n:Nat):Prop where
 tr: ∀i j k,i<n->j<n->k<n->P i j->P j k->P i k
 asy: ∀i j,i<n->j<n->P i j-> ¬P j i
 tot: ∀i j,i<n->j<n->i≠j-> ¬P i j->P j i
theorem VV.one {P:Nat->Nat->Prop} {n a b i j:Nat} (o:aKp P n) (hb:b<=n) (h:VV P a b i) (k:VV P a b j):i=j:=by
 refine Classical.byContradiction fun hne=>?_
 have:=h.hi;have:=k.hi
 exact o.asy i j (by omega) (by omega) (h.top j k.lo k.hi (fun e=>hne e.symm)) (k.top i h.lo h.hi hne)
theorem rZ.link {P:Nat->Nat->Prop} {N:List Nd} {a b:Nat} {r:Int} (h:rZ P N a b r):(b<=a/\r= -1)\/(∃i:Nat,r=(i:Int)/\a<=i/\i<b):=by
 cases h with
 |nil h=>exact .inl ⟨h,rfl⟩
 |node h l r=>exact .inr ⟨_,rfl,h.lo,h.hi⟩
theorem rZ.unique {P:Nat->Nat->Prop} {n:Nat} (o:aKp P n) {N N':List Nd} {a b:Nat} {r:Int} (h:rZ P N a b r): ∀{r':Int},b<=n->rZ P N' a b r'->r=r'/\ ∀k,a<=k->k<b->(N[k]!).2=(N'[k]!).2:=by
 induction h with
 |nil h=>
  intro r' hb h';cases h' with
  |nil _=>exact ⟨rfl,fun k h1 h2=>by omega⟩
  |node t _ _=>have:=t.lo;have:=t.hi;omega
 | @node a b i h l r ihl ihr=>
  intro r' hb h';have lo:=h.lo;have hi:=h.hi;cases h' with
  |nil q=>omega
  | @node _ _ j t l' r'=>
   have e:=h.one o hb t;subst e;obtain ⟨e1,f1⟩:=ihl (by omega) l'
   obtain ⟨e2,f2⟩:=ihr hb r';refine ⟨rfl,fun k h1 h2=>?_⟩
   rcases Nat.lt_trichotomy k i with q|q|q
   · exact f1 k h1 q
   · subst q;exact Prod.ext e1 e2
   · exact f2 k (by omega) h2
theorem rZ.other {P Q:Nat->Nat->Prop} {n:Nat} (o:aKp Q n) {N:List Nd} {a b:Nat} {r:Int} (h:rZ P N a b r):b<=n->(∀k j:Nat,a<=k->k<b->a<=j->j<b->((N[k]!).2.1=(j:Int)\/(N[k]!).2.2=(j:Int))->Q k j)->rZ Q N a b r:=by
 induction h with
 |nil h=>exact fun _ _=> .nil h
 | @node a b i h l r ihl ihr=>
  intro hb q;have lo:=h.lo;have hi:=h.hi;have tl:=ihl (by omega) fun k j h1 h2 h3 h4=>q k j h1 (by omega) h3 (by omega)
  have tr:=ihr hb fun k j h1 h2 h3 h4=>q k j (by omega) h2 (by omega) h4
  refine .node ⟨lo,hi,fun j h1 h2 hne=>?_⟩ tl tr
  rcases Nat.lt_or_ge j i with hj|hj
  · generalize hr:(N[i]!).2.1=s at tl
    cases tl with
    |nil q=>omega
    | @node _ _ m t _ _=>
     have t1:=t.lo;have t2:=t.hi;have qm:=q i m lo hi t1 (by omega) (.inl hr)
     by_cases e:j=m
     · rw [e];exact qm
     · exact o.tr i m j (by omega) (by omega) (by omega) qm (t.top j h1 hj e)
  · generalize hr:(N[i]!).2.2=s at tr
    cases tr with
    |nil q=>omega
    | @node _ _ m t _ _=>
     have t1:=t.lo;have t2:=t.hi;have qm:=q i m lo hi (by omega) t2 (.inr hr)
     by_cases e:j=m
     · rw [e];exact qm
     · exact o.tr i m j (by omega) (by omega) (by omega) qm (t.top j (by omega) h2 e)
theorem rZ.kids {P:Nat->Nat->Prop} {N:List Nd} {a b:Nat} {r:Int} (h:rZ P N a b r): ∀k,a<=k->k<b-> ∀c:Int,((N[k]!).2.1=c\/(N[k]!).2.2=c)->c= -1\/ ∃j:Nat,c=(j:Int)/\a<=j/\j<b/\j≠k/\P k j/\r≠c:=by
 induction h with
 |nil h=>intro k h1 h2;omega
 | @node a b i h l r ihl ihr=>
  have lo:=h.lo;have hi:=h.hi;intro k h1 h2 c hc;rcases Nat.lt_trichotomy k i with q|q|q
  · rcases ihl k h1 q c hc with e|⟨j,e,j1,j2,j3,j4,_⟩
    · exact .inl e
    · exact .inr ⟨j,e,j1,by omega,j3,j4,by rw [e];omega⟩
  · subst q
    rcases hc with hc|hc
    · rcases l.link with ⟨_,e⟩|⟨j,e,j1,j2⟩
      · exact .inl (hc▸e)
      · exact .inr ⟨j,hc▸e,j1,by omega,by omega,h.top j j1 (by omega) (by omega),by rw [<- hc,e];omega⟩
    · rcases r.link with ⟨_,e⟩|⟨j,e,j1,j2⟩
      · exact .inl (hc▸e)
      · exact .inr ⟨j,hc▸e,by omega,j2,by omega,h.top j (by omega) j2 (by omega),by rw [<- hc,e];omega⟩
  · rcases ihr k (by omega) h2 c hc with e|⟨j,e,j1,j2,j3,j4,_⟩
    · exact .inl e
    · exact .inr ⟨j,e,by omega,j2,j3,j4,by rw [e];omega⟩
theorem rZ.up {P:Nat->Nat->Prop} {N:List Nd} {a b:Nat} {r:Int} (h:rZ P N a b r): ∀k:Nat,a<=k->k<b->(k:Int)≠r-> ∃j,a<=j/\j<b/\((N[j]!).2.1=(k:Int)\/(N[j]!).2.2=(k:Int))/\ ∀m,a<=m->m<b->((N[m]!).2.1=(k:Int)\/(N[m]!).2.2=(k:Int))->m=j:=by
 induction h with
 |nil h=>intro k h1 h2;omega
 | @node a b i h l r ihl ihr=>
  have lo:=h.lo;have hi:=h.hi;have lk:=l.kids;have rk:=r.kids;intro k h1 h2 hne;have hki:k≠i:=fun e=>hne (by rw [e])
  rcases Nat.lt_or_ge k i with q|q
  · by_cases er:(k:Int)=(N[i]!).2.1
    · refine ⟨i,lo,hi,.inl er.symm,fun m m1 m2 hm=>?_⟩
      rcases Nat.lt_trichotomy m i with w|w|w
      · rcases lk m m1 w _ hm with e|⟨j,e,_,_,_,_,hr⟩
        · omega
        · exact absurd er.symm hr
      · exact w
      · rcases rk m (by omega) m2 _ hm with e|⟨j,e,j1,_⟩<;>omega
    · obtain ⟨j,j1,j2,j3,j4⟩:=ihl k h1 q er
      refine ⟨j,j1,by omega,j3,fun m m1 m2 hm=>?_⟩
      rcases Nat.lt_trichotomy m i with w|w|w
      · exact j4 m m1 w hm
      · subst w
        rcases hm with hm|hm
        · exact absurd hm.symm er
        · rcases r.link with ⟨_,e⟩|⟨p,e,p1,p2⟩<;>omega
      · rcases rk m (by omega) m2 _ hm with e|⟨p,e,p1,_⟩<;>omega
  · by_cases er:(k:Int)=(N[i]!).2.2
    · refine ⟨i,lo,hi,.inr er.symm,fun m m1 m2 hm=>?_⟩
      rcases Nat.lt_trichotomy m i with w|w|w
      · rcases lk m m1 w _ hm with e|⟨j,e,_,j2,_⟩<;>omega
      · exact w
      · rcases rk m (by omega) m2 _ hm with e|⟨j,e,_,_,_,_,hr⟩
        · omega
        · exact absurd er.symm hr
    · obtain ⟨j,j1,j2,j3,j4⟩:=ihr k (by omega) h2 er
      refine ⟨j,by omega,j2,j3,fun m m1 m2 hm=>?_⟩
      rcases Nat.lt_trichotomy m i with w|w|w
      · rcases lk m m1 w _ hm with e|⟨p,e,_,p2,_⟩<;>omega
      · subst w
        rcases hm with hm|hm
        · rcases l.link with ⟨_,e⟩|⟨p,e,p1,p2⟩<;>omega
        · exact absurd hm.symm er
      · exact j4 m (by omega) m2 hm
end Go.Proofs.YtfejhjllooomlaaGreat
namespace Go.Proofs.YtfejhjllooomlaaGreat
inductive OI (P:Nat->Nat->Prop) (N:List Nd):Nat->Nat->Int->List Nat->Prop
 |nil {a b:Nat} (h:b<=a):OI P N a b (-1) []
 |cons {a b k:Nat} {es:List Nat} (h:VV P a b k) (l:rZ P N a k (N[k]!).2.1) (r:OI P N (k+1) b (N[k]!).2.2 es):OI P N a b (k:Int) (k::es)
theorem OI.tree {P:Nat->Nat->Prop} {N:List Nd} {a b:Nat} {r:Int} {es:List Nat} (h:OI P N a b r es):rZ P N a b r:=by
 induction h with
 |nil h=>exact .nil h
 |cons h l r ih=>exact .node h l ih
theorem OI.mem {P:Nat->Nat->Prop} {N:List Nd} {a b:Nat} {r:Int} {es:List Nat} (h:OI P N a b r es): ∀e∈es,a<=e/\e<b:=by
 induction h with
 |nil h=>intro e he;cases he
 |cons h l r ih=>
  intro e he;have lo:=h.lo;have hi:=h.hi;rcases List.mem_cons.1 he with rfl|he
  · exact ⟨lo,hi⟩
  · have:=ih e he;omega
end Go.Proofs.YtfejhjllooomlaaGreat
namespace Go.Proofs.YtfejhjllooomlaaGreat
open Go.Vm Classical
def ahP (f:List Pt) (t:Int×Int) (i j:Nat):Prop:=bK f[i]! f[j]! t
theorem DU {p q:Pt} {t:Int×Int} (h:bK p q t): ¬bK q p t:=by
 unfold bK at*;rw [SI] at*;generalize p.2.1*t.2+p.2.2*t.1=a at*;generalize q.2.1*t.2+q.2.2*t.1=b at*;omega
theorem aKq {f:List Pt} (h:gU f) (t:Int×Int):aKp (ahP f t) f.length where
 tr:=fun _ _ _ _ _ _ h1 h2=>KO h1 h2
 asy:=fun _ _ _ _ h=>DU h
 tot:=fun i j hi hj hne hn=>DS t (fun e=>hne (GD h hi hj e)) hn
structure DV (f:List Pt) (t:Int×Int) (N:List Nd) (r:Int):Prop where
 len:N.length=f.length
 ids: ∀k,k<f.length->(N[k]!).1=(f[k]!).1
 tree:rZ (ahP f t) N 0 f.length r
theorem DV.same {f:List Pt} (h:gU f) {t:Int×Int} {N N':List Nd} {r r':Int} (a:DV f t N r) (b:DV f t N' r'):N=N'/\r=r':=by
 obtain ⟨e1,e2⟩:=a.tree.unique (aKq h t) (Nat.le_refl _) b.tree;refine ⟨HR (by rw [a.len,b.len]) fun k hk=>?_,e1⟩
 have hk:k<f.length:=by rw [<- a.len];exact hk
 exact Prod.ext (by rw [a.ids k hk,b.ids k hk]) (e2 k (Nat.zero_le _) hk)
def Below (N:List Nd) (k j:Nat):Prop:=(N[j]!).2.1=(k:Int)\/(N[j]!).2.2=(k:Int)
noncomputable def K1 (N:List Nd) (k:Nat):Nat:=if h: ∃j,j<N.length/\Below N k j then h.choose else N.length
noncomputable def aTc (N:List Nd) (k:Nat):List (Int×Int):=if K1 N k<N.length then [((N[k]!).1,(N[K1 N k]!).1)] else []
noncomputable def aDC (N:List Nd):Nat->List (Int×Int)
 |0=>[]
 |k+1=>aDC N k++aTc N k
section
variable {f : List Pt} {t : Int × Int} {N : List Nd} {r : Int}
theorem DV.par (h:DV f t N r) {k:Nat} (hk:k<f.length):((k:Int)=r->K1 N k=N.length)/\((k:Int)≠r->K1 N k<N.length/\Below N k (K1 N k)/\K1 N k≠k/\ahP f t (K1 N k) k)/\ ∀m,m<N.length->Below N k m->m=K1 N k:=by
 have ln:=h.len
 by_cases hr:(k:Int)=r
 · have none: ¬ ∃j,j<N.length/\Below N k j:=by
    rintro ⟨j,hj,hb⟩;rcases h.tree.kids j (Nat.zero_le _) (by omega) (k:Int) hb with e|⟨_,_,_,_,_,_,e⟩
    · omega
    · exact e hr.symm
   have e:K1 N k=N.length:=by unfold K1;rw [dif_neg none]
   exact ⟨fun _=>e,fun q=>absurd hr q,fun m hm hb=>absurd ⟨m,hm,hb⟩ none⟩
 · obtain ⟨j,_,j2,j3,j4⟩:=h.tree.up k (Nat.zero_le _) hk hr
   have ex: ∃j,j<N.length/\Below N k j:=⟨j,by omega,j3⟩
   have e:K1 N k=j:=by
    unfold K1;rw [dif_pos ex]
    have:=ex.choose_spec
    exact j4 _ (Nat.zero_le _) (by omega) this.2
   refine ⟨fun q=>absurd q hr,fun _=>?_,fun m hm hb=>by rw [e];exact j4 m (Nat.zero_le _) (by omega) hb⟩
   rw [e];refine ⟨by omega,j3,?_,?_⟩
   · rcases h.tree.kids j (Nat.zero_le _) j2 (k:Int) j3 with q|⟨i,q,_,_,q2,_⟩
     · omega
     · intro w;omega
   · rcases h.tree.kids j (Nat.zero_le _) j2 (k:Int) j3 with q|⟨i,q,_,_,_,q2,_⟩
     · omega
     · have:i=k:=by omega
       rw [<- this];exact q2
end
end Go.Proofs.YtfejhjllooomlaaGreat
namespace Go.Proofs.YtfejhjllooomlaaGreat
open Go.Vm Classical
def o1 (f:List Pt) (t:Int×Int) (e c:Nat) (i:Nat) (root:Int) (N:List Nd) (E:List Int) (left:Int):=
 (e,c,(i:Int),f,(f.length:Int),(i:Int),f,t.1,t.2,(0:Int),root,N,E,(f[i]!).1,(f[i]!).2.1,(f[i]!).2.2,(f[i]!).1,left,(-1:Int))
end Go.Proofs.YtfejhjllooomlaaGreat
namespace Go.Proofs.YtfejhjllooomlaaGreat
open Go.Vm Classical
end Go.Proofs.YtfejhjllooomlaaGreat
namespace Go.Proofs.YtfejhjllooomlaaGreat
open Go.Vm Classical
section
variable {f : List Pt} {t : Int × Int} {N : List Nd} {r : Int}
theorem DV.link (h:DV f t N r) {j:Nat} (hj:j<f.length) {c:Int} (hc:(N[j]!).2.1=c\/(N[j]!).2.2=c):c= -1\/(0<=c/\c<N.length):=by
 have ln:=h.len;rcases h.tree.kids j (Nat.zero_le _) hj c hc with e|⟨k,e,_,k2,_⟩
 · exact .inl e
 · exact .inr ⟨by omega,by omega⟩
end
end Go.Proofs.YtfejhjllooomlaaGreat
namespace Go.Proofs.YtfejhjllooomlaaGreat
open Go.Vm Classical
structure aDD (k:JJ):Prop where
 clk:bJ k.clock
 tree:DV k.clock.field.points k.clock.now k.tree.nodes k.tree.root
 cert:(k.clock.certs.list.map fun x=>x.2).Perm (aDC k.tree.nodes k.clock.field.points.length)
structure aQo (k:JJ):Prop where
 c:P8 k.clock
 n:k.tree.nodes.length<=1000
end Go.Proofs.YtfejhjllooomlaaGreat
namespace Go.Proofs.YtfejhjllooomlaaGreat
open Go.Vm Classical
end Go.Proofs.YtfejhjllooomlaaGreat
namespace Go.Proofs.YtfejhjllooomlaaGreat
open Go.Vm Classical
end Go.Proofs.YtfejhjllooomlaaGreat
namespace Go.Proofs.YtfejhjllooomlaaGreat
open Go.Vm Classical
theorem OJ {α:Type} [BEq α] [LawfulBEq α]: ∀{a b:List α},a.Nodup->(∀x∈a,x∈b)->a.length<=b.length
 | [],_,_,_=>Nat.zero_le _
 |x::a,b,hd,h=>by
  rw [List.nodup_cons] at hd;have hx:=h x List.mem_cons_self
  have:=OJ (a:=a) (b:=b.erase x) hd.2 (fun y hy=>by
   rw [List.mem_erase_of_ne (fun e=>hd.1 (by rw [<- e];exact hy))]
   exact h y (List.mem_cons_of_mem _ hy))
  rw [List.length_erase_of_mem hx] at this
  have:=List.length_pos_of_mem hx
  rw [List.length_cons];omega
theorem VW {α:Type} [BEq α] [LawfulBEq α] {a b:List α} (ha:a.Nodup) (hb:b.Nodup) (h1: ∀x∈a,x∈b) (h2: ∀x∈b,x∈a):a.Perm b:=qA ha h1 (OJ hb h2)
theorem OK {c:aQ} (ok:bJ c) {es:List (Int×Int)} (eok:IF c.field.points es) (pm:(c.certs.list.map fun x=>x.2).Perm es):oE c c.field es=some (c,0):=by
 have bd:=ok.bd;have el:=eok.len;have f1:=ok.fld.1;have k1:=cE (body:=dH) (fun i=>kP c c.field.points es i c) c.certs.list.length (fun i hi=>by
  have hin:(c.certs.list[i]!).2∈es:=pm.mem_iff.1 (vD.1 ⟨i,hi,rfl⟩);unfold dH kP;simp only [aN (show (i:Int)<(c.certs.list.length:Int) by omega),cond_true,aB c.certs.list i hi,aC,nN _ _ eok.len,aN hin,Bool.not_true,cond_false,bA (show i<1000000000 by omega)])
 refine (show oE c c.field es=_ from k1).trans (aI ?_);unfold dH kP;simp only [aL (show¬(c.certs.list.length:Int)<(c.certs.list.length:Int) by omega),cond_false,ID c.field.points c.field.points (by omega),aC,Bool.not_true,decide_true]
 have k2:=cE (body:=dU) (fun i=>eP es i c) es.length (fun i hi=>by
  have hin:wK c.certs.list es[i]!:=vD.2 (pm.mem_iff.2 (aR hi));unfold dU eP;simp only [aN (show (i:Int)<(es.length:Int) by omega),cond_true,aB es i hi,aC,EQ,N7 c.certs.list es[i]! (by omega),aN hin,bA (show i<1000000000 by omega)])
 refine (show _=_ from k2).trans (aI ?_);unfold dU eP;simp only [aL (show¬(es.length:Int)<(es.length:Int) by omega),cond_false]
structure YE (R:JJ) (F:List Pt) (t:Int×Int):Prop where
 ok:aDD R
 fld:R.clock.field.points=F
 now:R.clock.now=t
theorem YE.short {R:JJ} {F:List Pt} {t:Int×Int} (h:YE R F t):aQo R:=by
 have:=h.ok.clk.fld.1
 refine ⟨h.ok.clk.short,?_⟩
 have:=h.ok.tree.len
 omega
theorem YE.nums {R:JJ} {F:List Pt} {t:Int×Int} (h:YE R F t):xM R.clock:=h.ok.clk.fit
theorem YE.same {R S:JJ} {F:List Pt} {t:Int×Int} (h:YE R F t) (k:YE S F t):R.tree=S.tree:=by
 have a:=h.ok.tree;rw [h.fld,h.now] at a;have b:=k.ok.tree;rw [k.fld,k.now] at b;obtain ⟨e1,e2⟩:=a.same (by rw [<- h.fld];exact h.ok.clk.fld.2.2) b
 obtain ⟨_,⟨r,N⟩⟩:=R;obtain ⟨_,⟨r',N'⟩⟩:=S;simp only at e1 e2;subst e1 e2;rfl
theorem aBo {f:List Pt} {m:Nat} (h:m<=f.length) (p:Pt):(qU f m p).eraseIdx m=f:=by
 unfold qU
 have:(f.take m).length=m:=by rw [List.length_take];omega
 rw [List.eraseIdx_append_of_length_le (by omega),this,Nat.sub_self,List.eraseIdx_cons_zero,List.take_append_drop]
theorem aAh {f:List Pt} {m:Nat} {p q:Pt}:q∈qU f m p↔q=p\/q∈f:=by
 unfold qU;rw [List.mem_append,List.mem_cons];constructor
 · rintro (h|h|h)
   · exact .inr (List.mem_of_mem_take h)
   · exact .inl h
   · exact .inr (List.mem_of_mem_drop h)
 · rintro (h|h)
   · exact .inr (.inl h)
   · rw [<- List.take_append_drop m f] at h
     rcases List.mem_append.1 h with h|h
     · exact .inl h
     · exact .inr (.inr h)
theorem QE {f:List Pt} (hs:gU f) {q:Nat} (hq:q<f.length) {p:Pt}:p∈f.eraseIdx q↔p∈f/\p.1≠(f[q]!).1:=by
 rw [List.mem_eraseIdx_iff_getElem];constructor
 · rintro ⟨i,hi,hne,rfl⟩
   refine ⟨List.getElem_mem _,fun e=>?_⟩
   rw [<- getElem!_pos f i hi] at e;rcases Nat.lt_trichotomy i q with c|c|c
   · have:=eL hs c hq;omega
   · exact hne c
   · have:=eL hs c hi;omega
 · rintro ⟨hp,hne⟩
   obtain ⟨i,hi,rfl⟩:=aY.1 hp;refine ⟨i,hi,fun e=>hne (by rw [e]),?_⟩
   rw [getElem!_pos f i hi]
end Go.Proofs.YtfejhjllooomlaaGreat
namespace Go.Proofs.YtfejhjllooomlaaGreat
open Go.Vm Classical
theorem VX {f:List Pt} (hs:gU f) {q:Pt} (h:q∈f):bB f q.1=q:=by
 obtain ⟨i,hi,rfl⟩:=aY.1 h;exact ET hs hi rfl
theorem B1 {f:List Pt} (hs:gU f) {x:Int} (h:iT f x):bB f x∈f/\(bB f x).1=x:=by
 obtain ⟨i,hi,rfl⟩:=h;rw [VX hs (aR hi)];exact ⟨aR hi,rfl⟩
theorem JU {f g:List Pt} (hf:gU f) (hg:gU g) {x:Int} (h:iT f x) (hm:bB f x∈g):bB g x=bB f x:=by
 have:=VX hg hm
 rwa [(B1 hf h).2] at this
theorem EV {f:List Pt} (hs:gU f) (t:Int×Int):SO (fun a b=>bK (bB f a) (bB f b) t) (iT f) where
 irr:=fun a _ h=>DU h h
 tr:=fun _ _ _ _ _ _ h k=>KO h k
 tot:=fun a b ha hb hne=>by
  rcases Classical.em (bK (bB f a) (bB f b) t) with h|h
  · exact .inl h
  · exact .inr (DS t (by rw [(B1 hs ha).2,(B1 hs hb).2];exact hne) h)
abbrev II (f:List Pt) (t:Int×Int) (a b:Int):Prop:=bK (bB f a) (bB f b) t
theorem QF {f:List Pt} (hs:gU f) {t:Int×Int} {l:List Int} (hp: ∀x∈l,iT f x) (nd:l.Nodup):(∀e∈dL l,bK (bB f e.2) (bB f e.1) t)↔Hp (II f t) l:=by
 constructor
 · intro h j h1 h2 c
   have hm:(l[j]!,l[par j]!)∈dL l:=by
    refine aY.2 ⟨j-1,by rw [lA];omega,?_⟩
    rw [yS l (show j-1<l.length-1 by omega),show j-1+1=j by omega]
   exact DU c (h _ hm)
 · intro h e he
   obtain ⟨i,hi,rfl⟩:=aY.1 he;rw [lA] at hi;rw [yS l hi]
   have:=h (i+1) (by omega) (by omega)
   have pe:par (i+1)=i / 2:=by simp only [par];omega
   rw [pe] at this;refine DS t ?_ this;rw [(B1 hs (hp _ (aR (by omega)))).2,(B1 hs (hp _ (aR (by omega)))).2]
   exact fun e=>bV.1 nd (i / 2) (i+1) (by omega) (by omega) e.symm
structure JV (R:bM) (F:List Pt) (t:Int×Int):Prop where
 ok:lZ R
 fld:R.clock.field.points=F
 now:R.clock.now=t
theorem lZ.len {k:bM} (h:lZ k):k.heap.length=k.clock.field.points.length:=by rw [<- h.perm.length_eq];exact List.length_map ..
theorem lZ.bd {k:bM} (h:lZ k):k.heap.length<=64:=by have:=h.len;have:=h.clk.fld.1;omega
theorem lZ.has {k:bM} (h:lZ k): ∀x∈k.heap,iT k.clock.field.points x:=fun _ hx=>oW.1 (h.perm.mem_iff.2 hx)
theorem lZ.nd {k:bM} (h:lZ k):k.heap.Nodup:=h.perm.nodup_iff.1 (nO h.clk.fld.2.2)
theorem lZ.hp {k:bM} (h:lZ k):Hp (II k.clock.field.points k.clock.now) k.heap:=(QF h.clk.fld.2.2 h.has h.nd).1 h.lead
abbrev noK:bM:=⟨fT,[]⟩
theorem KR {c:aQ} (ok:bJ c) {f:List Pt} (fok:bX f) {l:List Int} (pm:(oK f).Perm l):
 ∃R:bM×Int,bE c ⟨f⟩ l=some R/\(R=(noK,18)\/R.2=0/\R.1.heap=l/\P6 c f (dL l) R.1.clock)/\(f=c.field.points->(c.certs.list.map fun x=>x.2).Perm (dL l)->R=(⟨c,l⟩,0)):=by
 have f1:=fok.1;have ln:l.length=f.length:=by rw [<- pm.length_eq];exact List.length_map ..
 have eok:=X8 fok pm;have nd:=pm.nodup_iff.1 (nO fok.2.2);obtain ⟨r,r1,r2,r3⟩:=aKh ok fok eok;have ee:oX f (dL l)=0:=by
  unfold oX;rw [if_neg (Classical.not_not.2 eok.cv),if_neg (Classical.not_not.2 (DQ nd)),if_neg (fun h=>h eok.kn)]
 have rn:=OH ok fok (es:=dL l) (by rw [lA];omega) (fun _=>r1)
 rw [if_pos ee] at rn;rcases r3 with ⟨q0,q⟩|he
 · refine ⟨(⟨r.1,l⟩,0),?_,.inr ⟨rfl,rfl,q⟩,fun hf hc=>?_⟩
   · unfold bE
     rw [DT l (by omega),aC,rn,aC,q0];rfl
   · subst hf
     have:=OK ok eok hc
     have e:r=(c,0):=Option.some.inj (r1.symm.trans this);rw [e]
 · refine ⟨(noK,18),?_,.inl rfl,fun hf hc=>?_⟩
   · unfold bE
     rw [DT l (by omega),aC,rn,aC,he];rfl
   · subst hf
     have:=OK ok eok hc
     have e:r=(c,0):=Option.some.inj (r1.symm.trans this);rw [he] at e;cases e
theorem P6.heap {c:aQ} {f:List Pt} (fok:bX f) {l:List Int} (pm:(oK f).Perm l) {R:bM} (e:R.heap=l) (q:P6 c f (dL l) R.clock) (h:Hp (II f c.now) l):JV R f c.now:=by
 have nd:=pm.nodup_iff.1 (nO fok.2.2);refine ⟨⟨q.ok,by rw [q.fld,e];exact pm,?_,?_⟩,q.fld,q.now⟩
 · rw [e]
   exact VW (KN q.ok.crt) (DQ nd) (fun x hx=>by obtain ⟨y,hy,rfl⟩:=List.mem_map.1 hx;exact q.sub y hy) (fun x hx=>vD.1 (q.has x hx))
 · rw [e,q.fld,q.now]
   exact (QF fok.2.2 (fun x hx=>oW.1 (pm.mem_iff.2 hx)) nd).2 h
noncomputable def setR (c:aQ) (f:List Pt) (l:List Int):bM×Int:=(bE c ⟨f⟩ l).getD (noK,0)
theorem LG {c:aQ} (ok:bJ c) {f:List Pt} (fok:bX f) {l:List Int} (pm:(oK f).Perm l):bE c ⟨f⟩ l=some (setR c f l):=by
 obtain ⟨R,h,_⟩:=KR ok fok pm;unfold setR;rw [h];rfl
theorem IJ {c:aQ} (ok:bJ c) {f:List Pt} (fok:bX f) {l:List Int} (pm:(oK f).Perm l) (hh:Hp (II f c.now) l):
 (setR c f l=(noK,18)\/(setR c f l).2=0/\JV (setR c f l).1 f c.now/\(setR c f l).1.heap=l)/\(f=c.field.points->(c.certs.list.map fun x=>x.2).Perm (dL l)->setR c f l=(⟨c,l⟩,0)):=by
 obtain ⟨R,h,k1,k2⟩:=KR ok fok pm;have e:setR c f l=R:=by unfold setR;rw [h];rfl
 rw [e];exact ⟨k1.imp id fun ⟨a,b,d⟩=>⟨a,d.heap fok pm b hh,b⟩,k2⟩
theorem aDE {k:bM} (ok:lZ k) (p:Pt):(∃e:Int,e≠0/\kC k.clock.field p=some (⟨[]⟩,e)/\sW k p=some (noK,e))\/
 ∃m,QC k.clock.field.points p m/\ ¬iT k.clock.field.points p.1/\gS p/\k.clock.field.points.length<64/\kC k.clock.field p=some (⟨qU k.clock.field.points m p⟩,0)/\
  ∃R:bM×Int,sW k p=some R/\(R=(noK,18)\/R.2=0/\JV R.1 (qU k.clock.field.points m p) k.clock.now):=by
 have c1:=xN ok.clk.fit (show k.heap.length<=1000 by have:=ok.bd;omega)
 rw [if_pos ok] at c1;have hl:=ok.bd;have fok:=ok.clk.fld;have f1:=fok.1;rcases OG fok p with ⟨e,e0,t1,_⟩|⟨m,hm,hp,po,hlt,t1,_⟩
 · have t1:kC k.clock.field p=some (⟨[]⟩,e):=t1
   refine .inl ⟨e,e0,t1,?_⟩;unfold sW;rw [c1,aC,bO rfl,cond_false,t1,aC,eT e0,cond_true]
 have t1:kC k.clock.field p=some (⟨qU k.clock.field.points m p⟩,0):=t1;have fok':=aKn fok po hm hlt;have pin:p∈qU k.clock.field.points m p:=aAh.2 (.inl rfl);have oth: ∀x,iT k.clock.field.points x->bB (qU k.clock.field.points m p) x=bB k.clock.field.points x:=fun x hx=>JU fok.2.2 fok'.2.2 hx (aAh.2 (.inr (B1 fok.2.2 hx).1))
 have hn:=ok.len;have pm:(oK (qU k.clock.field.points m p)).Perm (k.heap++[p.1]):=by
  have e1:oK (qU k.clock.field.points m p)=(oK k.clock.field.points).take m++p.1::(oK k.clock.field.points).drop m:=by
   unfold qU oK;rw [List.map_append,List.map_cons,List.map_take,List.map_drop]
  rw [e1];refine List.perm_middle.trans ?_;rw [List.take_append_drop];exact (List.Perm.cons _ ok.perm).trans (List.perm_append_singleton _ _).symm
 have ll:(k.heap++[p.1]).length=k.heap.length+1:=by rw [List.length_append,List.length_singleton]
 have lo:jY (qU k.clock.field.points m p) (k.heap.length+1) (k.heap++[p.1]):=⟨ll,by omega,fun y hy=>oW.1 (pm.mem_iff.2 hy),pm.nodup_iff.1 (nO fok'.2.2)⟩
 have go:=aTb (k:=k) (P:=p) (c0:=p) ⟨ok.clk,fok'⟩ ll (R:=setR k.clock (qU k.clock.field.points m p)) (l0:=k.heap++[p.1]) (fun l hl=>LG ok.clk fok' (pm.trans hl.symm)) k.heap.length (k.heap++[p.1]) (by omega) lo (List.Perm.refl _)
 have pr:=B0 (qU k.clock.field.points m p) k.clock.now k.heap.length (k.heap++[p.1]) (by omega)
 have ew:aA .i64 (((k.heap.length+1:Nat):Int) -1)=(k.heap.length:Int):=by rw [gM ⟨by omega,by omega⟩];omega
 have ap:bR k.heap [p.1]=some (k.heap++[p.1]):=dJ (by rw [List.length_singleton];omega)
 have hh:Hp (II (qU k.clock.field.points m p) k.clock.now) (mH (qU k.clock.field.points m p) k.clock.now k.heap.length (k.heap++[p.1])):=by
  refine P9 (EV fok'.2.2 k.clock.now) (fun _ _=>Iff.rfl) _ _ lo.hp ⟨by omega,fun j j1 j2 j3=>?_,fun j j1 j2 j3 j4=>by simp only [par] at j3;omega⟩
  have b1:(k.heap++[p.1])[j]! =k.heap[j]!:=by rw [List.getElem!_eq_getElem?_getD,List.getElem!_eq_getElem?_getD,List.getElem?_append_left (by omega)]
  have b2:(k.heap++[p.1])[par j]! =k.heap[par j]!:=by rw [List.getElem!_eq_getElem?_getD,List.getElem!_eq_getElem?_getD,List.getElem?_append_left (by simp only [par];omega)]
  rw [b1,b2];have hj:=ok.has _ (aR (show j<k.heap.length by omega))
  have hq:=ok.has _ (aR (show par j<k.heap.length by simp only [par];omega))
  show¬bK _ _ _
  rw [oth _ hj,oth _ hq];exact ok.hp j j1 (by omega)
 refine .inr ⟨m,hm,hp,po,hlt,t1,_,?_,((IJ ok.clk fok' (pm.trans pr.symm) hh).1).imp id fun h=>⟨h.1,h.2.1⟩⟩
 unfold sW;simp only [c1,aC,show ((0:Int) !=0)=false from rfl,cond_false,t1,bD (show k.heap.length<=1048576 by omega),ap,beq_self_eq_true,cond_true,aF,ll,ew]
 exact go
theorem aKr {f:List Pt} {q:Nat} (hq:q<f.length) {p:Pt} (he:(f[q]!).1=p.1):oK (f.set q p)=oK f:=by
 unfold oK;rw [List.map_set,<- he];refine List.ext_getElem? fun j=>?_
 rw [List.getElem?_set];split
 · rename_i h
   subst h;rw [if_pos (by rw [List.length_map];exact hq),List.getElem?_map,List.getElem?_eq_getElem hq,getElem!_pos _ q hq];rfl
 · rfl
theorem VY {k:bM} (ok:lZ k) (p:Pt):(∃e:Int,e≠0/\fQ k.clock.field p=some (⟨[]⟩,e)/\gL k p=some (noK,e))\/
 ∃q,q<k.clock.field.points.length/\(k.clock.field.points[q]!).1=p.1/\gS p/\fQ k.clock.field p=some (⟨k.clock.field.points.set q p⟩,0)/\
  ∃R:bM×Int,gL k p=some R/\(R=(noK,18)\/R.2=0/\JV R.1 (k.clock.field.points.set q p) k.clock.now)/\(k.clock.field.points.set q p=k.clock.field.points->R=(k,0)):=by
 have c1:=xN ok.clk.fit (show k.heap.length<=1000 by have:=ok.bd;omega)
 rw [if_pos ok] at c1;have hl:=ok.bd;have fok:=ok.clk.fld;have f1:=fok.1;rcases yT fok p with ⟨e,e0,t1,_⟩|⟨q,hq,he,po,t1,_⟩
 · have t1:fQ k.clock.field p=some (⟨[]⟩,e):=t1
   refine .inl ⟨e,e0,t1,?_⟩;unfold gL;rw [c1,aC,bO rfl,cond_false,t1,aC,eT e0,cond_true]
 have t1:fQ k.clock.field p=some (⟨k.clock.field.points.set q p⟩,0):=t1;have fok':=aQj fok po hq he;have oth: ∀x,iT k.clock.field.points x->x≠p.1->bB (k.clock.field.points.set q p) x=bB k.clock.field.points x:=fun x hx hne=>by
  refine JU fok.2.2 fok'.2.2 hx ?_;obtain ⟨i,hi,rfl⟩:=hx;rw [ET fok.2.2 hi rfl];refine aY.2 ⟨i,by rw [List.length_set];exact hi,?_⟩
  rw [bF,if_neg (fun h=>hne (by rw [h.1];exact he))]
 have hn:=ok.len;have pm:(oK (k.clock.field.points.set q p)).Perm k.heap:=by rw [aKr hq he];exact ok.perm
 have hidm:p.1∈k.heap:=ok.perm.mem_iff.1 (oW.2 ⟨q,hq,he⟩);obtain ⟨a,a1,a2,a3,_⟩:=QD (l:=k.heap) (by omega) hidm
 have lo:jY (k.clock.field.points.set q p) k.heap.length k.heap:=⟨rfl,by omega,fun y hy=>oW.1 (pm.mem_iff.2 hy),pm.nodup_iff.1 (nO fok'.2.2)⟩
 have go:=aTa (k:=k) (P:=p) ⟨ok.clk,fok'⟩ (c0:=k.heap) rfl (R:=setR k.clock (k.clock.field.points.set q p)) (l0:=k.heap) (fun l hl=>LG ok.clk fok' (pm.trans hl.symm)) a k.heap a1 lo (List.Perm.refl _)
 have pr:=B0 (k.clock.field.points.set q p) k.clock.now a k.heap a1;have ri:=(OE (k.clock.field.points.set q p) k.clock.now a k.heap a1).1;have pk:=(OF (k.clock.field.points.set q p) k.clock.now _ (mH (k.clock.field.points.set q p) k.clock.now a k.heap) (vE (k.clock.field.points.set q p) k.clock.now a k.heap) (Nat.le_refl _) (by rw [pr.length_eq];exact ri)).trans pr
 have nea: ∀j,j<k.heap.length->j≠a->k.heap[j]!≠p.1:=fun j hj hne e=>by
  rcases Nat.lt_trichotomy j a with c|c|c
  · exact bV.1 ok.nd j a c a1 (e.trans a2.symm)
  · exact hne c
  · exact bV.1 ok.nd a j c hj (a2.trans e.symm)
 have hh:=KP (EV fok'.2.2 k.clock.now) (P:=II (k.clock.field.points.set q p) k.clock.now) (fun _ _=>Iff.rfl) lo.hp a1 (fun j j1 j2 j3 j4=>by
  have q2:par j<k.heap.length:=by simp only [par];omega
  show¬bK _ _ _
  rw [oth _ (ok.has _ (aR j2)) (nea j j2 j3),oth _ (ok.has _ (aR q2)) (nea _ q2 j4)];exact ok.hp j j1 j2) (fun j j1 j2 j3 j4=>by
  have q2:par a<k.heap.length:=by simp only [par];omega
  have n1:j≠a:=by simp only [par] at j3;omega
  have n2:par a≠a:=by simp only [par];omega
  show¬bK _ _ _
  rw [oth _ (ok.has _ (aR j2)) (nea j j2 n1),oth _ (ok.has _ (aR q2)) (nea _ q2 n2)];have h1:=ok.hp j j1 j2;rw [j3] at h1;exact (EV fok.2.2 k.clock.now).ntr (ok.has _ (aR j2)) (ok.has _ (aR a1)) (ok.has _ (aR q2)) h1 (ok.hp a j4 a1))
 obtain ⟨s1,s2⟩:=IJ ok.clk fok' (pm.trans pk.symm) hh;refine .inr ⟨q,hq,he,po,t1,_,?_,s1.imp id fun h=>⟨h.1,h.2.1⟩,fun hF=>?_⟩
 · unfold gL
   simp only [c1,aC,show ((0:Int) !=0)=false from rfl,cond_false,t1,bD (show k.heap.length<=1048576 by omega),beq_self_eq_true,cond_true,a3]
   exact go
 · have so:=EV (f:=k.clock.field.points.set q p) fok'.2.2 k.clock.now
   have e0:Hp (II (k.clock.field.points.set q p) k.clock.now) k.heap:=by rw [hF];exact ok.hp
   obtain ⟨e1,e2⟩:=QA (f:=k.clock.field.points.set q p) (t:=k.clock.now) (l:=k.heap) (i:=a) (fun h0=>e0 a h0 a1)
   have e3:=QB so (fun _ _=>Iff.rfl) (f:=k.clock.field.points.set q p) (t:=k.clock.now) (fun j hj=>lo.hp _ (aR hj)) e0 a1
   rw [e1,e2,e3] at s2 ⊢;exact s2 hF ok.cert
theorem aBp {k:bM} (ok:lZ k) (id:Int):(¬iT k.clock.field.points id/\kT k.clock.field id=some (⟨[]⟩,6)/\mR k id=some (noK,6))\/
 ∃q,q<k.clock.field.points.length/\(k.clock.field.points[q]!).1=id/\kT k.clock.field id=some (⟨k.clock.field.points.eraseIdx q⟩,0)/\
  ∃R:bM×Int,mR k id=some R/\(R=(noK,18)\/R.2=0/\JV R.1 (k.clock.field.points.eraseIdx q) k.clock.now):=by
 have c1:=xN ok.clk.fit (show k.heap.length<=1000 by have:=ok.bd;omega)
 rw [if_pos ok] at c1;have hl:=ok.bd;have fok:=ok.clk.fld;have f1:=fok.1
 by_cases hid:iT k.clock.field.points id
 case neg=>
  obtain ⟨t1,_⟩:=SK fok hid;have t1:kT k.clock.field id=some (⟨[]⟩,6):=t1;refine .inl ⟨hid,t1,?_⟩;unfold mR;rw [c1,aC,bO rfl,cond_false,t1];rfl
 have hidm:=ok.perm.mem_iff.1 (oW.2 hid);obtain ⟨q,hq,rfl⟩:=hid;obtain ⟨t1,_⟩:=YB fok hq;have t1:kT k.clock.field (k.clock.field.points[q]!).1=some (⟨k.clock.field.points.eraseIdx q⟩,0):=t1;have fok':=aDB fok q;have fl:(k.clock.field.points.eraseIdx q).length=k.clock.field.points.length-1:=LF hq;have hn:=ok.len;have nd:=ok.nd
 have oth: ∀x,iT k.clock.field.points x->x≠(k.clock.field.points[q]!).1->bB (k.clock.field.points.eraseIdx q) x=bB k.clock.field.points x:=fun x hx hne=>by
  obtain ⟨y1,y2⟩:=B1 fok.2.2 hx;exact JU fok.2.2 fok'.2.2 hx ((QE fok.2.2 hq).2 ⟨y1,by rw [y2];exact hne⟩)
 obtain ⟨a,a1,a2,a3,_⟩:=QD (l:=k.heap) (by omega) hidm
 have lst:k.heap.length-1<k.heap.length:=by omega
 have ew:aA .i64 ((k.heap.length:Int) -1)=((k.heap.length-1:Nat):Int):=wI (by omega) (by omega)
 have ga:=aB k.heap a a1;have gl:=aB k.heap (k.heap.length-1) lst;have nea: ∀j,j<k.heap.length->j≠a->k.heap[j]!≠(k.clock.field.points[q]!).1:=fun j hj hne e=>by
  rcases Nat.lt_trichotomy j a with c|c|c
  · exact bV.1 ok.nd j a c a1 (e.trans a2.symm)
  · exact hne c
  · exact bV.1 ok.nd a j c hj (a2.trans e.symm)
 generalize hL:k.heap.set a k.heap[k.heap.length-1]! =L;have Ll:L.length=k.heap.length:=by rw [<- hL,List.length_set]
 generalize hm:k.heap.length-1=m at*;have em:L=L.take m++[L[m]!]:=by
  have:=NJ (l:=L) (i:=m) (by omega)
  rw [List.drop_of_length_le (by omega)] at this
  exact this
 have ll:(L.take m).length=m:=by rw [List.length_take];omega
 have bl: ∀j,j<m->(L.take m)[j]! =if j=a then k.heap[m]! else k.heap[j]!:=fun j hj=>by
  have:(L.take m)[j]! =L[j]!:=by rw [List.getElem!_eq_getElem?_getD,List.getElem!_eq_getElem?_getD,List.getElem?_take_of_lt hj]
  rw [this,<- hL,bF]
  by_cases c:j=a
  · rw [if_pos ⟨c,a1⟩,if_pos c]
  · rw [if_neg (fun h=>c h.1),if_neg c]
 have ps:(L.take m++[(k.clock.field.points[q]!).1]).Perm k.heap:=by
  have e:gW k.heap a m=L.take m++[(k.clock.field.points[q]!).1]:=by
   unfold gW;rw [hL,a2,List.set_eq_take_append_cons_drop,if_pos (by omega),List.drop_of_length_le (by omega)]
  rw [<- e];exact kD a1 (by omega)
 have pm:(oK (k.clock.field.points.eraseIdx q)).Perm (L.take m):=by
  refine qA (nO fok'.2.2) (fun y hy=>?_) (by rw [ll];show m<=(List.map _ _).length;rw [List.length_map];omega)
  obtain ⟨p,hp,rfl⟩:=List.mem_map.1 hy;obtain ⟨h1,h2⟩:=(QE fok.2.2 hq).1 hp
  have:=ps.mem_iff.2 (ok.perm.mem_iff.1 (List.mem_map.2 ⟨p,h1,rfl⟩))
  rcases List.mem_append.1 this with h|h
  · exact h
  · exact absurd (List.mem_singleton.1 h) h2
 have lo:jY (k.clock.field.points.eraseIdx q) m (L.take m):=⟨ll,by omega,fun y hy=>oW.1 (pm.mem_iff.2 hy),pm.nodup_iff.1 (nO fok'.2.2)⟩
 have tok:pA k (k.clock.field.points.eraseIdx q):=⟨ok.clk,fok'⟩;have s1:jH L 0 (m:Int)=some (L.take m):=nL L m (by omega)
 have cl:bW k.heap=some k.heap:=bD (by omega)
 by_cases ha:a<m
 · have go:=aS5 (k:=k) (n0:=k.heap.length) (x:=L[m]!) tok (c0:=k.heap) (c1:=a) (c2:=k.heap[m]!) (by omega) (R:=setR k.clock (k.clock.field.points.eraseIdx q)) (l0:=L.take m) (fun l hl=>LG ok.clk fok' (pm.trans hl.symm)) a (L.take m) ha lo (List.Perm.refl _)
   rw [<- em] at go;have pr:=B0 (k.clock.field.points.eraseIdx q) k.clock.now a (L.take m) (by omega)
   have ri:=(OE (k.clock.field.points.eraseIdx q) k.clock.now a (L.take m) (by omega)).1
   have pk:=(OF (k.clock.field.points.eraseIdx q) k.clock.now _ (mH (k.clock.field.points.eraseIdx q) k.clock.now a (L.take m)) (vE (k.clock.field.points.eraseIdx q) k.clock.now a (L.take m)) (Nat.le_refl _) (by rw [pr.length_eq];exact ri)).trans pr
   have hh:=KP (EV fok'.2.2 k.clock.now) (P:=II (k.clock.field.points.eraseIdx q) k.clock.now) (l:=L.take m) (a:=a) (fun _ _=>Iff.rfl) lo.hp (by omega) (fun j j1 j2 j3 j4=>by
    rw [ll] at j2;have q2:par j<m:=by simp only [par];omega
    rw [bl j j2,bl _ q2,if_neg j3,if_neg j4]
    show¬bK _ _ _
    rw [oth _ (ok.has _ (aR (by omega))) (nea j (by omega) j3),oth _ (ok.has _ (aR (by omega))) (nea _ (by omega) j4)]
    exact ok.hp j j1 (by omega)) (fun j j1 j2 j3 j4=>by
    rw [ll] at j2;have q2:par a<m:=by simp only [par];omega
    have n1:j≠a:=by simp only [par] at j3;omega
    have n2:par a≠a:=by simp only [par];omega
    rw [bl j j2,bl _ q2,if_neg n1,if_neg n2]
    show¬bK _ _ _
    rw [oth _ (ok.has _ (aR (by omega))) (nea j (by omega) n1),oth _ (ok.has _ (aR (by omega))) (nea _ (by omega) n2)]
    have h1:=ok.hp j j1 (by omega)
    rw [j3] at h1;exact (EV fok.2.2 k.clock.now).ntr (ok.has _ (aR (by omega))) (ok.has _ (aR a1)) (ok.has _ (aR (by omega))) h1 (ok.hp a j4 a1))
   refine .inr ⟨q,hq,rfl,t1,_,?_,((IJ ok.clk fok' (pm.trans pk.symm) hh).1).imp id fun h=>⟨h.1,h.2.1⟩⟩
   unfold mR;rw [c1,aC,bO rfl,cond_false,t1,aC,bO rfl,cond_false,cl,aC,a3,aC];simp only [aF,ew,gl,aC,ga,fE,hL,s1,aN (show (a:Int)<(m:Int) by omega),cond_true,beq_self_eq_true]
   rw [show ((m:Nat):Int).toNat=m from Int.toNat_natCast m,Ll];exact go
 · have hh:Hp (II (k.clock.field.points.eraseIdx q) k.clock.now) (L.take m):=fun j j1 j2=>by
    rw [ll] at j2;have q2:par j<m:=by simp only [par];omega
    rw [bl j j2,bl _ q2,if_neg (by omega),if_neg (by omega)]
    show¬bK _ _ _
    rw [oth _ (ok.has _ (aR (by omega))) (nea j (by omega) (by omega)),oth _ (ok.has _ (aR (by omega))) (nea _ (by omega) (by omega))]
    exact ok.hp j j1 (by omega)
   refine .inr ⟨q,hq,rfl,t1,_,?_,((IJ ok.clk fok' pm hh).1).imp id fun h=>⟨h.1,h.2.1⟩⟩
   unfold mR;rw [c1,aC,bO rfl,cond_false,t1,aC,bO rfl,cond_false,cl,aC,a3,aC];simp only [aF,ew,gl,aC,ga,fE,hL,s1,aL (show¬(a:Int)<(m:Int) by omega),cond_false]
   rw [show ((m:Nat):Int).toNat=m from Int.toNat_natCast m,LG ok.clk fok' pm,aC]
end Go.Proofs.YtfejhjllooomlaaGreat
namespace Go.Proofs.YtfejhjllooomlaaGreat
open Go.Vm Classical
theorem aDF {k:bM} (n:aDw k.clock):AG k=some false\/(AG k=some true/\lZ k/\k.clock.field.points.length<=10):=by
 unfold AG;rcases X9 k with e|⟨e,sh,hl⟩
 · rw [e];exact .inl rfl
 rw [e,aC];unfold GA;rw [aC,Bool.not_false,cond_true]
 by_cases hm:10<Int.ofNat k.clock.field.points.length
 · rw [aN hm];exact .inl rfl
 · rw [aL hm,Bool.not_false,cond_true,DR ⟨n.now,⟨sh.s3,sh.h,sh.w,n.at64⟩,sh.d⟩ (show k.heap.length<=1000 by omega),aC]
   by_cases ok:lZ k
   · rw [if_pos ok];exact .inr ⟨rfl,ok,by rw [aF] at hm;omega⟩
   · rw [if_neg ok];exact .inl rfl
theorem JV.check {R:bM} {F:List Pt} {t:Int×Int} (h:JV R F t):oG R=some 0:=by
 rw [DR h.ok.clk.fit (show R.heap.length<=1000 by have:=h.ok.bd;omega),if_pos h.ok]
theorem JV.fieldsame {R S:bM} {F:List Pt} {t u:Int×Int} (h:JV R F t) (k:JV S F u):mN R.clock.field S.clock.field=some true:=by
 have h1:=h.ok.clk.fld.1;rw [show mN R.clock.field S.clock.field=_ from DP R.clock.field.points S.clock.field.points (by omega),aN (h.fld.trans k.fld.symm)]
theorem aBq {k R:bM} {p:Pt} {m:Nat} (hm:QC k.clock.field.points p m) (h:JV R (qU k.clock.field.points m p) k.clock.now):
 ∃S:bM×Int,mR R p.1=some S/\(S=(noK,18)\/S.2=0/\JV S.1 k.clock.field.points k.clock.now):=by
 have hp:iT R.clock.field.points p.1:=by
  rw [h.fld];refine ⟨m,by rw [IH hm.le];have:=hm.le;omega,?_⟩
  rw [EU hm.le,if_neg (by omega),if_pos rfl]
 rcases aBp h.ok p.1 with ⟨a,_⟩|⟨q,hq,he,_,S,s1,s2⟩
 · exact absurd hp a
 · have hF:=h.fld
   rw [hF] at hq he s2;have hl:=IH hm.le p;have hq':=hq;rw [hl] at hq'
   have:q=m:=by
    rw [EU hm.le] at he;rcases Nat.lt_trichotomy q m with c|c|c
    · rw [if_pos c] at he;have:=hm.lo q c;omega
    · exact c
    · rw [if_neg (by omega),if_neg (by omega)] at he;have:=hm.hi (q-1) (by omega) (by omega);omega
   subst this;rw [aBo hm.le,h.now] at s2;exact ⟨S,s1,s2⟩
theorem VZ {f:List Pt} (fok:bX f) {j:Nat} (hj:j<f.length) {e:Int} (e0:e≠0) (t1:fQ ⟨f⟩ f[j]! =some (⟨[]⟩,e)):False:=by
 rcases yT fok f[j]! with ⟨e',e0',_,t2⟩|⟨q,hq,he,_,t1',_⟩
 · have c2:gT ⟨f⟩=some 0:=by rw [lY];exact congrArg some (eH.2 fok)
   have po:=fok.2.1 _ (aR hj);unfold oU kO at t2;rw [c2,aC,bO rfl,cond_false,gO,if_pos po,aC,bO rfl,cond_false,AI fok.2.2 (by have:=fok.1;omega) hj rfl,aC,aL (by omega),cond_false,bD (show f.length<=1048576 by have:=fok.1;omega),aC,aC,aB _ j hj,aC] at t2
   injection t2 with t2;injection t2 with _ t2;exact e0' t2.symm
 · have:=t1.symm.trans t1'
   injection this with this;injection this with _ this;exact e0 this
theorem DW (k:bM) (p:Pt) (i:Int) (n:aDw k.clock):vL k p i=some true:=by
 unfold vL;rw [aC];rcases aDF n with e|⟨e,ok,_⟩
 · rw [e];rfl
 rw [e,aC,Bool.not_true,cond_false,cond_false];have kk:JV k k.clock.field.points k.clock.now:=⟨ok,rfl,rfl⟩;have fin:(bif decide (i<0) then some true else bif decide ((Int.ofNat k.clock.field.points.length)<=i) then some true else
  (aJ k.clock.field.points i).bind fun a7=>(gL k a7).bind fun a8=>bif true then bif a8.2==0 then (mT a8.1 k).bind fun b9=>some b9 else some false else some false)=some true:=by
  by_cases h1:i<0
  · rw [aN h1];rfl
  rw [aL h1,cond_false]
  by_cases h2:(Int.ofNat k.clock.field.points.length)<=i
  · rw [aN h2];rfl
  rw [aL h2,cond_false];obtain ⟨j,rfl⟩: ∃j:Nat,i=(j:Int):=⟨i.toNat,by omega⟩
  have hj:j<k.clock.field.points.length:=by rw [aF] at h2;omega
  rw [aB _ j hj,aC];rcases VY ok k.clock.field.points[j]! with ⟨e,e0,t1,_⟩|⟨q,hq,he,_,_,R,r1,_,r3⟩
  · exact (VZ ok.clk.fld hj e0 t1).elim
  · have:q=j:=by
     rcases Nat.lt_trichotomy q j with c|c|c
     · have:=eL ok.clk.fld.2.2 c hj;omega
     · exact c
     · have:=eL ok.clk.fld.2.2 c hq;omega
    subst this;have hs:k.clock.field.points.set q k.clock.field.points[q]! =k.clock.field.points:=by
     rw [getElem!_pos _ q hq,List.set_getElem_self]
    rw [r1,aC,r3 hs,cond_true,show ((k,(0:Int)).2==0)=true from rfl,cond_true,aBm ok.clk.short (by have:=ok.bd;omega),aC]
 rcases aDE ok p with ⟨e,e0,_,t⟩|⟨m,hm,hp,po,hl,_,R,r1,r2⟩
 · rw [t,aC,show (((noK,e):bM×Int).2==0)=false by simpa using e0,cond_false]
   exact fin
 rw [r1,aC];rcases r2 with rfl|⟨r0,ht⟩
 · exact fin
 rw [r0,show ((0:Int)==0)=true from rfl,cond_true];obtain ⟨S,s1,s2⟩:=aBq hm ht;rw [s1,aC];rcases s2 with rfl|⟨s0,hs⟩
 · exact fin
 rw [s0,show ((0:Int) !=0)=false from rfl,cond_false,show ((0:Int)==0)=true from rfl,cond_true,hs.check,aC,show ((0:Int) !=0)=false from rfl,cond_false,hs.fieldsame kk,aC,Bool.not_true,cond_false];exact fin
end Go.Proofs.YtfejhjllooomlaaGreat
namespace Go.Proofs.YtfejhjllooomlaaGreat
open Go.Vm Classical
theorem aDw.of {c:aQ} (h1:RT.wf [.i .i64,.i .i64] c.now) (h2: ∀a∈c.agenda.heap,RT.wf [.i .i64,.i .i64,.i .i64,.i .i64,.i .i64] a):aDw c where
 now:=⟨RA h1.1,RA h1.2⟩
 at64 w hw:=by
  have:=h2 (c.agenda.heap[w]!) (by rw [getElem!_pos c.agenda.heap w hw];exact List.getElem_mem hw)
  exact ⟨RA this.1,RA this.2.1⟩
end Go.Proofs.YtfejhjllooomlaaGreat
