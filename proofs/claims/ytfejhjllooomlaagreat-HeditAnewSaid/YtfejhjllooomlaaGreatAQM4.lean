/- Plain laws (4). -/
import Derived.Test.YtfejhjllooomlaaGreatAQM3
import Derived.Test.YtfejhjllooomlaaGreatAQS2
import Derived.Test.YtfejhjllooomlaaGreatAVm3
open List renaming length_set->lw,length_singleton->ut,getElem!_eq_getElem?_getD->v4,length_map->v6,length_append->AC,length_take->If,length_cons->IR,set_append_left->PP,replicate->UV,length_eraseIdx_of_lt->ab0,length_replicate->ab1,mem_map->abI,length_eq_zero_iff->abK,length_nil->abL,mem_cons_of_mem->abP,getElem?_append_left->abQ,take_length->abT,length_drop->abU,mem_cons->abX,mem_of_mem_take->abZ,mem_append->ac9,mem_cons_self->ack,getElem?_take_of_lt->acr,length_erase_of_mem->acx,length_eraseIdx_le->acy,drop_length->acB,length_pos_of_mem->acD,drop_of_length_le->acH,take_append_drop->acJ,mem_of_mem_drop->acO,mem_erase_of_ne->acP,append_assoc->adc,getElem?_set->adk,getElem_mem->adF,getElem_map->agd,nodup_cons->ai1,drop_zero->aiD,mem_range->aiL,length->aiN
open Nat renaming lt_trichotomy->rc,le_refl->EQ,zero_le->M2,strongRecOn->NE,not_lt_zero->aa4,le_trans->abS,lt_or_ge->acX,succ_mul->adp,mul_le_mul->aiH
open Classical renaming not_not->ww,byContradiction->abH,not_forall->ac5,not_imp->acl,em->acQ
open Bool renaming not_true->Do,not_false->abJ,true->aiS,false->aiY
open List.Perm renaming refl->abM
open Option.some renaming inj->abR
open Int renaming ofNat->abV,tdiv_eq_ediv_of_nonneg->acg,sub_mul->acK,le_of_lt->acV,toNat_natCast->ado,not_lt->aiA
open Iff renaming rfl->aig
open Option renaming some->aiP
open Decidable renaming decide->aiZ
namespace Go.Proofs.YtfejhjllooomlaaGreat
open Go.Vm Classical
theorem xm {f:List Pt} (cj:bG f) {l:List Int} (pm:(gx f).Perm l):qq f (bU l):=by
 have nd:=pm.nodup_iff.1 (fO cj.2.2);have f1:=cj.1;have ln:(aiN l)=(aiN f):=by rw [<- pm.length_eq];exact v6 ..
 have hp: ∀e∈bU l,jd f e:=fun e he=>⟨gN.1 (pm.mem_iff.2 (C3 he).1),gN.1 (pm.mem_iff.2 (C3 he).2)⟩
 refine ⟨by rw [gf];omega,fun e he=>?_,hp⟩;obtain ⟨⟨p1,p2⟩,q1,q2⟩:=And.intro (eu cj (hp e he).1) (eu cj (hp e he).2);have ne:=LG nd he;unfold ff at p1 q1;unfold fN;omega
def cq (l:List Int) (i j:Nat):List Int:=(l.set i l[j]!).set j l[i]!
theorem fo {l:List Int} {i j:Nat} (hi:i<aiN l) (hj:j<aiN l):(cq l i j).Perm l:=by unfold cq;rw [getElem!_pos l i hi,getElem!_pos l j hj];exact List.set_set_perm hi hj
theorem NG (k:bg):qO k=aiP aiS\/(qO k=aiP aiY/\acI k.jp/\aiN k.bv<=70):=by
 unfold qO
 rcases LF k.jp with e|⟨e,sh⟩
 · rw [e];exact .inl rfl
 rw [e,aq,lc,az]
 by_cases h:70<aiN k.bv
 · rw [aJ (by omega)];exact .inl rfl
 rw [aF (by omega)];exact .inr ⟨rfl,sh,by omega⟩
theorem Ec {i:Nat} (hi:i<1000000000) (h0:0<i):ae .i64 (Int.tdiv (ae .i64 ((i:Int) -1)) 2)=(((i-1) / 2:Nat):Int):=by rw [show ae .i64 ((i:Int) -1)=((i-1:Nat):Int) from sC hi h0,acg (by omega),fC ⟨by omega,by omega⟩];omega
noncomputable def jf (f:List Pt) (t:Int×Int):Nat->List Int->List Int
 |0,l=>l
 |i+1,l=>if leads (aW f l[i+1]!) (aW f l[i / 2]!) t then jf f t (i / 2) (cq l (i+1) (i / 2)) else l
termination_by i=>i
decreasing_by omega
theorem tu (f:List Pt) (t:Int×Int): ∀(i:Nat) (l:List Int),i<aiN l->(jf f t i l).Perm l:=by
 intro i
 induction i using NE with
 |ind i ih=>
  intro l hi;cases i with
  |zero=>unfold jf;exact abM _
  |succ i=>
   unfold jf;split
   · have sp:=fo (l:=l) hi (show i / 2<(aiN l) by omega)
     exact (ih (i / 2) (by omega) _ (by rw [sp.length_eq];omega)).trans sp
   exact abM _
theorem Jt (p q:Pt) (t:Int×Int):FW p q t=(p.2.1*t.2+p.2.2*t.1) - (q.2.1*t.2+q.2.2*t.1):=by rw [zD,acK,acK];omega
theorem qW {p q r:Pt} {t:Int×Int} (h1:leads p q t) (h2:leads q r t):leads p r t:=by unfold leads at*;rw [Jt] at*;generalize p.2.1*t.2+p.2.2*t.1=a at*;generalize q.2.1*t.2+q.2.2*t.1=b at*;generalize r.2.1*t.2+r.2.2*t.1=c at*;omega
theorem jF {p q:Pt} (t:Int×Int) (h:p.1≠q.1) (hn: ¬leads p q t):leads q p t:=by unfold leads at*;rw [Jt] at*;generalize p.2.1*t.2+p.2.2*t.1=a at*;generalize q.2.1*t.2+q.2.2*t.1=b at*;omega
theorem eD (l:List Int) (i j:Nat):(cq l i j).length=(aiN l):=by unfold cq;rw [lw,lw]
theorem NH (l:List Int) {i j:Nat} (_:i<aiN l) (hj:j<aiN l):(cq l i j)[j]! =l[i]!:=by unfold cq;rw [bn,lm ⟨rfl,by rw [lw];exact hj⟩]
noncomputable def qX (f:List Pt) (t:Int×Int):Nat->List Int->Nat
 |0,_=>0
 |i+1,l=>if leads (aW f l[i+1]!) (aW f l[i / 2]!) t then qX f t (i / 2) (cq l (i+1) (i / 2)) else i+1
termination_by i=>i
decreasing_by omega
theorem Gu (f:List Pt) (t:Int×Int): ∀(i:Nat) (l:List Int),i<aiN l->qX f t i l<aiN l/\(jf f t i l)[qX f t i l]! =l[i]!:=by
 intro i
 induction i using NE with
 |ind i ih=>
  intro l hi;cases i with
  |zero=>unfold qX jf;exact ⟨hi,rfl⟩
  |succ i=>
   unfold qX jf;split
   · have hj:i / 2<(aiN l):=by omega
     obtain ⟨h1,h2⟩:=ih (i / 2) (by omega) (cq l (i+1) (i / 2)) (by rw [eD];exact hj);rw [eD] at h1;exact ⟨h1,by rw [h2,NH l hi hj]⟩
   exact ⟨hi,rfl⟩
noncomputable def ir (f:List Pt) (t:Int×Int) (l:List Int) (i:Nat):Nat:=if 2*i+1<aiN l/\leads (aW f l[2*i+1]!) (aW f l[i]!) t then 2*i+1 else i
noncomputable def cz (f:List Pt) (t:Int×Int) (l:List Int) (i:Nat):Nat:=if 2*i+2<aiN l/\leads (aW f l[2*i+2]!) (aW f l[ir f t l i]!) t then 2*i+2 else ir f t l i
theorem jg (f:List Pt) (t:Int×Int) (l:List Int) (i:Nat):ir f t l i=i\/(ir f t l i=2*i+1/\2*i+1<aiN l):=by
 unfold ir;split
 · rename_i h;exact .inr ⟨rfl,h.1⟩
 exact .inl rfl
theorem mz (f:List Pt) (t:Int×Int) (l:List Int) (i:Nat):cz f t l i=i\/(i<cz f t l i/\cz f t l i<aiN l):=by
 unfold cz;split
 · rename_i h;exact .inr ⟨by omega,h.1⟩
 rcases jg f t l i with h|⟨h,k⟩
 · exact .inl h
 exact .inr (by omega)
noncomputable def rM (f:List Pt) (t:Int×Int) (l:List Int) (i:Nat):List Int:=
 if _h:i<cz f t l i/\cz f t l i<(aiN l) then rM f t (cq l i (cz f t l i)) (cz f t l i) else l
termination_by (aiN l)-i
decreasing_by rw [eD];omega
theorem nC {f:List Pt} {t:Int×Int} {l:List Int} {i:Nat} (h:cz f t l i=i):rM f t l i=l:=by unfold rM;rw [dif_neg (by omega)]
theorem vX {f:List Pt} {t:Int×Int} {l:List Int} {i:Nat} (h:cz f t l i≠i):rM f t l i=rM f t (cq l i (cz f t l i)) (cz f t l i):=by
 have:=mz f t l i
 conv=>lhs;unfold rM
 rw [dif_pos (by omega)]
theorem Gv (f:List Pt) (t:Int×Int): ∀(d:Nat) (l:List Int) (i:Nat),aiN l-i<=d->i<aiN l->(rM f t l i).Perm l:=by
 intro d
 induction d with
 |zero=>intro l i h hi;omega
 |succ d ih=>
  intro l i h hi
  by_cases e:cz f t l i=i
  · rw [nC e]
  have:=mz f t l i
  rw [vX e];exact (ih _ _ (by rw [eD];omega) (by rw [eD];omega)).trans (fo hi (by omega))
structure SO (P:Int->Int->Prop) (S:Int->Prop):Prop where
 irr: ∀a,S a-> ¬P a a
 tr: ∀a b c,S a->S b->S c->P a b->P b c->P a c
 tot: ∀a b,S a->S b->a≠b->P a b\/P b a
abbrev par (j:Nat):Nat:=(j-1) / 2
def Hp (P:Int->Int->Prop) (l:List Int):Prop:= ∀j,0<j->j<aiN l-> ¬P l[j]! l[par j]!
section
variable {P : Int -> Int -> Prop} {S : Int -> Prop}
theorem SO.TI (o:SO P S) {a b:Int} (ha:S a) (hb:S b) (h:P a b): ¬P b a:=fun k=>o.irr a ha (o.tr a b a ha hb ha h k)
theorem SO.ntr (o:SO P S) {a b c:Int} (ha:S a) (hb:S b) (hc:S c) (h1: ¬P a b) (h2: ¬P b c): ¬P a c:=fun h=>by
 by_cases e:b=c
 · exact h1 (e▸h)
 rcases o.tot b c hb hc e with k|k
 · exact h2 k
 exact h1 (o.tr a c b ha hc hb h k)
theorem SO.up (o:SO P S) {a b c:Int} (ha:S a) (hb:S b) (hc:S c) (h1:P b c) (h2: ¬P a c): ¬P a b:=fun h=>h2 (o.tr a b c ha hb hc h h1)
theorem jh (l:List Int) {i j:Nat} (hi:i<aiN l) (hj:j<aiN l) (k:Nat):(cq l i j)[k]! =if k=j then l[i]! else if k=i then l[j]! else l[k]!:=by
 unfold cq;rw [bn,lw,bn]
 by_cases c:k=j
 · rw [lm ⟨c,hj⟩,lm c]
 rw [ls (fun h=>c h.1),ls c]
 by_cases d:k=i
 · rw [lm ⟨d,hi⟩,lm d]
 rw [ls (fun h=>d h.1),ls d]
structure Pd (P:Int->Int->Prop) (l:List Int) (i:Nat):Prop where
 lt:i<aiN l
 el: ∀j,0<j->j<aiN l->j≠i-> ¬P l[j]! l[par j]!
 gr: ∀j,0<j->j<aiN l->par j=i->0<i-> ¬P l[j]! l[par i]!
theorem C4 (o:SO P S) {f:List Pt} {t:Int×Int} (hP: ∀a b,P a b↔leads (aW f a) (aW f b) t): ∀(i:Nat) (l:List Int),(∀x∈l,S x)->Pd P l i->Hp P (jf f t i l):=by
 intro i
 induction i using NE with
 |ind i ih=>
  intro l hS v;have sm: ∀j,j<aiN l->S l[j]!:=fun j hj=>hS _ (aL hj)
  cases i with
  |zero=>unfold jf;exact fun j h1 h2=>v.el j h1 h2 (by omega)
  |succ i=>
   have hi:=v.lt;have hp:i / 2<(aiN l):=by omega
   have pe:par (i+1)=i / 2:=by simp only [par];omega
   unfold jf;split
   · rename_i hc
     have hc:P l[i+1]! l[i / 2]!:=(hP _ _).2 hc;refine ih (i / 2) (by omega) _ (fun x hx=>hS x ((fo hi hp).mem_iff.1 hx)) ⟨by rw [eD];exact hp,fun j h1 h2 h3=>?_,fun j h1 h2 h3 h4=>?_⟩
     · rw [eD] at h2
       rw [jh l hi hp,jh l hi hp,ls h3]
       by_cases a:j=i+1
       · subst a
         rw [lm rfl,pe,lm rfl];exact o.TI (sm _ hi) (sm _ hp) hc
       rw [ls a]
       by_cases b:par j=i / 2
       · rw [b,lm rfl]
         have:=v.el j h1 h2 a;rw [b] at this;exact o.up (sm _ h2) (sm _ hi) (sm _ hp) hc this
       rw [ls b]
       by_cases d:par j=i+1
       · rw [lm d]
         have:=v.gr j h1 h2 d (by omega);rw [pe] at this;exact this
       rw [ls d];exact v.el j h1 h2 a
     rw [eD] at h2
     have hq:par (i / 2)<(aiN l):=by simp only [par];omega
     have ne1:par (i / 2)≠i / 2:=by simp only [par];omega
     have ne2:par (i / 2)≠i+1:=by simp only [par];omega
     rw [jh l hi hp,jh l hi hp,ls ne1,ls ne2,ls (by simp only [par] at h3;omega)];have gp:=v.el (i / 2) h4 hp (by omega)
     by_cases a:j=i+1
     · rw [lm a];exact gp
     rw [ls a]
     have:=v.el j h1 h2 a;rw [h3] at this;exact o.ntr (sm _ h2) (sm _ hp) (sm _ hq) this gp
   rename_i hc
   have hc: ¬P l[i+1]! l[i / 2]!:=fun h=>hc ((hP _ _).1 h)
   intro j h1 h2
   by_cases a:j=i+1
   · subst a;rw [pe];exact hc
   exact v.el j h1 h2 a
structure abj (P:Int->Int->Prop) (l:List Int) (i:Nat):Prop where
 lt:i<aiN l
 el: ∀j,0<j->j<aiN l->par j≠i-> ¬P l[j]! l[par j]!
 gr: ∀j,0<j->j<aiN l->par j=i->0<i-> ¬P l[j]! l[par i]!
theorem LK (o:SO P S) {f:List Pt} {t:Int×Int} (hP: ∀a b,P a b↔leads (aW f a) (aW f b) t) {l:List Int} (sm: ∀j,j<aiN l->S l[j]!) {i:Nat} (hi:i<aiN l):
 (cz f t l i=i\/P l[cz f t l i]! l[i]!)/\ ∀j,0<j->j<aiN l->par j=i-> ¬P l[j]! l[cz f t l i]!:=by
 have hA:(ir f t l i=i\/P l[ir f t l i]! l[i]!)/\(2*i+1<aiN l-> ¬P l[2*i+1]! l[ir f t l i]!)/\ir f t l i<(aiN l):=by
  unfold ir;split
  · rename_i h
    exact ⟨.inr ((hP _ _).2 h.2),fun _=>o.irr _ (sm _ h.1),h.1⟩
  rename_i h
  exact ⟨.inl rfl,fun hl c=>h ⟨hl,(hP _ _).1 c⟩,hi⟩
 obtain ⟨a1,a2,a3⟩:=hA;have ch: ∀j,0<j->par j=i->j=2*i+1\/j=2*i+2:=fun j h1 h2=>by simp only [par] at h2;omega
 unfold cz;split
 · rename_i h
   have h2:=(hP _ _).2 h.2;refine ⟨.inr ?_,fun j h1 hl hp=>?_⟩
   · rcases a1 with e|e
     · rw [e] at h2;exact h2
     exact o.tr _ _ _ (sm _ h.1) (sm _ a3) (sm _ hi) h2 e
   rcases ch j h1 hp with rfl|rfl
   · exact o.ntr (sm _ hl) (sm _ a3) (sm _ h.1) (a2 hl) (o.TI (sm _ h.1) (sm _ a3) h2)
   exact o.irr _ (sm _ hl)
 rename_i h
 refine ⟨a1,fun j h1 hl hp=>?_⟩;rcases ch j h1 hp with rfl|rfl
 · exact a2 hl
 exact fun c=>h ⟨hl,(hP _ _).1 c⟩
theorem QV (o:SO P S) {f:List Pt} {t:Int×Int} (hP: ∀a b,P a b↔leads (aW f a) (aW f b) t): ∀(d:Nat) (l:List Int) (i:Nat),aiN l-i<=d->(∀x∈l,S x)->abj P l i->Hp P (rM f t l i):=by
 intro d
 induction d with
 |zero=>intro l i h _ v;have:=v.lt;omega
 |succ d ih=>
  intro l i h hS v;have sm: ∀j,j<aiN l->S l[j]!:=fun j hj=>hS _ (aL hj)
  have hi:=v.lt;obtain ⟨b1,b2⟩:=LK o hP sm hi
  by_cases e:cz f t l i=i
  · rw [nC e]
    intro j h1 h2
    by_cases c:par j=i
    · have:=b2 j h1 h2 c
      rw [e] at this;rw [c];exact this
    exact v.el j h1 h2 c
  rw [vX e]
  have kc:=mz f t l i;have ki:cz f t l i=2*i+1\/cz f t l i=2*i+2:=by
   have:=jg f t l i;unfold cz at e ⊢;split
   · exact .inr rfl
   rename_i hh;rw [ls hh] at e;omega
  have hb:cz f t l i<(aiN l):=by omega
  have pb:par (cz f t l i)=i:=by simp only [par];omega
  have tI:P l[cz f t l i]! l[i]!:=b1.resolve_left e;generalize cz f t l i=b at*;refine ih _ b (by rw [eD];omega) (fun x hx=>hS x ((fo hi hb).mem_iff.1 hx)) ⟨by rw [eD];exact hb,fun j h1 h2 h3=>?_,fun j h1 h2 h3 h4=>?_⟩
  · rw [eD] at h2
    rw [jh l hi hb,jh l hi hb,ls h3]
    by_cases a:j=b
    · subst a
      rw [lm rfl,pb,lm rfl];exact o.TI (sm _ hb) (sm _ hi) tI
    rw [ls a]
    by_cases c:j=i
    · subst c
      rw [lm rfl,ls (by simp only [par];omega)];exact v.gr b (by omega) hb pb h1
    rw [ls c]
    by_cases g:par j=i
    · rw [lm g];exact b2 j h1 h2 g
    rw [ls g];exact v.el j h1 h2 g
  rw [eD] at h2
  have j1:j≠b:=by simp only [par] at h3;omega
  have j2:j≠i:=by simp only [par] at h3;omega
  rw [jh l hi hb,jh l hi hb,ls j1,ls j2,pb,ls (by omega),lm rfl];have:=v.el j h1 h2 (by omega);rw [h3] at this;exact this
theorem HZ {f:List Pt} {t:Int×Int} {l:List Int} {i:Nat} (h:0<i-> ¬leads (aW f l[i]!) (aW f l[par i]!) t):jf f t i l=l/\qX f t i l=i:=by
 cases i with
 |zero=>unfold jf qX;exact ⟨rfl,rfl⟩
 |succ i=>
  have pe:par (i+1)=i / 2:=by simp only [par];omega
  have h:=h (by omega);rw [pe] at h;unfold jf qX;rw [ls h,ls h];exact ⟨rfl,rfl⟩
theorem H0 (o:SO P S) {f:List Pt} {t:Int×Int} (hP: ∀a b,P a b↔leads (aW f a) (aW f b) t) {l:List Int} (sm: ∀j,j<aiN l->S l[j]!) (h:Hp P l) {i:Nat} (hi:i<aiN l):rM f t l i=l:=by
 refine nC ?_;rcases (LK o hP sm hi).1 with e|e
 · exact e
 have kc:=mz f t l i
 have kA:=jg f t l i;rcases acQ (cz f t l i=i) with q|q
 · exact q
 have pk:par (cz f t l i)=i:=by
  simp only [par];unfold cz at q ⊢;split
  · omega
  rename_i hh;rw [ls hh] at q;omega
 have:=h (cz f t l i) (by omega) (by omega);rw [pk] at this;exact absurd e this
theorem DH (o:SO P S) {f:List Pt} {t:Int×Int} (hP: ∀a b,P a b↔leads (aW f a) (aW f b) t) {l:List Int} (hS: ∀x∈l,S x) {a:Nat} (ha:a<aiN l)
 (h1: ∀j,0<j->j<aiN l->j≠a->par j≠a-> ¬P l[j]! l[par j]!) (h2: ∀j,0<j->j<aiN l->par j=a->0<a-> ¬P l[j]! l[par a]!):
 Hp P (rM f t (jf f t a l) (qX f t a l)):=by
 have sm: ∀j,j<aiN l->S l[j]!:=fun j hj=>hS _ (aL hj)
 by_cases c:0<a/\P l[a]! l[par a]!
 · have rv:Pd P l a:=⟨ha,fun j j1 j2 j3=>by
    by_cases e:par j=a
    · rw [e]
      exact o.up (sm _ j2) (sm _ ha) (sm _ (by simp only [par];omega)) c.2 (h2 j j1 j2 e c.1)
    exact h1 j j1 j2 j3 e,h2⟩
   have hh:=C4 o hP a l hS rv;have pm:=tu f t a l ha;have ri:=(Gu f t a l ha).1;rw [H0 o hP (fun j hj=>hS _ (pm.mem_iff.1 (aL hj))) hh (by rw [pm.length_eq];exact ri)];exact hh
 have c':0<a-> ¬leads (aW f l[a]!) (aW f l[par a]!) t:=fun h0 h=>c ⟨h0,(hP _ _).2 h⟩
 obtain ⟨e1,e2⟩:=HZ c';rw [e1,e2];refine QV o hP _ l a (EQ _) hS ⟨ha,fun j j1 j2 j3=>?_,h2⟩
 by_cases e:j=a
 · subst e;exact fun h=>c ⟨j1,h⟩
 exact h1 j j1 j2 e j3
end
theorem Ug {f:List Pt} (cj:bG f) (k:Nat):bG (f.eraseIdx k):=by
 refine ⟨abS (acy f k) cj.1,fun p hp=>cj.2.1 p (List.mem_of_mem_eraseIdx hp),?_⟩;have h:=cj.2.2;intro i hi;have hl:=acy f k
 by_cases hk:k<aiN f
 · have:=Eb hk
   rw [xj,xj];split<;>split<;>exact fk h (by omega) (by omega)
 rw [List.eraseIdx_of_length_le (by omega)] at hi ⊢
 exact h i hi
theorem DI {f:List Pt} (cj:bG f) {k:Nat} (hk:k<aiN f):iH ⟨f⟩ (f[k]!).1=aiP ((k:Int),0):=by
 have h1:=cj.1;have hc:cU ⟨f⟩=aiP 0:=by rw [eN];exact congrArg aiP (dj.2 cj)
 have bs:=sE f (f[k]!).1 (by omega) (fun i j=>fk cj.2.2);unfold iH iW;rw [zB];simp only [hc,aq,show ((0:Int) !=0)=aiY from rfl,lc,bs.1 k hk rfl,Do]
theorem z9 {f:List Pt} (cj:bG f) {id:Int} (h: ¬gU f id):iH ⟨f⟩ id=aiP (0,6):=by
 have h1:=cj.1;have hc:cU ⟨f⟩=aiP 0:=by rw [eN];exact congrArg aiP (dj.2 cj)
 have bs:=sE f id (by omega) (fun i j=>fk cj.2.2);obtain ⟨m,_,_,_,e⟩:=bs.2 (fun k hk he=>h ⟨k,hk,he⟩);unfold iH iW;rw [zB];simp only [hc,aq,show ((0:Int) !=0)=aiY from rfl,lc,e,abJ,kw]
theorem Ju:jN=eC:=rfl
theorem NI {f:List Pt} (cj:bG f) {k:Nat} (hk:k<aiN f):gd ⟨f⟩ (f[k]!).1=aiP (⟨f.eraseIdx k⟩,0)/\w5 ⟨f⟩ (f[k]!).1=aiP (⟨f.eraseIdx k⟩,0):=by
 have f1:=cj.1;constructor
 · obtain ⟨L,d1,d2⟩:=uz f k hk
   unfold gd;rw [DI cj hk,aq,bo rfl,lc,bc (show (aiN f)<=1048576 by omega),aq,aY (show k<1000000000 by omega),Ju,d1,aq];show aiP (Field.mk (L.take (aiN f-1)),(0:Int))=_;rw [d2]
 have hc:gQ ⟨f⟩=aiP 0:=by rw [mq];exact congrArg aiP (dj.2 cj)
 unfold w5;rw [hc,aq,bo rfl,lc,zx cj.2.2 (by omega) hk rfl,aq,aF (by omega),lc];unfold zX;generalize hn:(f[k]!).1=n;have key:=dN (body:=iO) (fun i=>(n,(i:Int),f,(f.take i).filter (fun x=>x.1 !=n))) (aiN f) (fun i hi=>by
  have nx:(f.take (i+1)).filter (fun x=>x.1 !=n)=(f.take i).filter (fun x=>x.1 !=n)++(if (f[i]!).1 !=n then [f[i]!] else []):=by rw [fv hi,List.filter_append,List.filter_cons,List.filter_nil]
  have fl:((f.take i).filter (fun x=>x.1 !=n)).length<=200:=abS (List.length_filter_le _ _) (by rw [If];omega);unfold iO;simp only [az,aJ (show (i:Int)<((aiN f):Int) by omega),kw,ar f i hi,aq,aY (show i<1000000000 by omega),nx]
  by_cases h:(f[i]!).1=n
  · rw [bo h];simp
  rw [dL h]
  simp only [kw,if_true,cR (show ((f.take i).filter (fun x=>x.1 !=n)).length+[f[i]!].length<=1048576 by simp only [IR,abL];omega),aq])
 have fin:aB iO (n,((aiN f):Int),f,(f.take (aiN f)).filter (fun x=>x.1 !=n))=aiP ⟨f.eraseIdx k⟩:=aA (by unfold iO;simp only [az,aF (show¬((aiN f):Int)<((aiN f):Int) by omega),lc,abT];rw [BS hk (fun i j=>fk cj.2.2) hn]);rw [show aB iO (n,0,f,[])=_ from key,fin,aq]
theorem Jv {f:List Pt} (cj:bG f) {id:Int} (h: ¬gU f id):gd ⟨f⟩ id=aiP (⟨[]⟩,6)/\w5 ⟨f⟩ id=aiP (⟨[]⟩,6):=by
 constructor
 · unfold gd
   rw [z9 cj h];rfl
 have hc:gQ ⟨f⟩=aiP 0:=by rw [mq];exact congrArg aiP (dj.2 cj)
 unfold w5;rw [hc,aq,bo rfl,lc,AQ cj h];rfl
def o4 (f:List Pt) (m:Nat) (p:Pt):List Pt:=f.take m++p::f.drop m
structure LL (f:List Pt) (p:Pt) (m:Nat):Prop where
 le:m<=aiN f
 lo: ∀i,i<m->(f[i]!).1<p.1
 hi: ∀i,m<=i->i<aiN f->p.1<(f[i]!).1
theorem Gw {f:List Pt} {m:Nat} (h:m<=aiN f) (p:Pt):(o4 f m p).length=aiN f+1:=by unfold o4;rw [AC,IR,If,abU];omega
theorem H3 {f:List Pt} {m:Nat} (h:m<=aiN f) (p:Pt) (i:Nat):(o4 f m p)[i]! =if i<m then f[i]! else if i=m then p else f[i-1]!:=by
 have ht:(f.take m).length=m:=by rw [If];omega
 unfold o4;simp only [v4]
 by_cases h1:i<m
 · rw [lm h1,abQ (by omega),acr h1]
 rw [ls h1,List.getElem?_append_right (by omega),ht]
 by_cases h2:i=m
 · rw [lm h2,h2,Nat.sub_self];rfl
 rw [ls h2,show i-m=(i-1-m)+1 by omega,List.getElem?_cons_succ,List.getElem?_drop,show m+(i-1-m)=i-1 by omega]
theorem abk {f:List Pt} (cj:bG f) {p:Pt} (po:ff p) {m:Nat} (h:LL f p m) (hl:(aiN f)<64):bG (o4 f m p):=by
 refine ⟨by rw [Gw h.le];omega,fun q hq=>?_,fun i hi=>?_⟩
 · rcases ac9.1 hq with hq|hq
   · exact cj.2.1 q (abZ hq)
   rcases abX.1 hq with rfl|hq
   · exact po
   exact cj.2.1 q (acO hq)
 rw [Gw h.le] at hi
 rw [H3 h.le,H3 h.le];rcases rc (i+1) m with c|c|c
 · rw [lm (by omega),lm c];exact fk cj.2.2 (by omega) (by have:=h.le;omega)
 · rw [lm (by omega),ls (by omega),lm c];exact h.lo i (by omega)
 rw [ls (show¬i+1<m by omega),ls (show¬i+1=m by omega),Nat.add_sub_cancel]
 by_cases d:i=m
 · rw [ls (by omega),lm d];exact h.hi i (by omega) (by omega)
 rw [ls (by omega),ls d];exact fk cj.2.2 (by omega) (by omega)
theorem NJ {f:List Pt} (cj:bG f) {p:Pt} (h: ¬gU f p.1): ∃m,LL f p m/\iW ⟨f⟩ p.1=aiP ((m:Int),aiY):=by have h1:=cj.1;obtain ⟨m,a,b,c,e⟩:=(sE f p.1 (by omega) (fun i j=>fk cj.2.2)).2 (fun k hk he=>h ⟨k,hk,he⟩);refine ⟨m,⟨a,b,c⟩,?_⟩;unfold iW;rw [zB,e];rfl
theorem NK {f:List Pt} (cj:bG f) {id:Int} (h:gU f id): ∃k,k<aiN f/\(f[k]!).1=id/\iW ⟨f⟩ id=aiP ((k:Int),aiS):=by have h1:=cj.1;obtain ⟨k,hk,he⟩:=h;refine ⟨k,hk,he,?_⟩;unfold iW;rw [zB,(sE f id (by omega) (fun i j=>fk cj.2.2)).1 k hk he];rfl
theorem abl {f:List Pt} (_:bG f) {p:Pt} {m:Nat} (h:LL f p m) (hl:(aiN f)<64):aB fA (aiY,0,f,p.1,p.2.1,p.2.2,[])=aiP (⟨o4 f m p⟩,0):=by
 have mB:=h.le;have tl: ∀i,(f.take i).length<=64:=fun i=>by rw [If];omega
 have k1:=dN (body:=fA) (fun i=>(aiY,(i:Int),f,p.1,p.2.1,p.2.2,f.take i)) m (fun i hi=>by
  unfold fA;simp only [az,aJ (show (i:Int)<((aiN f):Int) by omega),kw,abJ,ar f i (by omega),aq,aF (show¬p.1<(f[i]!).1 from aiA.2 (acV (h.lo i hi))),lc,
   cR (show (f.take i).length+[f[i]!].length<=1048576 by have:=tl i;simp only [IR,abL];omega),aY (show i<1000000000 by omega),fv (show i<(aiN f) by omega)])
 refine (show aB fA (aiY,0,f,p.1,p.2.1,p.2.2,[])=_ from k1).trans ?_;have pe:((p.1,p.2.1,p.2.2):Pt)=p:=rfl;rcases acX m (aiN f) with hm|hm
 · have s1:fA (aiY,(m:Int),f,p.1,p.2.1,p.2.2,f.take m)=aiP (.next (aiS,((m+1:Nat):Int),f,p.1,p.2.1,p.2.2,f.take m++[p]++[f[m]!])):=by
    unfold fA;simp only [az,aJ (show (m:Int)<((aiN f):Int) by omega),kw,abJ,ar f m hm,aq,aJ (h.hi m (EQ _) hm),pe,
     cR (show (f.take m).length+[p].length<=1048576 by have:=tl m;simp only [IR,abL];omega),
     cR (show (f.take m++[p]).length+[f[m]!].length<=1048576 by have:=tl m;simp only [AC,IR,abL];omega),aY (show m<1000000000 by omega)]
   rw [aM s1];have k2:=dN (body:=fA) (fun i=>(aiS,((m+1+i:Nat):Int),f,p.1,p.2.1,p.2.2,f.take m++[p]++(f.drop m).take (i+1))) (aiN f- (m+1)) (fun i hi=>by
    have ed:(f.drop m).take (i+1+1)=(f.drop m).take (i+1)++[f[m+1+i]!]:=by rw [fv (show i+1<(f.drop m).length by rw [abU];omega),pL];congr 3;omega
    unfold fA;simp only [az,aJ (show ((m+1+i:Nat):Int)<((aiN f):Int) by omega),kw,Do,lc,ar f (m+1+i) (by omega),aq,
     cR (show (f.take m++[p]++(f.drop m).take (i+1)).length+[f[m+1+i]!].length<=1048576 by have:=tl m;simp only [AC,If,abU,IR,abL] at this ⊢;omega),aY (show m+1+i<1000000000 by omega),ed]
    rw [adc (f.take m++[p]),show m+1+i+1=m+1+(i+1) by omega])
   have e0:(f.drop m).take (0+1)=[f[m]!]:=by have:=FU hm;rw [show f.drop m=f[m]!::f.drop (m+1) by rw [getElem!_pos f m hm,List.getElem_cons_drop]];rfl
   rw [e0] at k2;refine (show aB fA (aiS,((m+1:Nat):Int),f,p.1,p.2.1,p.2.2,f.take m++[p]++[f[m]!])=_ from k2).trans (aA ?_);have ef:(f.drop m).take (aiN f- (m+1)+1)=f.drop m:=List.take_of_length_le (by rw [abU];omega);rw [ef,show m+1+(aiN f- (m+1))=(aiN f) by omega];unfold fA o4;simp only [az,aF (show¬((aiN f):Int)<((aiN f):Int) by omega),lc,Do,adc,List.singleton_append]
 obtain rfl:m=(aiN f):=by omega
 refine aA ?_;unfold fA o4;simp only [az,aF (show¬((aiN f):Int)<((aiN f):Int) by omega),lc,abJ,kw,pe,abT,
  cR (show (aiN f)+[p].length<=1048576 by simp only [IR,abL];omega),aq,acB]
theorem Gx {f:List Pt} (cj:bG f) (p:Pt):
 (∃e:Int,e≠0/\hM ⟨f⟩ p=aiP (⟨[]⟩,e)/\sN ⟨f⟩ p=aiP (⟨[]⟩,e))\/
 (∃m,LL f p m/\ ¬gU f p.1/\ff p/\aiN f<64/\hM ⟨f⟩ p=aiP (⟨o4 f m p⟩,0)/\sN ⟨f⟩ p=aiP (⟨o4 f m p⟩,0)):=by
 have f1:=cj.1;have hc:cU ⟨f⟩=aiP 0:=by rw [eN];exact congrArg aiP (dj.2 cj)
 have Cl:gQ ⟨f⟩=aiP 0:=by rw [mq];exact congrArg aiP (dj.2 cj)
 by_cases po:ff p
 case neg=>
  refine .inl ⟨8,by decide,?_,?_⟩
  · unfold hM;rw [hc,aq,bo rfl,lc,fB,ls po];rfl
  unfold sN;rw [Cl,aq,bo rfl,lc,gR,ls po];rfl
 by_cases hp:gU f p.1
 · obtain ⟨k,hk,he,e⟩:=NK cj hp
   refine .inl ⟨14,by decide,?_,?_⟩
   · unfold hM;rw [hc,aq,bo rfl,lc,fB,lm po,aq,bo rfl,lc,e];rfl
   unfold sN;rw [Cl,aq,bo rfl,lc,gR,lm po,aq,bo rfl,lc,zx cj.2.2 (by omega) hk he,aq,aJ (show (0:Int)<=(k:Int) by omega)];rfl
 obtain ⟨m,hm,e⟩:=NJ cj hp
 by_cases full:(aiN f)=64
 · refine .inl ⟨18,by decide,?_,?_⟩
   · unfold hM;rw [hc,aq,bo rfl,lc,fB,lm po,aq,bo rfl,lc,e,aq,lc]
     simp only [az,full];rfl
   unfold sN;rw [Cl,aq,bo rfl,lc,gR,lm po,aq,bo rfl,lc,AQ cj hp,aq,aF (by decide),lc]
   simp only [az,full];rfl
 have hl:(aiN f)<64:=by omega
 have hf:(abV (aiN f)==64)=aiY:=by simp only [az,beq_eq_false_iff_ne];omega
 refine .inr ⟨m,hm,hp,po,hl,?_,?_⟩
 · have hi:zd f (m:Int) [p]=aiP (o4 f m p):=by
    unfold zd;rw [lm ⟨by omega,by have:=hm.le;simpa using this,rfl,by omega⟩];simp [o4]
   unfold hM;rw [hc,aq,bo rfl,lc,fB,lm po,aq,bo rfl,lc,e,aq,lc,hf,lc,bc (show (aiN f)<=1048576 by omega),aq,hi,aq]
 unfold sN
 rw [Cl,aq,bo rfl,lc,gR,lm po,aq,bo rfl,lc,AQ cj hp,aq,aF (by decide),lc,hf,lc];exact abl cj hm hl
theorem aiT {f:List Pt} (cj:bG f) {p:Pt} (po:ff p) {k:Nat} (hk:k<aiN f) (he:(f[k]!).1=p.1):bG (f.set k p):=by
 refine ⟨by rw [lw];exact cj.1,fun q hq=>?_,fun i hi=>?_⟩
 · rcases List.mem_or_eq_of_mem_set hq with h|rfl
   · exact cj.2.1 q h
   exact po
 rw [lw] at hi
 have h:=fk cj.2.2 (show i<i+1 by omega) hi;have g: ∀j:Nat,((f.set k p)[j]!).1=(f[j]!).1:=fun j=>by
  simp only [v4,adk]
  by_cases c:k=j
  · subst c
    rw [lm rfl,lm hk];simp only [v4] at he;exact he.symm
  rw [ls c]
 rw [g,g];exact h
theorem BW {f:List Pt} (cj:bG f) (p:Pt):
 (∃e:Int,e≠0/\dw ⟨f⟩ p=aiP (⟨[]⟩,e)/\oR ⟨f⟩ p=aiP (⟨[]⟩,e))\/
 (∃k,k<aiN f/\(f[k]!).1=p.1/\ff p/\dw ⟨f⟩ p=aiP (⟨f.set k p⟩,0)/\oR ⟨f⟩ p=aiP (⟨f.set k p⟩,0)):=by
 have f1:=cj.1;have hc:cU ⟨f⟩=aiP 0:=by rw [eN];exact congrArg aiP (dj.2 cj)
 have Cl:gQ ⟨f⟩=aiP 0:=by rw [mq];exact congrArg aiP (dj.2 cj)
 by_cases po:ff p
 case neg=>
  refine .inl ⟨8,by decide,?_,?_⟩
  · unfold dw;rw [hc,aq,bo rfl,lc,fB,ls po];rfl
  unfold oR;rw [Cl,aq,bo rfl,lc,gR,ls po];rfl
 by_cases hp:gU f p.1
 case neg=>
  refine .inl ⟨6,by decide,?_,?_⟩
  · unfold dw;rw [hc,aq,bo rfl,lc,fB,lm po,aq,bo rfl,lc,z9 cj hp];rfl
  unfold oR;rw [Cl,aq,bo rfl,lc,gR,lm po,aq,bo rfl,lc,AQ cj hp];rfl
 obtain ⟨k,hk,he⟩:=hp;have pl:=DI cj hk;rw [he] at pl;refine .inr ⟨k,hk,he,po,?_,?_⟩
 · unfold dw
   rw [hc,aq,bo rfl,lc,fB,lm po,aq,bo rfl,lc,pl,aq,bo rfl,lc,bc (show (aiN f)<=1048576 by omega),aq,ar f k hk,aq,de]
 unfold oR kW
 rw [Cl,aq,bo rfl,lc,gR,lm po,aq,bo rfl,lc,zx cj.2.2 (by omega) hk he,aq,aF (by omega),lc,bc (show (aiN f)<=1048576 by omega),aq,aq,ar f k hk,aq,de]
noncomputable def mM (f:List Pt) (es:List (Int×Int)):Int:=if¬(∀x∈es,fN x) then 8 else if¬es.Nodup then 14 else if¬(∀x∈es,jd f x) then 6 else 0
def rP (c:aH) (f:List Pt) (es:List (Int×Int)) (i:Nat):=
 (es,es,((aiN es):Int),(i:Int),c.ci.1,c.ci.2,c.ii.am,c.ai.aK,c.ai.ce,c.aa.af.ay,c.aa.af.be,c.aa.af.bi,c.aa.bv,c.aa.aj,c.io,f,(0:Int),(0:Int),(0:Int))
theorem Gy {c:aH} (ok:aU c) {f:List Pt} (cj:bG f) {es:List (Int×Int)} (hl:(aiN es)<=1000) {r:aH×Int} (hr:mM f es=0->dZ c ⟨f⟩ es=aiP r):
 qL c ⟨f⟩ es=aiP (if mM f es=0 then r else (dI,mM f es)):=by
 have bd:=ok.bd;have ab:=ok.lI.bd;have sl:=ok.lI.so.fl;have sn:=ok.lI.so.n2;have su:=ok.lI.so.ul;have el:aiZ (((aiN es):Int)<((aiN es):Int))=aiY:=aF (by omega);have hc:gm c=aiP 0:=by rw [kI ok.fit,lm ok]
 have hf:cU ⟨f⟩=aiP 0:=by rw [eN];exact congrArg aiP (dj.2 cj)
 have tw:s8 (aH.mk (c.ci.1,c.ci.2) (Field.mk c.ii.am) (bj.mk c.ai.aK c.ai.ce) (aI.mk (aQ.mk c.aa.af.ay c.aa.af.be c.aa.af.bi) c.aa.bv c.aa.aj) c.io)=aiP c:=by
  unfold s8;simp only [bc (show (aiN c.ii.am)<=1048576 by omega),bc (show (aiN c.ai.ce)<=1048576 by omega),bc (show (aiN c.io)<=1048576 by omega),bc (show (aiN c.aa.bv)<=1048576 by omega),bc (show (aiN c.aa.aj)<=1048576 by omega),
   bc (show (aiN c.aa.af.ay)<=1048576 by omega),bc (show (aiN c.aa.af.be)<=1048576 by omega),bc (show (aiN c.aa.af.bi)<=1048576 by omega),aq]
 have k3: ∀e2:aH×Int,aB eK (rP c f es 0)=aiP (.done e2)->aB eL (rP c f es 0)=aiP (if∀i,i<aiN es->fN es[i]! then e2 else (dI,8)):=by
  intro e2 h2;refine AR (body:=eL) (fun i=>rP c f es i) (aiN es) (fun i=>fN es[i]!) (r:=(dI,8)) (e:=e2) (fun i hi=>?_) ?_
  · have e1:aiZ ((i:Int)<((aiN es):Int))=aiS:=aJ (by omega)
    unfold eL rP fN;simp only [e1,kw,ar es i hi,aq,aY (show i<1000000000 by omega)];generalize es[i]! =x
    by_cases a1:x.1<0
    · rw [aJ a1];exact ⟨fun _=>rfl,fun h=>by omega⟩
    rw [aF a1]
    by_cases a2:x.2<0
    · rw [aJ a2];exact ⟨fun _=>rfl,fun h=>by omega⟩
    rw [aF a2]
    by_cases a3:65535<x.1
    · rw [aJ a3];exact ⟨fun _=>rfl,fun h=>by omega⟩
    rw [aF a3]
    by_cases a4:65535<x.2
    · rw [aJ a4];exact ⟨fun _=>rfl,fun h=>by omega⟩
    rw [aF a4]
    by_cases a5:x.1=x.2
    · rw [cV a5];exact ⟨fun _=>rfl,fun h=>absurd a5 h.2.2.2.2⟩
    rw [dM a5];exact ⟨fun h=>absurd ⟨by omega,by omega,by omega,by omega,a5⟩ h,fun _=>rfl⟩
  unfold eL rP
  simp only [az,el,lc];exact h2
 have k2: ∀e1:aH×Int,aB ft (rP c f es 0)=aiP (.done (.done e1))->aB eK (rP c f es 0)=aiP (.done (if∀i,i<aiN es->es[i]!∉es.take i then e1 else (dI,14))):=by
  intro e0 h2;have:=AR (body:=eK) (fun i=>rP c f es i) (aiN es) (fun i=>es[i]!∉es.take i) (r:= .done (dI,14)) (e:= .done e0) (fun i hi=>by
   have e1:aiZ ((i:Int)<((aiN es):Int))=aiS:=aJ (by omega);unfold eK rP;simp only [e1,kw,ar es i hi,lH es i (by omega),aq,iL _ _ (show (es.take i).length<=1000000 by rw [If];omega),aY (show i<1000000000 by omega)]
   by_cases h:es[i]!∈es.take i
   · rw [aJ h];exact ⟨fun _=>rfl,fun k=>absurd h k⟩
   · rw [aF h];exact ⟨fun k=>absurd h k,fun _=>rfl⟩) (by
   unfold eK rP;simp only [az,el,lc];exact h2)
  refine this.trans ?_
  by_cases hb: ∀i,i<aiN es->es[i]!∉es.take i
  · rw [lm hb,lm hb]
  rw [ls hb,ls hb]
 have Uh: ∀i,i<aiN es->(¬jd f es[i]!->ft (rP c f es i)=aiP (.done (.done (.done (dI,6)))))/\(jd f es[i]!->ft (rP c f es i)=aiP (.next (rP c f es (i+1)))):=by
  intro i hi;have e1:aiZ ((i:Int)<((aiN es):Int))=aiS:=aJ (by omega);obtain ⟨p,e,a1,a2⟩:=z8 cj (es[i]!).1;obtain ⟨q,g,b1,b2⟩:=z8 cj (es[i]!).2;unfold ft rP jd;simp only [e1,kw,ar es i hi,aq,a1,b1,aY (show i<1000000000 by omega)]
  by_cases h1:gU f (es[i]!).1
  · rw [bo (a2.2 h1)]
    by_cases h2:gU f (es[i]!).2
    · rw [bo (b2.2 h2)]
      exact ⟨fun h=>absurd ⟨h1,h2⟩ h,fun _=>rfl⟩
    rw [dL (fun h=>h2 (b2.1 h))]
    exact ⟨fun _=>rfl,fun h=>absurd h.2 h2⟩
  rw [dL (fun h=>h1 (a2.1 h))]
  exact ⟨fun _=>rfl,fun h=>absurd h.1 h1⟩
 have start:qL c ⟨f⟩ es=aB eL (rP c f es 0):=by unfold qL;simp only [hc,aq,show ((0:Int) !=0)=aiY from rfl,lc,hf];rfl
 rw [start]
 by_cases h1: ∀x∈es,fN x
 case neg=>
  have er:mM f es=8:=by unfold mM;rw [lm h1]
  rw [er,ls (by omega)];have:=db (body:=eL) (fun i=>rP c f es i) (aiN es) (fun i=> ¬fN es[i]!) (r:=(dI,8)) (e:=r);have k3':=k3;rw [BV (P:=fN)] at h1;obtain ⟨i,h⟩:=ac5.1 h1;obtain ⟨hi,hx⟩:=acl.1 h;obtain ⟨m,m1,m2,m3⟩:=least (c:=fun i=> ¬fN es[i]!) ⟨i,hi,hx⟩;have go: ∀j,j<aiN es->(¬fN es[j]!->eL (rP c f es j)=aiP (.done (dI,8)))/\(fN es[j]!->eL (rP c f es j)=aiP (.next (rP c f es (j+1)))):=by
   intro j hj;have e1:aiZ ((j:Int)<((aiN es):Int))=aiS:=aJ (by omega);unfold eL rP fN;simp only [e1,kw,ar es j hj,aq,aY (show j<1000000000 by omega)];generalize es[j]! =x
   by_cases a1:x.1<0
   · rw [aJ a1];exact ⟨fun _=>rfl,fun h=>by omega⟩
   rw [aF a1]
   by_cases a2:x.2<0
   · rw [aJ a2];exact ⟨fun _=>rfl,fun h=>by omega⟩
   rw [aF a2]
   by_cases a3:65535<x.1
   · rw [aJ a3];exact ⟨fun _=>rfl,fun h=>by omega⟩
   rw [aF a3]
   by_cases a4:65535<x.2
   · rw [aJ a4];exact ⟨fun _=>rfl,fun h=>by omega⟩
   rw [aF a4]
   by_cases a5:x.1=x.2
   · rw [cV a5];exact ⟨fun _=>rfl,fun h=>absurd a5 h.2.2.2.2⟩
   rw [dM a5];exact ⟨fun h=>absurd ⟨by omega,by omega,by omega,by omega,a5⟩ h,fun _=>rfl⟩
  rw [dN (body:=eL) (fun i=>rP c f es i) m fun j hj=>(go j (by omega)).2 (ww.1 (m3 j hj))];exact aA ((go m m1).1 m2)
 have L2:=(BV (P:=fN)).1 h1
 by_cases h2:es.Nodup
 case neg=>
  have er:mM f es=14:=by unfold mM;rw [ls (ww.2 h1),lm h2]
  rw [er,ls (by omega)];have Qd:=h2;rw [Gr] at Qd;obtain ⟨i,h⟩:=ac5.1 Qd;obtain ⟨hi,hx⟩:=acl.1 h;obtain ⟨m,m1,m2,m3⟩:=least (c:=fun i=> ¬es[i]!∉es.take i) ⟨i,hi,hx⟩;have go: ∀j,j<aiN es->(es[j]!∈es.take j->eK (rP c f es j)=aiP (.done (.done (dI,14))))/\(es[j]!∉es.take j->eK (rP c f es j)=aiP (.next (rP c f es (j+1)))):=by
   intro j hj;have e1:aiZ ((j:Int)<((aiN es):Int))=aiS:=aJ (by omega);unfold eK rP;simp only [e1,kw,ar es j hj,lH es j (by omega),aq,iL _ _ (show (es.take j).length<=1000000 by rw [If];omega),aY (show j<1000000000 by omega)]
   by_cases h:es[j]!∈es.take j
   · rw [aJ h];exact ⟨fun _=>rfl,fun k=>absurd h k⟩
   rw [aF h];exact ⟨fun k=>absurd k h,fun _=>rfl⟩
  have l2:aB eK (rP c f es 0)=aiP (.done (dI,14)):=by rw [dN (body:=eK) (fun i=>rP c f es i) m fun j hj=>(go j (by omega)).2 (ww.1 (m3 j hj))];exact aA ((go m m1).1 (ww.1 m2))
  rw [k3 _ l2,lm L2]
 have Qd:=Gr.1 h2
 by_cases h3: ∀x∈es,jd f x
 case neg=>
  have er:mM f es=6:=by unfold mM;rw [ls (ww.2 h1),ls (ww.2 h2),lm h3]
  rw [er,ls (by omega)];have h3':=h3;rw [BV (P:=jd f)] at h3';obtain ⟨i,h⟩:=ac5.1 h3';obtain ⟨hi,hx⟩:=acl.1 h;obtain ⟨m,m1,m2,m3⟩:=least (c:=fun i=> ¬jd f es[i]!) ⟨i,hi,hx⟩;have l1:aB ft (rP c f es 0)=aiP (.done (.done (dI,6))):=by rw [dN (body:=ft) (fun i=>rP c f es i) m fun j hj=>(Uh j (by omega)).2 (ww.1 (m3 j hj))];exact aA ((Uh m m1).1 m2)
  rw [k3 _ (k2 _ l1),lm L2,lm Qd]
 have h3':=(BV (P:=jd f)).1 h3;have er:mM f es=0:=by unfold mM;rw [ls (ww.2 h1),ls (ww.2 h2),ls (ww.2 h3)]
 rw [er,lm rfl];have l1:aB ft (rP c f es 0)=aiP (.done (.done r)):=by rw [dN (body:=ft) (fun i=>rP c f es i) (aiN es) fun j hj=>(Uh j hj).2 (h3' j hj)];refine aA ?_;unfold ft rP;simp only [el,lc,tw,aq,hr er]
 rw [k3 _ (k2 _ l1),lm L2,lm Qd]
theorem sP {l:List Int} {x:Int} (hl:(aiN l)<=1000000) (hx:x∈l): ∃k,k<aiN l/\l[k]! =x/\eT l x=aiP (k:Int)/\uh l x=aiP (k:Int):=by
 obtain ⟨k,k1,k2,k3⟩:=least (c:=fun k=>l[k]! =x) (aO.1 hx);have p:=jE (body:=oE) (fun i=>(l,x,(i:Int))) (aiN l) (fun i=>l[i]! =x) (fun i=>(i:Int)) (e:= -1) (fun i hi=>by
  unfold oE;simp only [az,aJ (show (i:Int)<((aiN l):Int) by omega),kw,ar l i hi,aq,aY (show i<1000000000 by omega)];refine ⟨fun h=>?_,fun h=>?_⟩
  · rw [cV h];rfl
  · rw [dM h];rfl) (by
  unfold oE;simp only [az,aF (show¬((aiN l):Int)<((aiN l):Int) by omega),lc])
 exact ⟨k,k1,k2,(Gt l x hl).1 k k1 k2 k3,p.1 k k1 k2 k3⟩
theorem yU (l:List Int) (hl:(aiN l)<=1000):ui l=aiP (bU l):=by
 have n:ae .i64 (((aiN l):Int) - (if ((aiN l):Int)<1 then ((aiN l):Int) else 1))=((aiN l-1:Nat):Int):=by
  split
  · rw [fC ⟨by omega,by omega⟩];omega
  rw [fC ⟨by omega,by omega⟩];omega
 have key:=dN (body:=mh) (fun i=>(l,((aiN l-1:Nat):Int),(i:Int),rH l i)) (aiN l-1) (fun i hi=>by
  have e:ae .i64 (Int.tdiv (i:Int) 2)=((i / 2:Nat):Int):=by rw [acg (by omega),fC ⟨by omega,by omega⟩];omega
  unfold mh;simp only [aJ (show (i:Int)<((aiN l-1:Nat):Int) by omega),kw,aY (show i<1000000000 by omega),ar l (i+1) (by omega),e,ar l (i / 2) (by omega),aq];rw [cR (by rw [gf,ut];omega),aq,<- DG])
 unfold ui;simp only [az,n];rw [show aB mh (l,((aiN l-1:Nat):Int),0,[])=_ from key];refine aA ?_;unfold mh;simp only [aF (show¬((aiN l-1:Nat):Int)<((aiN l-1:Nat):Int) by omega),lc]
theorem AT {f:List Pt} (cj:bG f) {t:Int×Int} (r:bA t) (jl:jW t) {a b:Int} (ha:gU f a) (hb:gU f b) (dK:a≠b):dQ (aW f a) (aW f b) t=aiP (aiZ (leads (aW f a) (aW f b) t),0):=by
 obtain ⟨p1,p2⟩:=eu cj ha;obtain ⟨q1,q2⟩:=eu cj hb;have ne:(aW f a).1≠(aW f b).1:=by rw [p2,q2];exact dK
 rcases rG p1 q1 jl r with h|⟨h,_⟩
 · rw [h,ls ne]
 exact absurd h ne
def tS (k:bg) (f:List Pt) (m n0 i:Nat) (L:List Int):=
 ((i:Int),k.jp.ci.1,k.jp.ci.2,k.jp.ii.am,k.jp.ai.aK,k.jp.ai.ce,k.jp.aa.af.ay,k.jp.aa.af.be,k.jp.aa.af.bi,k.jp.aa.bv,k.jp.aa.aj,k.jp.io,k.bv,(0:Int),(0:Int),(0:Int),f,L,f,k.jp.ci.1,k.jp.ci.2,m,n0)
def tJ (k:bg) (f:List Pt) (m n0 i:Nat) (L:List Int) (p q:Pt):=
 ((i:Int),k.jp.ci.1,k.jp.ci.2,k.jp.ii.am,k.jp.ai.aK,k.jp.ai.ce,k.jp.aa.af.ay,k.jp.aa.af.be,k.jp.aa.af.bi,k.jp.aa.bv,k.jp.aa.aj,k.jp.io,k.bv,(0:Int),(0:Int),(0:Int),f,L,f,k.jp.ci.1,k.jp.ci.2,m,n0,p.1,p.2.1,p.2.2,q)
structure mR (k:bg) (f:List Pt):Prop where
 o8:aU k.jp
 cj:bG f
structure jo (f:List Pt) (m:Nat) (l:List Int):Prop where
 len:(aiN l)=m
 small:m<=100
 hp: ∀x∈l,gU f x
 nd:l.Nodup
theorem tk {l:List Int} {m:Nat} {x:Int} (h:(aiN l)=m):(l++[x]).take m=l:=by rw [<- h,List.take_left]
section
variable {k : bg} {f : List Pt} {m n0 : Nat} {x : Int}
theorem Pe (ok:mR k f) {c0:_} {c1:List Int} {l:List Int} (hl:jo f m l) {i b j:Nat} (hi:i<m) (hb:b<m) (hj:j<m) (h2:j<=2*i+2) (dK:j≠b):
 jP c0 c1 ((i:Int),(b:Int),(j:Int),(tS k f m n0 i (l++[x])).2)=aiP (.next ((i:Int),((if leads (aW f l[j]!) (aW f l[b]!) k.jp.ci then j else b:Nat):Int),((j+1:Nat):Int),(tS k f m n0 i (l++[x])).2)):=by
 have hm:=hl.len;have m1:=hl.small;have e:ae .i64 (ae .i64 (2*(i:Int))+2)=((2*i+2:Nat):Int):=by rw [show ae .i64 (2*(i:Int))=2*(i:Int) from fC ⟨by omega,by omega⟩,fC ⟨by omega,by omega⟩];omega
 have pj:=hl.hp _ (aL (show j<(aiN l) by omega));have pb:=hl.hp _ (aL (show b<(aiN l) by omega));have ne:l[j]!≠l[b]!:=fun h=>by
  rcases rc j b with q|q|q
  · exact bq.1 hl.nd _ _ q (by omega) h
  · exact dK q
  exact bq.1 hl.nd _ _ q (by omega) h.symm
 have a:=AT ok.cj (t:=(k.jp.ci.1,k.jp.ci.2)) ok.o8.jk ok.o8.fT pj pb ne;unfold jP tS;simp only [az,e,aJ (show (j:Int)<=((2*i+2:Nat):Int) by omega),aJ (show (j:Int)<(m:Int) by omega),kw,tk hm,ar l j (by omega),ar l b (by omega),aq,bO ok.cj pj,bO ok.cj pb,a,beq_self_eq_true,aY (show j<1000000000 by omega)]
 by_cases c:leads (aW f l[j]!) (aW f l[b]!) k.jp.ci
 · rw [show aiZ (leads (aW f l[j]!) (aW f l[b]!) (k.jp.ci.1,k.jp.ci.2))=aiS from aJ c,lm c];rfl
 rw [show aiZ (leads (aW f l[j]!) (aW f l[b]!) (k.jp.ci.1,k.jp.ci.2))=aiY from aF c,ls c];rfl
theorem aiU {c1:List Int} (hc:(aiN c1)=m+1) {L0:List Int} (h0:(aiN L0)=m+1) {n1 i0:Nat} {l:List Int} (hl:jo f m l) {i b j:Nat} (hi:i<m) (hb:b<m) (he: ¬(j<=2*i+2/\j<m)):
 jP (tS k f m n1 i0 L0) c1 ((i:Int),(b:Int),(j:Int),(tS k f m n0 i (l++[x])).2)=if b=i then (bm k.jp ⟨f⟩ l).bind fun a=>aiP (.done (.done (.done a))) else aiP (.done (.next (tS k f m n0 b (cq l i b++[x])))):=by
 have hm:=hl.len;have m1:=hl.small;have e:ae .i64 (ae .i64 (2*(i:Int))+2)=((2*i+2:Nat):Int):=by rw [show ae .i64 (2*(i:Int))=2*(i:Int) from fC ⟨by omega,by omega⟩,fC ⟨by omega,by omega⟩];omega
 have ec:(ae .i64 (((aiN c1):Int) -1)).toNat=m:=by rw [fC ⟨by omega,by omega⟩];omega
 have lx:(l++[x]).length=(aiN L0):=by rw [AC,ut];omega
 have sa:(l++[x]).set i l[b]! =l.set i l[b]!++[x]:=PP _ _ (by omega);have sb:(l.set i l[b]!++[x]).set b l[i]! =cq l i b++[x]:=PP _ _ (by rw [lw];omega);have t1:(l.set i l[b]!++[x]).take m=l.set i l[b]!:=tk (by rw [lw];exact hm);have g1:=ar (l.set i l[b]!) b (by rw [lw];omega);have je:(aH.mk (k.jp.ci.1,k.jp.ci.2) (Field.mk k.jp.ii.am) (bj.mk k.jp.ai.aK k.jp.ai.ce) (aI.mk (aQ.mk k.jp.aa.af.ay k.jp.aa.af.be k.jp.aa.af.bi) k.jp.aa.bv k.jp.aa.aj) k.jp.io)=k.jp:=rfl;unfold jP tS
 by_cases h1:j<=2*i+2
 · have h2: ¬j<m:=fun h=>he ⟨h1,h⟩
   simp only [az,e,aJ (show (j:Int)<=((2*i+2:Nat):Int) by omega),aF (show¬(j:Int)<(m:Int) by omega),kw,lc,tk hm,ar l i (by omega),ar l b (by omega),aq,de,sa,sb,t1,g1,lx,beq_self_eq_true,ec,je]
   by_cases tI:b=i
   · rw [lm tI,cV (by omega),kw]
   rw [ls tI,dM (by omega),lc]
 simp only [az,e,aF (show¬(j:Int)<=((2*i+2:Nat):Int) by omega),kw,lc,tk hm,ar l i (by omega),ar l b (by omega),aq,de,sa,sb,t1,g1,lx,beq_self_eq_true,ec,je]
 by_cases tI:b=i
 · rw [lm tI,cV (by omega),kw]
 rw [ls tI,dM (by omega),lc]
theorem amZ (ok:mR k f) {c1:List Int} (hc:(aiN c1)=m+1) {L0:List Int} (h0:(aiN L0)=m+1) {n1 i0:Nat} {l:List Int} (hl:jo f m l) {i:Nat} (hi:i<m) {R:List Int->bg×Int} (hR:bm k.jp ⟨f⟩ l=aiP (R l)):
 aB (jP (tS k f m n1 i0 L0) c1) ((i:Int),(i:Int),((2*i+1:Nat):Int),(tS k f m n0 i (l++[x])).2)=aiP (if cz f k.jp.ci l i=i then .done (.done (R l)) else .next (tS k f m n0 (cz f k.jp.ci l i) (cq l i (cz f k.jp.ci l i)++[x]))):=by
 have hm:=hl.len;have fin: ∀b j:Nat,b<m-> ¬(j<=2*i+2/\j<m)->cz f k.jp.ci l i=b->aB (jP (tS k f m n1 i0 L0) c1) ((i:Int),(b:Int),(j:Int),(tS k f m n0 i (l++[x])).2)=aiP (if cz f k.jp.ci l i=i then .done (.done (R l)) else .next (tS k f m n0 (cz f k.jp.ci l i) (cq l i (cz f k.jp.ci l i)++[x]))):=by
  intro b j hb he hk;rw [hk];have:=aiU (k:=k) (n0:=n0) (x:=x) hc h0 (n1:=n1) (i0:=i0) hl hi hb he
  by_cases tI:b=i
  · rw [lm tI,hR,aq] at this
    rw [lm tI];exact aA this
  rw [ls tI] at this
  rw [ls tI];exact aA this
 have kA:ir f k.jp.ci l i<m:=by rcases jg f k.jp.ci l i with h|⟨h,h2⟩<;>omega
 by_cases h1:2*i+1<m
 case neg=>
  have e1:ir f k.jp.ci l i=i:=by unfold ir;rw [ls (fun h=>h1 (by omega))]
  have e2:cz f k.jp.ci l i=i:=by unfold cz;rw [ls (fun h=>h1 (by omega)),e1]
  exact fin i (2*i+1) hi (fun h=>h1 h.2) e2
 rw [aM (Pe ok hl hi hi h1 (by omega) (by omega))];have eA:(if leads (aW f l[2*i+1]!) (aW f l[i]!) k.jp.ci then 2*i+1 else i)=ir f k.jp.ci l i:=by
  unfold ir
  by_cases c:leads (aW f l[2*i+1]!) (aW f l[i]!) k.jp.ci
  · rw [lm c,lm ⟨by omega,c⟩]
  rw [ls c,ls (fun h=>c h.2)]
 rw [eA]
 by_cases h2:2*i+1+1<m
 case neg=>
  have e2:cz f k.jp.ci l i=ir f k.jp.ci l i:=by unfold cz;rw [ls (fun h=>h2 (by omega))]
  exact fin _ (2*i+1+1) kA (fun h=>h2 h.2) e2
 have nk:2*i+1+1≠ir f k.jp.ci l i:=by rcases jg f k.jp.ci l i with h|⟨h,_⟩<;>omega
 rw [aM (Pe ok hl hi kA h2 (by omega) nk)];have eG:(if leads (aW f l[2*i+1+1]!) (aW f l[ir f k.jp.ci l i]!) k.jp.ci then 2*i+1+1 else ir f k.jp.ci l i)=cz f k.jp.ci l i:=by
  unfold cz
  by_cases c:leads (aW f l[2*i+1+1]!) (aW f l[ir f k.jp.ci l i]!) k.jp.ci
  · rw [lm c,lm ⟨by omega,c⟩]
  rw [ls c,ls (fun h=>c h.2)]
 rw [eG];exact fin _ (2*i+1+1+1) (by rw [<- eG];split<;>omega) (fun h=>by omega) rfl
theorem Pf (ok:mR k f) {c0:_} {c1:List Int} {l:List Int} (hl:jo f m l) {i b j:Nat} (hi:i<m) (hb:b<m) (hj:j<m) (h2:j<=2*i+2) (dK:j≠b) {p q:Pt}:
 jO c0 c1 ((i:Int),(b:Int),(j:Int),(tJ k f m n0 i (l++[x]) p q).2)=aiP (.next ((i:Int),((if leads (aW f l[j]!) (aW f l[b]!) k.jp.ci then j else b:Nat):Int),((j+1:Nat):Int),(tJ k f m n0 i (l++[x]) p q).2)):=by
 have hm:=hl.len;have m1:=hl.small;have e:ae .i64 (ae .i64 (2*(i:Int))+2)=((2*i+2:Nat):Int):=by rw [show ae .i64 (2*(i:Int))=2*(i:Int) from fC ⟨by omega,by omega⟩,fC ⟨by omega,by omega⟩];omega
 have pj:=hl.hp _ (aL (show j<(aiN l) by omega));have pb:=hl.hp _ (aL (show b<(aiN l) by omega));have ne:l[j]!≠l[b]!:=fun h=>by
  rcases rc j b with q|q|q
  · exact bq.1 hl.nd _ _ q (by omega) h
  · exact dK q
  exact bq.1 hl.nd _ _ q (by omega) h.symm
 have a:=AT ok.cj (t:=(k.jp.ci.1,k.jp.ci.2)) ok.o8.jk ok.o8.fT pj pb ne;unfold jO tJ;simp only [az,e,aJ (show (j:Int)<=((2*i+2:Nat):Int) by omega),aJ (show (j:Int)<(m:Int) by omega),kw,tk hm,ar l j (by omega),ar l b (by omega),aq,bO ok.cj pj,bO ok.cj pb,a,beq_self_eq_true,aY (show j<1000000000 by omega)]
 by_cases c:leads (aW f l[j]!) (aW f l[b]!) k.jp.ci
 · rw [show aiZ (leads (aW f l[j]!) (aW f l[b]!) (k.jp.ci.1,k.jp.ci.2))=aiS from aJ c,lm c];rfl
 rw [show aiZ (leads (aW f l[j]!) (aW f l[b]!) (k.jp.ci.1,k.jp.ci.2))=aiY from aF c,ls c];rfl
theorem aiV {c1:List Int} (hc:(aiN c1)=m+1) {L0:List Int} (h0:(aiN L0)=m+1) {n1 i0:Nat} {l:List Int} (hl:jo f m l) {i b j:Nat} (hi:i<m) (hb:b<m) (he: ¬(j<=2*i+2/\j<m)) {p q:Pt}:
 jO (tS k f m n1 i0 L0) c1 ((i:Int),(b:Int),(j:Int),(tJ k f m n0 i (l++[x]) p q).2)=if b=i then (bm k.jp ⟨f⟩ l).bind fun a=>aiP (.done (.done (.done a))) else aiP (.done (.next (tJ k f m n0 b (cq l i b++[x]) p q))):=by
 have hm:=hl.len;have m1:=hl.small;have e:ae .i64 (ae .i64 (2*(i:Int))+2)=((2*i+2:Nat):Int):=by rw [show ae .i64 (2*(i:Int))=2*(i:Int) from fC ⟨by omega,by omega⟩,fC ⟨by omega,by omega⟩];omega
 have ec:(ae .i64 (((aiN c1):Int) -1)).toNat=m:=by rw [fC ⟨by omega,by omega⟩];omega
 have lx:(l++[x]).length=(aiN L0):=by rw [AC,ut];omega
 have sa:(l++[x]).set i l[b]! =l.set i l[b]!++[x]:=PP _ _ (by omega);have sb:(l.set i l[b]!++[x]).set b l[i]! =cq l i b++[x]:=PP _ _ (by rw [lw];omega);have t1:(l.set i l[b]!++[x]).take m=l.set i l[b]!:=tk (by rw [lw];exact hm);have g1:=ar (l.set i l[b]!) b (by rw [lw];omega);have je:(aH.mk (k.jp.ci.1,k.jp.ci.2) (Field.mk k.jp.ii.am) (bj.mk k.jp.ai.aK k.jp.ai.ce) (aI.mk (aQ.mk k.jp.aa.af.ay k.jp.aa.af.be k.jp.aa.af.bi) k.jp.aa.bv k.jp.aa.aj) k.jp.io)=k.jp:=rfl;unfold jO tS tJ
 by_cases h1:j<=2*i+2
 · have h2: ¬j<m:=fun h=>he ⟨h1,h⟩
   simp only [az,e,aJ (show (j:Int)<=((2*i+2:Nat):Int) by omega),aF (show¬(j:Int)<(m:Int) by omega),kw,lc,tk hm,ar l i (by omega),ar l b (by omega),aq,de,sa,sb,t1,g1,lx,beq_self_eq_true,ec,je]
   by_cases tI:b=i
   · rw [lm tI,cV (by omega),kw]
   rw [ls tI,dM (by omega),lc]
 simp only [az,e,aF (show¬(j:Int)<=((2*i+2:Nat):Int) by omega),kw,lc,tk hm,ar l i (by omega),ar l b (by omega),aq,de,sa,sb,t1,g1,lx,beq_self_eq_true,ec,je]
 by_cases tI:b=i
 · rw [lm tI,cV (by omega),kw]
 rw [ls tI,dM (by omega),lc]
theorem am0 (ok:mR k f) {c1:List Int} (hc:(aiN c1)=m+1) {L0:List Int} (h0:(aiN L0)=m+1) {n1 i0:Nat} {l:List Int} (hl:jo f m l) {i:Nat} (hi:i<m) {p q:Pt} {R:List Int->bg×Int} (hR:bm k.jp ⟨f⟩ l=aiP (R l)):
 aB (jO (tS k f m n1 i0 L0) c1) ((i:Int),(i:Int),((2*i+1:Nat):Int),(tJ k f m n0 i (l++[x]) p q).2)=aiP (if cz f k.jp.ci l i=i then .done (.done (R l)) else .next (tJ k f m n0 (cz f k.jp.ci l i) (cq l i (cz f k.jp.ci l i)++[x]) p q)):=by
 have hm:=hl.len;have fin: ∀b j:Nat,b<m-> ¬(j<=2*i+2/\j<m)->cz f k.jp.ci l i=b->aB (jO (tS k f m n1 i0 L0) c1) ((i:Int),(b:Int),(j:Int),(tJ k f m n0 i (l++[x]) p q).2)=aiP (if cz f k.jp.ci l i=i then .done (.done (R l)) else .next (tJ k f m n0 (cz f k.jp.ci l i) (cq l i (cz f k.jp.ci l i)++[x]) p q)):=by
  intro b j hb he hk;rw [hk];have:=aiV (k:=k) (n0:=n0) (x:=x) hc h0 (n1:=n1) (i0:=i0) hl hi hb he (p:=p) (q:=q)
  by_cases tI:b=i
  · rw [lm tI,hR,aq] at this
    rw [lm tI];exact aA this
  rw [ls tI] at this
  rw [ls tI];exact aA this
 have kA:ir f k.jp.ci l i<m:=by rcases jg f k.jp.ci l i with h|⟨h,h2⟩<;>omega
 by_cases h1:2*i+1<m
 case neg=>
  have e1:ir f k.jp.ci l i=i:=by unfold ir;rw [ls (fun h=>h1 (by omega))]
  have e2:cz f k.jp.ci l i=i:=by unfold cz;rw [ls (fun h=>h1 (by omega)),e1]
  exact fin i (2*i+1) hi (fun h=>h1 h.2) e2
 rw [aM (Pf ok hl hi hi h1 (by omega) (by omega) (p:=p) (q:=q))];have eA:(if leads (aW f l[2*i+1]!) (aW f l[i]!) k.jp.ci then 2*i+1 else i)=ir f k.jp.ci l i:=by
  unfold ir
  by_cases c:leads (aW f l[2*i+1]!) (aW f l[i]!) k.jp.ci
  · rw [lm c,lm ⟨by omega,c⟩]
  rw [ls c,ls (fun h=>c h.2)]
 rw [eA]
 by_cases h2:2*i+1+1<m
 case neg=>
  have e2:cz f k.jp.ci l i=ir f k.jp.ci l i:=by unfold cz;rw [ls (fun h=>h2 (by omega))]
  exact fin _ (2*i+1+1) kA (fun h=>h2 h.2) e2
 have nk:2*i+1+1≠ir f k.jp.ci l i:=by rcases jg f k.jp.ci l i with h|⟨h,_⟩<;>omega
 rw [aM (Pf ok hl hi kA h2 (by omega) nk (p:=p) (q:=q))];have eG:(if leads (aW f l[2*i+1+1]!) (aW f l[ir f k.jp.ci l i]!) k.jp.ci then 2*i+1+1 else ir f k.jp.ci l i)=cz f k.jp.ci l i:=by
  unfold cz
  by_cases c:leads (aW f l[2*i+1+1]!) (aW f l[ir f k.jp.ci l i]!) k.jp.ci
  · rw [lm c,lm ⟨by omega,c⟩]
  rw [ls c,ls (fun h=>c h.2)]
 rw [eG];exact fin _ (2*i+1+1+1) (by rw [<- eG];split<;>omega) (fun h=>by omega) rfl
theorem am1 (ok:mR k f) {c1:List Int} (hc:(aiN c1)=m+1) {L0:List Int} (h0:(aiN L0)=m+1) {n1 i0:Nat} {R:List Int->bg×Int} {l0:List Int} (hR: ∀l:List Int,l.Perm l0->bm k.jp ⟨f⟩ l=aiP (R l)):
 ∀(d:Nat) (l:List Int) (i:Nat),m-i<=d->i<m->jo f m l->l.Perm l0->aB (qi (tS k f m n1 i0 L0) c1) (tS k f m n0 i (l++[x]))=aiP (.done (R (rM f k.jp.ci l i))):=by
 intro d
 induction d with
 |zero=>intro l i h hi;omega
 |succ d ih=>
  intro l i h hi hl pm;have hm:=hl.len;have m1:=hl.small;have e:ae .i64 (ae .i64 (2*(i:Int))+1)=((2*i+1:Nat):Int):=by rw [show ae .i64 (2*(i:Int))=2*(i:Int) from fC ⟨by omega,by omega⟩,fC ⟨by omega,by omega⟩];omega
  have g:=amZ (k:=k) (n0:=n0) (x:=x) ok hc h0 (n1:=n1) (i0:=i0) hl hi (hR l pm);have st:qi (tS k f m n1 i0 L0) c1 (tS k f m n0 i (l++[x]))=aiP (if cz f k.jp.ci l i=i then .done (.done (R l)) else .next (tS k f m n0 (cz f k.jp.ci l i) (cq l i (cz f k.jp.ci l i)++[x]))):=by unfold qi;rw [show (tS k f m n0 i (l++[x])).1=(i:Int) from rfl,e];exact g
  by_cases hk:cz f k.jp.ci l i=i
  · rw [lm hk] at st
    rw [nC hk];exact aA st
  rw [ls hk] at st
  have kc:=mz f k.jp.ci l i;have sp:=fo (l:=l) (i:=i) (j:=cz f k.jp.ci l i) (by omega) (by omega);rw [aM st,vX hk];exact ih _ _ (by omega) (by omega) ⟨by rw [eD];exact hm,hl.small,fun y hy=>hl.hp y (sp.mem_iff.1 hy),sp.nodup_iff.2 hl.nd⟩ (sp.trans pm)
theorem am2 (ok:mR k f) {c1:List Int} (hc:(aiN c1)=m+1) {L0:List Int} (h0:(aiN L0)=m+1) {n1 i0:Nat} {p q:Pt} {R:List Int->bg×Int} {l0:List Int} (hR: ∀l:List Int,l.Perm l0->bm k.jp ⟨f⟩ l=aiP (R l)):
 ∀(d:Nat) (l:List Int) (i:Nat),m-i<=d->i<m->jo f m l->l.Perm l0->aB (qh (tS k f m n1 i0 L0) c1) (tJ k f m n0 i (l++[x]) p q)=aiP (.done (R (rM f k.jp.ci l i))):=by
 intro d
 induction d with
 |zero=>intro l i h hi;omega
 |succ d ih=>
  intro l i h hi hl pm;have hm:=hl.len;have m1:=hl.small;have e:ae .i64 (ae .i64 (2*(i:Int))+1)=((2*i+1:Nat):Int):=by rw [show ae .i64 (2*(i:Int))=2*(i:Int) from fC ⟨by omega,by omega⟩,fC ⟨by omega,by omega⟩];omega
  have g:=am0 (k:=k) (n0:=n0) (x:=x) ok hc h0 (n1:=n1) (i0:=i0) hl hi (p:=p) (q:=q) (hR l pm);have st:qh (tS k f m n1 i0 L0) c1 (tJ k f m n0 i (l++[x]) p q)=aiP (if cz f k.jp.ci l i=i then .done (.done (R l)) else .next (tJ k f m n0 (cz f k.jp.ci l i) (cq l i (cz f k.jp.ci l i)++[x]) p q)):=by unfold qh;rw [show (tJ k f m n0 i (l++[x]) p q).1=(i:Int) from rfl,e];exact g
  by_cases hk:cz f k.jp.ci l i=i
  · rw [lm hk] at st
    rw [nC hk];exact aA st
  rw [ls hk] at st
  have kc:=mz f k.jp.ci l i;have sp:=fo (l:=l) (i:=i) (j:=cz f k.jp.ci l i) (by omega) (by omega);rw [aM st,vX hk];exact ih _ _ (by omega) (by omega) ⟨by rw [eD];exact hm,hl.small,fun y hy=>hl.hp y (sp.mem_iff.1 hy),sp.nodup_iff.2 hl.nd⟩ (sp.trans pm)
theorem am3 (ok:mR k f) {c0:List Int} (hc:(aiN c0)=m+1) {c1:Nat} {c2:Int} {R:List Int->bg×Int} {l0:List Int} (hR: ∀l:List Int,l.Perm l0->bm k.jp ⟨f⟩ l=aiP (R l)):
 ∀(i:Nat) (l:List Int),i<m->jo f m l->l.Perm l0->aB (mW c0 (c1:Int) c2) (tS k f m n0 i (l++[x]))=aiP (R (rM f k.jp.ci (jf f k.jp.ci i l) (qX f k.jp.ci i l))):=by
 intro i
 induction i using NE with
 |ind i ih=>
  intro l hi hl pm;have hm:=hl.len;have m1:=hl.small;have lx:(l++[x]).length=m+1:=by rw [AC,ut];omega
  have sl:(bz c0 (c1:Int) c2).length=m+1:=by rw [de,lw];exact hc
  cases i with
  |zero=>have g:=am1 (n0:=n0) (x:=x) ok hc lx (n1:=n0) (i0:=0) hR m l 0 (by omega) hi hl pm;unfold jf qX;refine aA ?_;unfold mW;rw [show (tS k f m n0 0 (l++[x])).1=0 from rfl,aF (by omega),lc];rw [show (tS k f m n0 0 (l++[x])).2.2.2.2.2.2.2.2.2.2.2.2.2.2.2.2.2.1=l++[x] from rfl,lx,sl,beq_self_eq_true,kw];exact g
  |succ i=>
   have hu:=Ec (i:=i+1) (by omega) (by omega);rw [show (i+1-1) / 2=i / 2 from rfl] at hu;have pi:=hl.hp _ (aL (show i+1<(aiN l) by omega));have pj:=hl.hp _ (aL (show i / 2<(aiN l) by omega));have ne:l[i+1]!≠l[i / 2]!:=fun h=>bq.1 hl.nd (i / 2) (i+1) (by omega) (by omega) h.symm
   have a:=AT ok.cj (t:=(k.jp.ci.1,k.jp.ci.2)) ok.o8.jk ok.o8.fT pi pj ne;have g1:=ar l (i+1) (by omega);have g2:=ar l (i / 2) (by omega);have sa:(l++[x]).set (i+1) l[i / 2]! =l.set (i+1) l[i / 2]!++[x]:=PP _ _ (by omega);have sb:(l.set (i+1) l[i / 2]!++[x]).set (i / 2) l[i+1]! =cq l (i+1) (i / 2)++[x]:=PP _ _ (by rw [lw];omega);have t1:(l.set (i+1) l[i / 2]!++[x]).take m=l.set (i+1) l[i / 2]!:=tk (by rw [lw];exact hm);have g3:=ar (l.set (i+1) l[i / 2]!) (i / 2) (by rw [lw];omega);unfold jf qX
   by_cases c:leads (aW f l[i+1]!) (aW f l[i / 2]!) k.jp.ci
   · rw [lm c,lm c]
     rw [show aiZ (leads (aW f l[i+1]!) (aW f l[i / 2]!) (k.jp.ci.1,k.jp.ci.2))=aiS from aJ c] at a;have sp:=fo (l:=l) (i:=i+1) (j:=i / 2) (by omega) (by omega);rw [aM (y:=tS k f m n0 (i / 2) (cq l (i+1) (i / 2)++[x])) (by unfold mW tS;simp only [aJ (show (0:Int)<((i+1:Nat):Int) by omega),kw,tk hm,g1,g2,aq,hu,bO ok.cj pi,bO ok.cj pj,a,beq_self_eq_true,de,sa,sb,t1,g3])];exact ih (i / 2) (by omega) _ (by omega) ⟨by rw [eD];exact hm,hl.small,fun y hy=>hl.hp y (sp.mem_iff.1 hy),sp.nodup_iff.2 hl.nd⟩ (sp.trans pm)
   rw [ls c,ls c]
   rw [show aiZ (leads (aW f l[i+1]!) (aW f l[i / 2]!) (k.jp.ci.1,k.jp.ci.2))=aiY from aF c] at a;have g:=am2 (n0:=n0) (x:=x) ok hc lx (n1:=n0) (i0:=i+1) (p:=aW f l[i+1]!) (q:=aW f l[i / 2]!) hR m l (i+1) (by omega) hi hl pm;refine aA ?_;unfold mW
   conv=>lhs;unfold tS
   simp only [aJ (show (0:Int)<((i+1:Nat):Int) by omega),kw,tk hm,g1,g2,aq,hu,bO ok.cj pi,bO ok.cj pj,a,beq_self_eq_true,lc,lx,sl];exact g
end
def uS (k:bg) (P:Pt) (f:List Pt) (i:Nat) (L:List Int):=
 ((i:Int),k.jp.ci.1,k.jp.ci.2,k.jp.ii.am,k.jp.ai.aK,k.jp.ai.ce,k.jp.aa.af.ay,k.jp.aa.af.be,k.jp.aa.af.bi,k.jp.aa.bv,k.jp.aa.aj,k.jp.io,k.bv,P.1,P.2.1,P.2.2,(0:Int),(0:Int),(0:Int),f,L,f,k.jp.ci.1,k.jp.ci.2)
def uJ (k:bg) (P:Pt) (f:List Pt) (i:Nat) (L:List Int) (p q:Pt):=
 ((i:Int),k.jp.ci.1,k.jp.ci.2,k.jp.ii.am,k.jp.ai.aK,k.jp.ai.ce,k.jp.aa.af.ay,k.jp.aa.af.be,k.jp.aa.af.bi,k.jp.aa.bv,k.jp.aa.aj,k.jp.io,k.bv,P.1,P.2.1,P.2.2,(0:Int),(0:Int),(0:Int),f,L,f,k.jp.ci.1,k.jp.ci.2,p.1,p.2.1,p.2.2,q)
section
variable {k : bg} {P : Pt} {f : List Pt} {m : Nat}
theorem Pg (ok:mR k f) {c0:_} {l:List Int} (hl:jo f m l) {i b j:Nat} (hi:i<m) (hb:b<m) (hj:j<m) (h2:j<=2*i+2) (dK:j≠b):
 ib c0 ((i:Int),(b:Int),(j:Int),(uS k P f i l).2)=aiP (.next ((i:Int),((if leads (aW f l[j]!) (aW f l[b]!) k.jp.ci then j else b:Nat):Int),((j+1:Nat):Int),(uS k P f i l).2)):=by
 have hm:=hl.len;have m1:=hl.small;have e:ae .i64 (ae .i64 (2*(i:Int))+2)=((2*i+2:Nat):Int):=by rw [show ae .i64 (2*(i:Int))=2*(i:Int) from fC ⟨by omega,by omega⟩,fC ⟨by omega,by omega⟩];omega
 have pj:=hl.hp _ (aL (show j<(aiN l) by omega));have pb:=hl.hp _ (aL (show b<(aiN l) by omega));have ne:l[j]!≠l[b]!:=fun h=>by
  rcases rc j b with q|q|q
  · exact bq.1 hl.nd _ _ q (by omega) h
  · exact dK q
  exact bq.1 hl.nd _ _ q (by omega) h.symm
 have a:=AT ok.cj (t:=(k.jp.ci.1,k.jp.ci.2)) ok.o8.jk ok.o8.fT pj pb ne;unfold ib uS;simp only [az,e,aJ (show (j:Int)<=((2*i+2:Nat):Int) by omega),aJ (show (j:Int)<((aiN l):Int) by omega),kw,ar l j (by omega),ar l b (by omega),aq,bO ok.cj pj,bO ok.cj pb,a,beq_self_eq_true,aY (show j<1000000000 by omega)]
 by_cases c:leads (aW f l[j]!) (aW f l[b]!) k.jp.ci
 · rw [show aiZ (leads (aW f l[j]!) (aW f l[b]!) (k.jp.ci.1,k.jp.ci.2))=aiS from aJ c,lm c];rfl
 rw [show aiZ (leads (aW f l[j]!) (aW f l[b]!) (k.jp.ci.1,k.jp.ci.2))=aiY from aF c,ls c];rfl
theorem aiW {L0:List Int} (h0:(aiN L0)=m) {i0:Nat} {l:List Int} (hl:jo f m l) {i b j:Nat} (hi:i<m) (hb:b<m) (he: ¬(j<=2*i+2/\j<m)):
 ib (uS k P f i0 L0) ((i:Int),(b:Int),(j:Int),(uS k P f i l).2)=if b=i then (bm k.jp ⟨f⟩ l).bind fun a=>aiP (.done (.done (.done a))) else aiP (.done (.next (uS k P f b (cq l i b)))):=by
 have hm:=hl.len;have m1:=hl.small;have e:ae .i64 (ae .i64 (2*(i:Int))+2)=((2*i+2:Nat):Int):=by rw [show ae .i64 (2*(i:Int))=2*(i:Int) from fC ⟨by omega,by omega⟩,fC ⟨by omega,by omega⟩];omega
 have lx:(aiN l)=(aiN L0):=by omega
 have g1:=ar (l.set i l[b]!) b (by rw [lw];omega);have je:(aH.mk (k.jp.ci.1,k.jp.ci.2) (Field.mk k.jp.ii.am) (bj.mk k.jp.ai.aK k.jp.ai.ce) (aI.mk (aQ.mk k.jp.aa.af.ay k.jp.aa.af.be k.jp.aa.af.bi) k.jp.aa.bv k.jp.aa.aj) k.jp.io)=k.jp:=rfl;unfold ib uS
 by_cases h1:j<=2*i+2
 · have h2: ¬j<m:=fun h=>he ⟨h1,h⟩
   simp only [az,e,aJ (show (j:Int)<=((2*i+2:Nat):Int) by omega),aF (show¬(j:Int)<((aiN L0):Int) by omega),kw,lc,ar l i (by omega),ar l b (by omega),aq,de,g1,lx,beq_self_eq_true,je]
   by_cases tI:b=i
   · rw [lm tI,cV (by omega),kw]
   rw [ls tI,dM (by omega),lc];rfl
 simp only [az,e,aF (show¬(j:Int)<=((2*i+2:Nat):Int) by omega),kw,lc,ar l i (by omega),ar l b (by omega),aq,de,g1,lx,beq_self_eq_true,je]
 by_cases tI:b=i
 · rw [lm tI,cV (by omega),kw]
 rw [ls tI,dM (by omega),lc];rfl
theorem am4 (ok:mR k f) {L0:List Int} (h0:(aiN L0)=m) {i0:Nat} {l:List Int} (hl:jo f m l) {i:Nat} (hi:i<m) {R:List Int->bg×Int} (hR:bm k.jp ⟨f⟩ l=aiP (R l)):
 aB (ib (uS k P f i0 L0)) ((i:Int),(i:Int),((2*i+1:Nat):Int),(uS k P f i l).2)=aiP (if cz f k.jp.ci l i=i then .done (.done (R l)) else .next (uS k P f (cz f k.jp.ci l i) (cq l i (cz f k.jp.ci l i)))):=by
 have hm:=hl.len;have fin: ∀b j:Nat,b<m-> ¬(j<=2*i+2/\j<m)->cz f k.jp.ci l i=b->aB (ib (uS k P f i0 L0)) ((i:Int),(b:Int),(j:Int),(uS k P f i l).2)=aiP (if cz f k.jp.ci l i=i then .done (.done (R l)) else .next (uS k P f (cz f k.jp.ci l i) (cq l i (cz f k.jp.ci l i)))):=by
  intro b j hb he hk;rw [hk];have:=aiW (k:=k) (P:=P) h0 (i0:=i0) hl hi hb he
  by_cases tI:b=i
  · rw [lm tI,hR,aq] at this
    rw [lm tI];exact aA this
  rw [ls tI] at this
  rw [ls tI];exact aA this
 have kA:ir f k.jp.ci l i<m:=by rcases jg f k.jp.ci l i with h|⟨h,h2⟩<;>omega
 by_cases h1:2*i+1<m
 case neg=>
  have e1:ir f k.jp.ci l i=i:=by unfold ir;rw [ls (fun h=>h1 (by omega))]
  have e2:cz f k.jp.ci l i=i:=by unfold cz;rw [ls (fun h=>h1 (by omega)),e1]
  exact fin i (2*i+1) hi (fun h=>h1 h.2) e2
 rw [aM (Pg ok hl hi hi h1 (by omega) (by omega))];have eA:(if leads (aW f l[2*i+1]!) (aW f l[i]!) k.jp.ci then 2*i+1 else i)=ir f k.jp.ci l i:=by
  unfold ir
  by_cases c:leads (aW f l[2*i+1]!) (aW f l[i]!) k.jp.ci
  · rw [lm c,lm ⟨by omega,c⟩]
  rw [ls c,ls (fun h=>c h.2)]
 rw [eA]
 by_cases h2:2*i+1+1<m
 case neg=>
  have e2:cz f k.jp.ci l i=ir f k.jp.ci l i:=by unfold cz;rw [ls (fun h=>h2 (by omega))]
  exact fin _ (2*i+1+1) kA (fun h=>h2 h.2) e2
 have nk:2*i+1+1≠ir f k.jp.ci l i:=by rcases jg f k.jp.ci l i with h|⟨h,_⟩<;>omega
 rw [aM (Pg ok hl hi kA h2 (by omega) nk)];have eG:(if leads (aW f l[2*i+1+1]!) (aW f l[ir f k.jp.ci l i]!) k.jp.ci then 2*i+1+1 else ir f k.jp.ci l i)=cz f k.jp.ci l i:=by
  unfold cz
  by_cases c:leads (aW f l[2*i+1+1]!) (aW f l[ir f k.jp.ci l i]!) k.jp.ci
  · rw [lm c,lm ⟨by omega,c⟩]
  rw [ls c,ls (fun h=>c h.2)]
 rw [eG];exact fin _ (2*i+1+1+1) (by rw [<- eG];split<;>omega) (fun h=>by omega) rfl
theorem Ph (ok:mR k f) {c0:_} {l:List Int} (hl:jo f m l) {i b j:Nat} (hi:i<m) (hb:b<m) (hj:j<m) (h2:j<=2*i+2) (dK:j≠b) {p q:Pt}:
 ia c0 ((i:Int),(b:Int),(j:Int),(uJ k P f i l p q).2)=aiP (.next ((i:Int),((if leads (aW f l[j]!) (aW f l[b]!) k.jp.ci then j else b:Nat):Int),((j+1:Nat):Int),(uJ k P f i l p q).2)):=by
 have hm:=hl.len;have m1:=hl.small;have e:ae .i64 (ae .i64 (2*(i:Int))+2)=((2*i+2:Nat):Int):=by rw [show ae .i64 (2*(i:Int))=2*(i:Int) from fC ⟨by omega,by omega⟩,fC ⟨by omega,by omega⟩];omega
 have pj:=hl.hp _ (aL (show j<(aiN l) by omega));have pb:=hl.hp _ (aL (show b<(aiN l) by omega));have ne:l[j]!≠l[b]!:=fun h=>by
  rcases rc j b with q|q|q
  · exact bq.1 hl.nd _ _ q (by omega) h
  · exact dK q
  exact bq.1 hl.nd _ _ q (by omega) h.symm
 have a:=AT ok.cj (t:=(k.jp.ci.1,k.jp.ci.2)) ok.o8.jk ok.o8.fT pj pb ne;unfold ia uJ;simp only [az,e,aJ (show (j:Int)<=((2*i+2:Nat):Int) by omega),aJ (show (j:Int)<((aiN l):Int) by omega),kw,ar l j (by omega),ar l b (by omega),aq,bO ok.cj pj,bO ok.cj pb,a,beq_self_eq_true,aY (show j<1000000000 by omega)]
 by_cases c:leads (aW f l[j]!) (aW f l[b]!) k.jp.ci
 · rw [show aiZ (leads (aW f l[j]!) (aW f l[b]!) (k.jp.ci.1,k.jp.ci.2))=aiS from aJ c,lm c];rfl
 rw [show aiZ (leads (aW f l[j]!) (aW f l[b]!) (k.jp.ci.1,k.jp.ci.2))=aiY from aF c,ls c];rfl
theorem aiX {L0:List Int} (h0:(aiN L0)=m) {i0:Nat} {l:List Int} (hl:jo f m l) {i b j:Nat} (hi:i<m) (hb:b<m) (he: ¬(j<=2*i+2/\j<m)) {p q:Pt}:
 ia (uS k P f i0 L0) ((i:Int),(b:Int),(j:Int),(uJ k P f i l p q).2)=if b=i then (bm k.jp ⟨f⟩ l).bind fun a=>aiP (.done (.done (.done a))) else aiP (.done (.next (uJ k P f b (cq l i b) p q))):=by
 have hm:=hl.len;have m1:=hl.small;have e:ae .i64 (ae .i64 (2*(i:Int))+2)=((2*i+2:Nat):Int):=by rw [show ae .i64 (2*(i:Int))=2*(i:Int) from fC ⟨by omega,by omega⟩,fC ⟨by omega,by omega⟩];omega
 have lx:(aiN l)=(aiN L0):=by omega
 have g1:=ar (l.set i l[b]!) b (by rw [lw];omega);have je:(aH.mk (k.jp.ci.1,k.jp.ci.2) (Field.mk k.jp.ii.am) (bj.mk k.jp.ai.aK k.jp.ai.ce) (aI.mk (aQ.mk k.jp.aa.af.ay k.jp.aa.af.be k.jp.aa.af.bi) k.jp.aa.bv k.jp.aa.aj) k.jp.io)=k.jp:=rfl;unfold ia uS uJ
 by_cases h1:j<=2*i+2
 · have h2: ¬j<m:=fun h=>he ⟨h1,h⟩
   simp only [az,e,aJ (show (j:Int)<=((2*i+2:Nat):Int) by omega),aF (show¬(j:Int)<((aiN L0):Int) by omega),kw,lc,ar l i (by omega),ar l b (by omega),aq,de,g1,lx,beq_self_eq_true,je]
   by_cases tI:b=i
   · rw [lm tI,cV (by omega),kw]
   rw [ls tI,dM (by omega),lc];rfl
 simp only [az,e,aF (show¬(j:Int)<=((2*i+2:Nat):Int) by omega),kw,lc,ar l i (by omega),ar l b (by omega),aq,de,g1,lx,beq_self_eq_true,je]
 by_cases tI:b=i
 · rw [lm tI,cV (by omega),kw]
 rw [ls tI,dM (by omega),lc];rfl
theorem am5 (ok:mR k f) {L0:List Int} (h0:(aiN L0)=m) {i0:Nat} {l:List Int} (hl:jo f m l) {i:Nat} (hi:i<m) {p q:Pt} {R:List Int->bg×Int} (hR:bm k.jp ⟨f⟩ l=aiP (R l)):
 aB (ia (uS k P f i0 L0)) ((i:Int),(i:Int),((2*i+1:Nat):Int),(uJ k P f i l p q).2)=aiP (if cz f k.jp.ci l i=i then .done (.done (R l)) else .next (uJ k P f (cz f k.jp.ci l i) (cq l i (cz f k.jp.ci l i)) p q)):=by
 have hm:=hl.len;have fin: ∀b j:Nat,b<m-> ¬(j<=2*i+2/\j<m)->cz f k.jp.ci l i=b->aB (ia (uS k P f i0 L0)) ((i:Int),(b:Int),(j:Int),(uJ k P f i l p q).2)=aiP (if cz f k.jp.ci l i=i then .done (.done (R l)) else .next (uJ k P f (cz f k.jp.ci l i) (cq l i (cz f k.jp.ci l i)) p q)):=by
  intro b j hb he hk;rw [hk];have:=aiX (k:=k) (P:=P) h0 (i0:=i0) hl hi hb he (p:=p) (q:=q)
  by_cases tI:b=i
  · rw [lm tI,hR,aq] at this
    rw [lm tI];exact aA this
  rw [ls tI] at this
  rw [ls tI];exact aA this
 have kA:ir f k.jp.ci l i<m:=by rcases jg f k.jp.ci l i with h|⟨h,h2⟩<;>omega
 by_cases h1:2*i+1<m
 case neg=>
  have e1:ir f k.jp.ci l i=i:=by unfold ir;rw [ls (fun h=>h1 (by omega))]
  have e2:cz f k.jp.ci l i=i:=by unfold cz;rw [ls (fun h=>h1 (by omega)),e1]
  exact fin i (2*i+1) hi (fun h=>h1 h.2) e2
 rw [aM (Ph ok hl hi hi h1 (by omega) (by omega) (p:=p) (q:=q))];have eA:(if leads (aW f l[2*i+1]!) (aW f l[i]!) k.jp.ci then 2*i+1 else i)=ir f k.jp.ci l i:=by
  unfold ir
  by_cases c:leads (aW f l[2*i+1]!) (aW f l[i]!) k.jp.ci
  · rw [lm c,lm ⟨by omega,c⟩]
  rw [ls c,ls (fun h=>c h.2)]
 rw [eA]
 by_cases h2:2*i+1+1<m
 case neg=>
  have e2:cz f k.jp.ci l i=ir f k.jp.ci l i:=by unfold cz;rw [ls (fun h=>h2 (by omega))]
  exact fin _ (2*i+1+1) kA (fun h=>h2 h.2) e2
 have nk:2*i+1+1≠ir f k.jp.ci l i:=by rcases jg f k.jp.ci l i with h|⟨h,_⟩<;>omega
 rw [aM (Ph ok hl hi kA h2 (by omega) nk (p:=p) (q:=q))];have eG:(if leads (aW f l[2*i+1+1]!) (aW f l[ir f k.jp.ci l i]!) k.jp.ci then 2*i+1+1 else ir f k.jp.ci l i)=cz f k.jp.ci l i:=by
  unfold cz
  by_cases c:leads (aW f l[2*i+1+1]!) (aW f l[ir f k.jp.ci l i]!) k.jp.ci
  · rw [lm c,lm ⟨by omega,c⟩]
  rw [ls c,ls (fun h=>c h.2)]
 rw [eG];exact fin _ (2*i+1+1+1) (by rw [<- eG];split<;>omega) (fun h=>by omega) rfl
theorem am6 (ok:mR k f) {L0:List Int} (h0:(aiN L0)=m) {i0:Nat} {R:List Int->bg×Int} {l0:List Int} (hR: ∀l:List Int,l.Perm l0->bm k.jp ⟨f⟩ l=aiP (R l)):
 ∀(d:Nat) (l:List Int) (i:Nat),m-i<=d->i<m->jo f m l->l.Perm l0->aB (nh (uS k P f i0 L0)) (uS k P f i l)=aiP (.done (R (rM f k.jp.ci l i))):=by
 intro d
 induction d with
 |zero=>intro l i h hi;omega
 |succ d ih=>
  intro l i h hi hl pm;have hm:=hl.len;have m1:=hl.small;have e:ae .i64 (ae .i64 (2*(i:Int))+1)=((2*i+1:Nat):Int):=by rw [show ae .i64 (2*(i:Int))=2*(i:Int) from fC ⟨by omega,by omega⟩,fC ⟨by omega,by omega⟩];omega
  have g:=am4 (k:=k) (P:=P) ok h0 (i0:=i0) hl hi (hR l pm);have st:nh (uS k P f i0 L0) (uS k P f i l)=aiP (if cz f k.jp.ci l i=i then .done (.done (R l)) else .next (uS k P f (cz f k.jp.ci l i) (cq l i (cz f k.jp.ci l i)))):=by unfold nh;rw [show (uS k P f i l).1=(i:Int) from rfl,e];exact g
  by_cases hk:cz f k.jp.ci l i=i
  · rw [lm hk] at st
    rw [nC hk];exact aA st
  rw [ls hk] at st
  have kc:=mz f k.jp.ci l i;have sp:=fo (l:=l) (i:=i) (j:=cz f k.jp.ci l i) (by omega) (by omega);rw [aM st,vX hk];exact ih _ _ (by omega) (by omega) ⟨by rw [eD];exact hm,hl.small,fun y hy=>hl.hp y (sp.mem_iff.1 hy),sp.nodup_iff.2 hl.nd⟩ (sp.trans pm)
theorem am7 (ok:mR k f) {L0:List Int} (h0:(aiN L0)=m) {i0:Nat} {p q:Pt} {R:List Int->bg×Int} {l0:List Int} (hR: ∀l:List Int,l.Perm l0->bm k.jp ⟨f⟩ l=aiP (R l)):
 ∀(d:Nat) (l:List Int) (i:Nat),m-i<=d->i<m->jo f m l->l.Perm l0->aB (ng (uS k P f i0 L0)) (uJ k P f i l p q)=aiP (.done (R (rM f k.jp.ci l i))):=by
 intro d
 induction d with
 |zero=>intro l i h hi;omega
 |succ d ih=>
  intro l i h hi hl pm;have hm:=hl.len;have m1:=hl.small;have e:ae .i64 (ae .i64 (2*(i:Int))+1)=((2*i+1:Nat):Int):=by rw [show ae .i64 (2*(i:Int))=2*(i:Int) from fC ⟨by omega,by omega⟩,fC ⟨by omega,by omega⟩];omega
  have g:=am5 (k:=k) (P:=P) ok h0 (i0:=i0) hl hi (p:=p) (q:=q) (hR l pm);have st:ng (uS k P f i0 L0) (uJ k P f i l p q)=aiP (if cz f k.jp.ci l i=i then .done (.done (R l)) else .next (uJ k P f (cz f k.jp.ci l i) (cq l i (cz f k.jp.ci l i)) p q)):=by unfold ng;rw [show (uJ k P f i l p q).1=(i:Int) from rfl,e];exact g
  by_cases hk:cz f k.jp.ci l i=i
  · rw [lm hk] at st
    rw [nC hk];exact aA st
  rw [ls hk] at st
  have kc:=mz f k.jp.ci l i;have sp:=fo (l:=l) (i:=i) (j:=cz f k.jp.ci l i) (by omega) (by omega);rw [aM st,vX hk];exact ih _ _ (by omega) (by omega) ⟨by rw [eD];exact hm,hl.small,fun y hy=>hl.hp y (sp.mem_iff.1 hy),sp.nodup_iff.2 hl.nd⟩ (sp.trans pm)
theorem am8 (ok:mR k f) {c0:List Int} (hc:(aiN c0)=m) {R:List Int->bg×Int} {l0:List Int} (hR: ∀l:List Int,l.Perm l0->bm k.jp ⟨f⟩ l=aiP (R l)):
 ∀(i:Nat) (l:List Int),i<m->jo f m l->l.Perm l0->aB (lr c0) (uS k P f i l)=aiP (R (rM f k.jp.ci (jf f k.jp.ci i l) (qX f k.jp.ci i l))):=by
 intro i
 induction i using NE with
 |ind i ih=>
  intro l hi hl pm;have hm:=hl.len;have m1:=hl.small;have lx:(aiN l)=m:=hm;cases i with
  |zero=>have g:=am6 (P:=P) ok lx (i0:=0) hR m l 0 (by omega) hi hl pm;unfold jf qX;refine aA ?_;unfold lr;rw [show (uS k P f 0 l).1=0 from rfl,aF (by omega),lc];rw [show (uS k P f 0 l).2.2.2.2.2.2.2.2.2.2.2.2.2.2.2.2.2.2.2.2.1=l from rfl,lx,hc,beq_self_eq_true,kw];exact g
  |succ i=>
   have hu:=Ec (i:=i+1) (by omega) (by omega);rw [show (i+1-1) / 2=i / 2 from rfl] at hu;have pi:=hl.hp _ (aL (show i+1<(aiN l) by omega));have pj:=hl.hp _ (aL (show i / 2<(aiN l) by omega));have ne:l[i+1]!≠l[i / 2]!:=fun h=>bq.1 hl.nd (i / 2) (i+1) (by omega) (by omega) h.symm
   have a:=AT ok.cj (t:=(k.jp.ci.1,k.jp.ci.2)) ok.o8.jk ok.o8.fT pi pj ne;have g1:=ar l (i+1) (by omega);have g2:=ar l (i / 2) (by omega);have g3:=ar (l.set (i+1) l[i / 2]!) (i / 2) (by rw [lw];omega);unfold jf qX
   by_cases c:leads (aW f l[i+1]!) (aW f l[i / 2]!) k.jp.ci
   · rw [lm c,lm c]
     rw [show aiZ (leads (aW f l[i+1]!) (aW f l[i / 2]!) (k.jp.ci.1,k.jp.ci.2))=aiS from aJ c] at a;have sp:=fo (l:=l) (i:=i+1) (j:=i / 2) (by omega) (by omega);rw [aM (y:=uS k P f (i / 2) (cq l (i+1) (i / 2))) (by unfold lr uS;simp only [aJ (show (0:Int)<((i+1:Nat):Int) by omega),kw,g1,g2,aq,hu,bO ok.cj pi,bO ok.cj pj,a,beq_self_eq_true,de,g3];rfl)];exact ih (i / 2) (by omega) _ (by omega) ⟨by rw [eD];exact hm,hl.small,fun y hy=>hl.hp y (sp.mem_iff.1 hy),sp.nodup_iff.2 hl.nd⟩ (sp.trans pm)
   rw [ls c,ls c]
   rw [show aiZ (leads (aW f l[i+1]!) (aW f l[i / 2]!) (k.jp.ci.1,k.jp.ci.2))=aiY from aF c] at a;have g:=am7 (P:=P) ok lx (i0:=i+1) (p:=aW f l[i+1]!) (q:=aW f l[i / 2]!) hR m l (i+1) (by omega) hi hl pm;refine aA ?_;unfold lr
   conv=>lhs;unfold uS
   simp only [aJ (show (0:Int)<((i+1:Nat):Int) by omega),kw,g1,g2,aq,hu,bO ok.cj pi,bO ok.cj pj,a,beq_self_eq_true,lc,lx,hc];exact g
end
def vS (k:bg) (P:Pt) (f:List Pt) (i:Nat) (L:List Int):=
 ((i:Int),k.jp.ci.1,k.jp.ci.2,k.jp.ii.am,k.jp.ai.aK,k.jp.ai.ce,k.jp.aa.af.ay,k.jp.aa.af.be,k.jp.aa.af.bi,k.jp.aa.bv,k.jp.aa.aj,k.jp.io,k.bv,P.1,P.2.1,P.2.2,(0:Int),(0:Int),(0:Int),f,[P.1],L,f,k.jp.ci.1,k.jp.ci.2)
theorem am9 {k:bg} {P:Pt} {f:List Pt} {m:Nat} (ok:mR k f) {c0:Pt} {c1:List Int} (hc:(aiN c1)=m) {R:List Int->bg×Int} {l0:List Int} (hR: ∀l:List Int,l.Perm l0->bm k.jp ⟨f⟩ l=aiP (R l)):
 ∀(i:Nat) (l:List Int),i<m->jo f m l->l.Perm l0->aB (oM c0 c1) (vS k P f i l)=aiP (R (jf f k.jp.ci i l)):=by
 have je:(aH.mk (k.jp.ci.1,k.jp.ci.2) (Field.mk k.jp.ii.am) (bj.mk k.jp.ai.aK k.jp.ai.ce) (aI.mk (aQ.mk k.jp.aa.af.ay k.jp.aa.af.be k.jp.aa.af.bi) k.jp.aa.bv k.jp.aa.aj) k.jp.io)=k.jp:=rfl;intro i
 induction i using NE with
 |ind i ih=>
  intro l hi hl pm;have hm:=hl.len;have m1:=hl.small;have lx:(aiN l)=m:=hm;cases i with
  |zero=>unfold jf;refine aA ?_;unfold oM vS;simp only [aF (show¬(0:Int)<((0:Nat):Int) by omega),lc,ut,lx,hc,beq_self_eq_true,kw,je,hR l pm,aq]
  |succ i=>
   have hu:=Ec (i:=i+1) (by omega) (by omega);rw [show (i+1-1) / 2=i / 2 from rfl] at hu;have pi:=hl.hp _ (aL (show i+1<(aiN l) by omega));have pj:=hl.hp _ (aL (show i / 2<(aiN l) by omega));have ne:l[i+1]!≠l[i / 2]!:=fun h=>bq.1 hl.nd (i / 2) (i+1) (by omega) (by omega) h.symm
   have a:=AT ok.cj (t:=(k.jp.ci.1,k.jp.ci.2)) ok.o8.jk ok.o8.fT pi pj ne;have g1:=ar l (i+1) (by omega);have g2:=ar l (i / 2) (by omega);have g3:=ar (l.set (i+1) l[i / 2]!) (i / 2) (by rw [lw];omega);unfold jf
   by_cases c:leads (aW f l[i+1]!) (aW f l[i / 2]!) k.jp.ci
   · rw [lm c]
     rw [show aiZ (leads (aW f l[i+1]!) (aW f l[i / 2]!) (k.jp.ci.1,k.jp.ci.2))=aiS from aJ c] at a;have sp:=fo (l:=l) (i:=i+1) (j:=i / 2) (by omega) (by omega);rw [aM (y:=vS k P f (i / 2) (cq l (i+1) (i / 2))) (by unfold oM vS;simp only [aJ (show (0:Int)<((i+1:Nat):Int) by omega),kw,g1,g2,aq,hu,bO ok.cj pi,bO ok.cj pj,a,beq_self_eq_true,de,g3];rfl)];exact ih (i / 2) (by omega) _ (by omega) ⟨by rw [eD];exact hm,hl.small,fun y hy=>hl.hp y (sp.mem_iff.1 hy),sp.nodup_iff.2 hl.nd⟩ (sp.trans pm)
   rw [ls c]
   rw [show aiZ (leads (aW f l[i+1]!) (aW f l[i / 2]!) (k.jp.ci.1,k.jp.ci.2))=aiY from aF c] at a;refine aA ?_;unfold oM vS;simp only [aJ (show (0:Int)<((i+1:Nat):Int) by omega),kw,g1,g2,aq,hu,bO ok.cj pi,bO ok.cj pj,a,beq_self_eq_true,lc,ut,lx,hc,je,hR l pm]
end Go.Proofs.YtfejhjllooomlaaGreat
namespace Go.Proofs.YtfejhjllooomlaaGreat
abbrev Nd:=Int×Int×Int
structure LM (P:Nat->Nat->Prop) (a b i:Nat):Prop where
 lo:a<=i
 hi:i<b
 top: ∀j,a<=j->j<b->j≠i->P i j
inductive oU (P:Nat->Nat->Prop) (N:List Nd):Nat->Nat->Int->Prop
 |nil {a b:Nat} (h:b<=a):oU P N a b (-1)
 |node {a b i:Nat} (h:LM P a b i) (l:oU P N a i (N[i]!).2.1) (r:oU P N (i+1) b (N[i]!).2.2):oU P N a b (i:Int)
structure abm (P:Nat->Nat->Prop) (n:Nat):Prop where
 tr: ∀i j k,i<n->j<n->k<n->P i j->P j k->P i k
 asy: ∀i j,i<n->j<n->P i j-> ¬P j i
 tot: ∀i j,i<n->j<n->i≠j-> ¬P i j->P j i
theorem LM.one {P:Nat->Nat->Prop} {n a b i j:Nat} (o:abm P n) (hb:b<=n) (h:LM P a b i) (k:LM P a b j):i=j:=by
 refine abH fun dK=>?_
 have:=h.hi;have:=k.hi;exact o.asy i j (by omega) (by omega) (h.top j k.lo k.hi (fun e=>dK e.symm)) (k.top i h.lo h.hi dK)
theorem oU.link {P:Nat->Nat->Prop} {N:List Nd} {a b:Nat} {r:Int} (h:oU P N a b r):(b<=a/\r= -1)\/(∃i:Nat,r=(i:Int)/\a<=i/\i<b):=by
 cases h with
 |nil h=>exact .inl ⟨h,rfl⟩
 |node h l r=>exact .inr ⟨_,rfl,h.lo,h.hi⟩
theorem oU.unique {P:Nat->Nat->Prop} {n:Nat} (o:abm P n) {N N':List Nd} {a b:Nat} {r:Int} (h:oU P N a b r): ∀{r':Int},b<=n->oU P N' a b r'->r=r'/\ ∀k,a<=k->k<b->(N[k]!).2=(N'[k]!).2:=by
 induction h with
 |nil h=>
  intro r' hb h';cases h' with
  |nil _=>exact ⟨rfl,fun k h1 h2=>by omega⟩
  |node t _ _=>have:=t.lo;have:=t.hi;omega
 | @node a b i h l r ihl ihr=>
  intro r' hb h';have lo:=h.lo;have hi:=h.hi;cases h' with
  |nil q=>omega
  | @node _ _ j t l' r'=>
   have e:=h.one o hb t;subst e;obtain ⟨e1,f1⟩:=ihl (by omega) l';obtain ⟨e2,f2⟩:=ihr hb r';refine ⟨rfl,fun k h1 h2=>?_⟩;rcases rc k i with q|q|q
   · exact f1 k h1 q
   · subst q;exact Prod.ext e1 e2
   exact f2 k (by omega) h2
theorem oU.other {P Q:Nat->Nat->Prop} {n:Nat} (o:abm Q n) {N:List Nd} {a b:Nat} {r:Int} (h:oU P N a b r):b<=n->(∀k j:Nat,a<=k->k<b->a<=j->j<b->((N[k]!).2.1=(j:Int)\/(N[k]!).2.2=(j:Int))->Q k j)->oU Q N a b r:=by
 induction h with
 |nil h=>exact fun _ _=> .nil h
 | @node a b i h l r ihl ihr=>
  intro hb q;have lo:=h.lo;have hi:=h.hi;have tl:=ihl (by omega) fun k j h1 h2 h3 h4=>q k j h1 (by omega) h3 (by omega)
  have tr:=ihr hb fun k j h1 h2 h3 h4=>q k j (by omega) h2 (by omega) h4
  refine .node ⟨lo,hi,fun j h1 h2 dK=>?_⟩ tl tr;rcases acX j i with hj|hj
  · generalize hr:(N[i]!).2.1=s at tl
    cases tl with
    |nil q=>omega
    | @node _ _ m t _ _=>
     have t1:=t.lo;have t2:=t.hi;have qm:=q i m lo hi t1 (by omega) (.inl hr)
     by_cases e:j=m
     · rw [e];exact qm
     exact o.tr i m j (by omega) (by omega) (by omega) qm (t.top j h1 hj e)
  generalize hr:(N[i]!).2.2=s at tr
  cases tr with
  |nil q=>omega
  | @node _ _ m t _ _=>
   have t1:=t.lo;have t2:=t.hi;have qm:=q i m lo hi (by omega) t2 (.inr hr)
   by_cases e:j=m
   · rw [e];exact qm
   exact o.tr i m j (by omega) (by omega) (by omega) qm (t.top j (by omega) h2 e)
theorem oU.kids {P:Nat->Nat->Prop} {N:List Nd} {a b:Nat} {r:Int} (h:oU P N a b r): ∀k,a<=k->k<b-> ∀c:Int,((N[k]!).2.1=c\/(N[k]!).2.2=c)->c= -1\/ ∃j:Nat,c=(j:Int)/\a<=j/\j<b/\j≠k/\P k j/\r≠c:=by
 induction h with
 |nil h=>intro k h1 h2;omega
 | @node a b i h l r ihl ihr=>
  have lo:=h.lo;have hi:=h.hi;intro k h1 h2 c hc;rcases rc k i with q|q|q
  · rcases ihl k h1 q c hc with e|⟨j,e,j1,j2,j3,j4,_⟩
    · exact .inl e
    exact .inr ⟨j,e,j1,by omega,j3,j4,by rw [e];omega⟩
  · subst q
    rcases hc with hc|hc
    · rcases l.link with ⟨_,e⟩|⟨j,e,j1,j2⟩
      · exact .inl (hc▸e)
      exact .inr ⟨j,hc▸e,j1,by omega,by omega,h.top j j1 (by omega) (by omega),by rw [<- hc,e];omega⟩
    rcases r.link with ⟨_,e⟩|⟨j,e,j1,j2⟩
    · exact .inl (hc▸e)
    exact .inr ⟨j,hc▸e,by omega,j2,by omega,h.top j (by omega) j2 (by omega),by rw [<- hc,e];omega⟩
  rcases ihr k (by omega) h2 c hc with e|⟨j,e,j1,j2,j3,j4,_⟩
  · exact .inl e
  exact .inr ⟨j,e,by omega,j2,j3,j4,by rw [e];omega⟩
theorem oU.up {P:Nat->Nat->Prop} {N:List Nd} {a b:Nat} {r:Int} (h:oU P N a b r): ∀k:Nat,a<=k->k<b->(k:Int)≠r-> ∃j,a<=j/\j<b/\((N[j]!).2.1=(k:Int)\/(N[j]!).2.2=(k:Int))/\ ∀m,a<=m->m<b->((N[m]!).2.1=(k:Int)\/(N[m]!).2.2=(k:Int))->m=j:=by
 induction h with
 |nil h=>intro k h1 h2;omega
 | @node a b i h l r ihl ihr=>
  have lo:=h.lo;have hi:=h.hi;have lk:=l.kids;have rk:=r.kids;intro k h1 h2 dK;have hki:k≠i:=fun e=>dK (by rw [e])
  rcases acX k i with q|q
  · by_cases er:(k:Int)=(N[i]!).2.1
    · refine ⟨i,lo,hi,.inl er.symm,fun m m1 m2 hm=>?_⟩
      rcases rc m i with w|w|w
      · rcases lk m m1 w _ hm with e|⟨j,e,_,_,_,_,hr⟩
        · omega
        exact absurd er.symm hr
      · exact w
      rcases rk m (by omega) m2 _ hm with e|⟨j,e,j1,_⟩<;>omega
    obtain ⟨j,j1,j2,j3,j4⟩:=ihl k h1 q er
    refine ⟨j,j1,by omega,j3,fun m m1 m2 hm=>?_⟩;rcases rc m i with w|w|w
    · exact j4 m m1 w hm
    · subst w
      rcases hm with hm|hm
      · exact absurd hm.symm er
      rcases r.link with ⟨_,e⟩|⟨p,e,p1,p2⟩<;>omega
    rcases rk m (by omega) m2 _ hm with e|⟨p,e,p1,_⟩<;>omega
  by_cases er:(k:Int)=(N[i]!).2.2
  · refine ⟨i,lo,hi,.inr er.symm,fun m m1 m2 hm=>?_⟩
    rcases rc m i with w|w|w
    · rcases lk m m1 w _ hm with e|⟨j,e,_,j2,_⟩<;>omega
    · exact w
    rcases rk m (by omega) m2 _ hm with e|⟨j,e,_,_,_,_,hr⟩
    · omega
    exact absurd er.symm hr
  obtain ⟨j,j1,j2,j3,j4⟩:=ihr k (by omega) h2 er
  refine ⟨j,by omega,j2,j3,fun m m1 m2 hm=>?_⟩;rcases rc m i with w|w|w
  · rcases lk m m1 w _ hm with e|⟨p,e,_,p2,_⟩<;>omega
  · subst w
    rcases hm with hm|hm
    · rcases l.link with ⟨_,e⟩|⟨p,e,p1,p2⟩<;>omega
    exact absurd hm.symm er
  exact j4 m (by omega) m2 hm
inductive Gz (P:Nat->Nat->Prop) (N:List Nd):Nat->Nat->Int->List Nat->Prop
 |nil {a b:Nat} (h:b<=a):Gz P N a b (-1) []
 |cons {a b k:Nat} {es:List Nat} (h:LM P a b k) (l:oU P N a k (N[k]!).2.1) (r:Gz P N (k+1) b (N[k]!).2.2 es):Gz P N a b (k:Int) (k::es)
theorem Gz.tree {P:Nat->Nat->Prop} {N:List Nd} {a b:Nat} {r:Int} {es:List Nat} (h:Gz P N a b r es):oU P N a b r:=by
 induction h with
 |nil h=>exact .nil h
 |cons h l r ih=>exact .node h l ih
theorem Gz.mem {P:Nat->Nat->Prop} {N:List Nd} {a b:Nat} {r:Int} {es:List Nat} (h:Gz P N a b r es): ∀e∈es,a<=e/\e<b:=by
 induction h with
 |nil h=>intro e he;cases he
 |cons h l r ih=>
  intro e he;have lo:=h.lo;have hi:=h.hi;rcases abX.1 he with rfl|he
  · exact ⟨lo,hi⟩
  have:=ih e he;omega
end Go.Proofs.YtfejhjllooomlaaGreat
namespace Go.Proofs.YtfejhjllooomlaaGreat
open Go.Vm Classical
def ahP (f:List Pt) (t:Int×Int) (i j:Nat):Prop:=leads f[i]! f[j]! t
theorem fP {p q:Pt} {t:Int×Int} (h:leads p q t): ¬leads q p t:=by unfold leads at*;rw [Jt] at*;generalize p.2.1*t.2+p.2.2*t.1=a at*;generalize q.2.1*t.2+q.2.2*t.1=b at*;omega
theorem abn {f:List Pt} (h:fu f) (t:Int×Int):abm (ahP f t) (aiN f) where
 tr:=fun _ _ _ _ _ _ h1 h2=>qW h1 h2
 asy:=fun _ _ _ _ h=>fP h
 tot:=fun _ _ hi hj dK hn=>jF t (fun e=>dK (pN h hi hj e)) hn
structure AU (f:List Pt) (t:Int×Int) (N:List Nd) (r:Int):Prop where
 len:(aiN N)=aiN f
 ids: ∀k,k<aiN f->(N[k]!).1=(f[k]!).1
 tree:oU (ahP f t) N 0 (aiN f) r
theorem AU.same {f:List Pt} (h:fu f) {t:Int×Int} {N N':List Nd} {r r':Int} (a:AU f t N r) (b:AU f t N' r'):N=N'/\r=r':=by
 obtain ⟨e1,e2⟩:=a.tree.unique (abn h t) (EQ _) b.tree;refine ⟨BF (by rw [a.len,b.len]) fun k hk=>?_,e1⟩;have hk:k<(aiN f):=by rw [<- a.len];exact hk
 exact Prod.ext (by rw [a.ids k hk,b.ids k hk]) (e2 k (M2 _) hk)
def Below (N:List Nd) (k j:Nat):Prop:=(N[j]!).2.1=(k:Int)\/(N[j]!).2.2=(k:Int)
noncomputable def G2 (N:List Nd) (k:Nat):Nat:=if h: ∃j,j<aiN N/\Below N k j then h.choose else (aiN N)
section
variable {f : List Pt} {t : Int × Int} {N : List Nd} {r : Int}
theorem AU.par (h:AU f t N r) {k:Nat} (hk:k<aiN f):((k:Int)=r->G2 N k=aiN N)/\((k:Int)≠r->G2 N k<aiN N/\Below N k (G2 N k)/\G2 N k≠k/\ahP f t (G2 N k) k)/\ ∀m,m<aiN N->Below N k m->m=G2 N k:=by
 have ln:=h.len
 by_cases hr:(k:Int)=r
 · have none: ¬ ∃j,j<aiN N/\Below N k j:=by
    rintro ⟨j,hj,hb⟩;rcases h.tree.kids j (M2 _) (by omega) (k:Int) hb with e|⟨_,_,_,_,_,_,e⟩
    · omega
    exact e hr.symm
   have e:G2 N k=(aiN N):=by unfold G2;rw [dif_neg none]
   exact ⟨fun _=>e,fun q=>absurd hr q,fun m hm hb=>absurd ⟨m,hm,hb⟩ none⟩
 obtain ⟨j,_,j2,j3,j4⟩:=h.tree.up k (M2 _) hk hr
 have ex: ∃j,j<aiN N/\Below N k j:=⟨j,by omega,j3⟩;have e:G2 N k=j:=by unfold G2;rw [dif_pos ex];have:=ex.choose_spec;exact j4 _ (M2 _) (by omega) this.2
 refine ⟨fun q=>absurd q hr,fun _=>?_,fun m hm hb=>by rw [e];exact j4 m (M2 _) (by omega) hb⟩;rw [e];refine ⟨by omega,j3,?_,?_⟩
 · rcases h.tree.kids j (M2 _) j2 (k:Int) j3 with q|⟨i,q,_,_,q2,_⟩
   · omega
   intro w;omega
 rcases h.tree.kids j (M2 _) j2 (k:Int) j3 with q|⟨i,q,_,_,_,q2,_⟩
 · omega
 have:i=k:=by omega
 rw [<- this];exact q2
end
def o1 (f:List Pt) (t:Int×Int) (e c:Nat) (i:Nat) (root:Int) (N:List Nd) (E:List Int) (left:Int):=
 (e,c,(i:Int),f,((aiN f):Int),(i:Int),f,t.1,t.2,(0:Int),root,N,E,(f[i]!).1,(f[i]!).2.1,(f[i]!).2.2,(f[i]!).1,left,(-1:Int))
section
variable {f : List Pt} {t : Int × Int} {N : List Nd} {r : Int}
theorem AU.link (h:AU f t N r) {j:Nat} (hj:j<aiN f) {c:Int} (hc:(N[j]!).2.1=c\/(N[j]!).2.2=c):c= -1\/(0<=c/\c<aiN N):=by
 have ln:=h.len;rcases h.tree.kids j (M2 _) hj c hc with e|⟨k,e,_,k2,_⟩
 · exact .inl e
 exact .inr ⟨by omega,by omega⟩
end
theorem GA {α:Type} [BEq α] [LawfulBEq α]: ∀{a b:List α},a.Nodup->(∀x∈a,x∈b)->aiN a<=aiN b
 | [],_,_,_=>M2 _
 |x::a,b,hd,h=>by rw [ai1] at hd;have hx:=h x ack;have:=GA (a:=a) (b:=b.erase x) hd.2 (fun y hy=>by rw [acP (fun e=>hd.1 (by rw [<- e];exact hy))];exact h y (abP _ hy));rw [acx hx] at this;have:=acD hx;rw [IR];omega
theorem DJ {α:Type} [BEq α] [LawfulBEq α] {a b:List α} (ha:a.Nodup) (hb:b.Nodup) (h1: ∀x∈a,x∈b) (h2: ∀x∈b,x∈a):a.Perm b:=mw ha h1 (GA hb h2)
theorem GB {c:aH} (ok:aU c) {es:List (Int×Int)} (v7:qq c.ii.am es) (pm:(c.ai.ce.map fun x=>x.2).Perm es):dZ c c.ii es=aiP (c,0):=by
 have bd:=ok.bd;have el:=v7.len;have f1:=ok.iE.1;have k1:=dN (body:=bE) (fun i=>kP c c.ii.am es i c) (aiN c.ai.ce) (fun i hi=>by have rq:(c.ai.ce[i]!).2∈es:=pm.mem_iff.1 (my.1 ⟨i,hi,rfl⟩);unfold bE kP;simp only [aJ (show (i:Int)<((aiN c.ai.ce):Int) by omega),kw,ar c.ai.ce i hi,aq,iL _ _ v7.len,aJ rq,Do,lc,aY (show i<1000000000 by omega)]);refine (show dZ c c.ii es=_ from k1).trans (aA ?_);unfold bE kP;simp only [aF (show¬((aiN c.ai.ce):Int)<((aiN c.ai.ce):Int) by omega),lc,sF c.ii.am c.ii.am (by omega),aq,Do,decide_true];have k2:=dN (body:=bR) (fun i=>eP es i c) (aiN es) (fun i hi=>by
  have rq:rF c.ai.ce es[i]!:=my.2 (pm.mem_iff.2 (aL hi));unfold bR eP;simp only [aJ (show (i:Int)<((aiN es):Int) by omega),kw,ar es i hi,aq,sO,BQ c.ai.ce es[i]! (by omega),aJ rq,aY (show i<1000000000 by omega)])
 refine (show _=_ from k2).trans (aA ?_);unfold bR eP;simp only [aF (show¬((aiN es):Int)<((aiN es):Int) by omega),lc]
theorem Pj {f:List Pt} {m:Nat} {p q:Pt}:q∈o4 f m p↔q=p\/q∈f:=by
 unfold o4;rw [ac9,abX];constructor
 · rintro (h|h|h)
   · exact .inr (abZ h)
   · exact .inl h
   exact .inr (acO h)
 rintro (h|h)
 · exact .inr (.inl h)
 rw [<- acJ m f] at h
 rcases ac9.1 h with h|h
 · exact .inl h
 exact .inr (.inr h)
theorem H4 {f:List Pt} (hs:fu f) {q:Nat} (hq:q<aiN f) {p:Pt}:p∈f.eraseIdx q↔p∈f/\p.1≠(f[q]!).1:=by
 rw [List.mem_eraseIdx_iff_getElem];constructor
 · rintro ⟨i,hi,dK,rfl⟩
   refine ⟨adF _,fun e=>?_⟩;rw [<- getElem!_pos f i hi] at e;rcases rc i q with c|c|c
   · have:=fk hs c hq;omega
   · exact dK c
   have:=fk hs c hi;omega
 rintro ⟨hp,dK⟩
 obtain ⟨i,hi,rfl⟩:=aO.1 hp;refine ⟨i,hi,fun e=>dK (by rw [e]),?_⟩;rw [getElem!_pos f i hi]
theorem yV {f:List Pt} (hs:fu f) {q:Pt} (h:q∈f):aW f q.1=q:=by obtain ⟨i,hi,rfl⟩:=aO.1 h;exact uA hs hi rfl
theorem uC {f:List Pt} (hs:fu f) {x:Int} (h:gU f x):aW f x∈f/\(aW f x).1=x:=by obtain ⟨i,hi,rfl⟩:=h;rw [yV hs (aL hi)];exact ⟨aL hi,rfl⟩
theorem C5 {f g:List Pt} (hf:fu f) (hg:fu g) {x:Int} (h:gU f x) (hm:aW f x∈g):aW g x=aW f x:=by
 have:=yV hg hm
 rwa [(uC hf h).2] at this
theorem uD {f:List Pt} (hs:fu f) (t:Int×Int):SO (fun a b=>leads (aW f a) (aW f b) t) (gU f) where
 irr:=fun a _ h=>fP h h
 tr:=fun _ _ _ _ _ _ h k=>qW h k
 tot:=fun a b ha hb dK=>by
  rcases acQ (leads (aW f a) (aW f b) t) with h|h
  · exact .inl h
  exact .inr (jF t (by rw [(uC hs ha).2,(uC hs hb).2];exact dK) h)
abbrev yW (f:List Pt) (t:Int×Int) (a b:Int):Prop:=leads (aW f a) (aW f b) t
theorem H5 {f:List Pt} (hs:fu f) {t:Int×Int} {l:List Int} (hp: ∀x∈l,gU f x) (nd:l.Nodup):(∀e∈bU l,leads (aW f e.2) (aW f e.1) t)↔Hp (yW f t) l:=by
 constructor
 · intro h j h1 h2 c
   have hm:(l[j]!,l[par j]!)∈bU l:=by refine aO.2 ⟨j-1,by rw [gf];omega,?_⟩;rw [qU l (show j-1<aiN l-1 by omega),show j-1+1=j by omega]
   exact fP c (h _ hm)
 intro h e he
 obtain ⟨i,hi,rfl⟩:=aO.1 he;rw [gf] at hi;rw [qU l hi];have:=h (i+1) (by omega) (by omega);have pe:par (i+1)=i / 2:=by simp only [par];omega
 rw [pe] at this;refine jF t ?_ this;rw [(uC hs (hp _ (aL (by omega)))).2,(uC hs (hp _ (aL (by omega)))).2];exact fun e=>bq.1 nd (i / 2) (i+1) (by omega) (by omega) e.symm
structure xn (R:bg) (F:List Pt) (t:Int×Int):Prop where
 ok:iC R
 iE:R.jp.ii.am=F
 ci:R.jp.ci=t
theorem iC.len {k:bg} (h:iC k):(aiN k.bv)=(aiN k.jp.ii.am):=by rw [<- h.perm.length_eq];exact v6 ..
theorem iC.bd {k:bg} (h:iC k):(aiN k.bv)<=64:=by have:=h.len;have:=h.o8.iE.1;omega
theorem iC.has {k:bg} (h:iC k): ∀x∈k.bv,gU k.jp.ii.am x:=fun _ hx=>gN.1 (h.perm.mem_iff.2 hx)
theorem iC.nd {k:bg} (h:iC k):k.bv.Nodup:=h.perm.nodup_iff.1 (fO h.o8.iE.2.2)
theorem iC.hp {k:bg} (h:iC k):Hp (yW k.jp.ii.am k.jp.ci) k.bv:=(H5 h.o8.iE.2.2 h.has h.nd).1 h.lead
abbrev UP:bg:=⟨dI,[]⟩
theorem DK {c:aH} (ok:aU c) {f:List Pt} (cj:bG f) {l:List Int} (pm:(gx f).Perm l):
 ∃R:bg×Int,bm c ⟨f⟩ l=aiP R/\(R=(UP,18)\/R.2=0/\R.1.bv=l/\BU c f (bU l) R.1.jp)/\(f=c.ii.am->(c.ai.ce.map fun x=>x.2).Perm (bU l)->R=(⟨c,l⟩,0)):=by
 have f1:=cj.1;have ln:(aiN l)=(aiN f):=by rw [<- pm.length_eq];exact v6 ..
 have v7:=xm cj pm;have nd:=pm.nodup_iff.1 (fO cj.2.2);obtain ⟨r,r1,r2,r3⟩:=Jp ok cj v7;have ee:mM f (bU l)=0:=by unfold mM;rw [ls (ww.2 v7.cv),ls (ww.2 (qV nd)),ls (fun h=>h v7.kn)]
 have rn:=Gy ok cj (es:=bU l) (by rw [gf];omega) (fun _=>r1);rw [lm ee] at rn;rcases r3 with ⟨q0,q⟩|he
 · refine ⟨(⟨r.1,l⟩,0),?_,.inr ⟨rfl,rfl,q⟩,fun hf hc=>?_⟩
   · unfold bm
     rw [yU l (by omega),aq,rn,aq,q0];rfl
   subst hf
   have:=GB ok v7 hc;have e:r=(c,0):=abR (r1.symm.trans this);rw [e]
 refine ⟨(UP,18),?_,.inl rfl,fun hf hc=>?_⟩
 · unfold bm
   rw [yU l (by omega),aq,rn,aq,he];rfl
 subst hf
 have:=GB ok v7 hc;have e:r=(c,0):=abR (r1.symm.trans this);rw [he] at e;cases e
theorem BU.bv {c:aH} {f:List Pt} (cj:bG f) {l:List Int} (pm:(gx f).Perm l) {R:bg} (e:R.bv=l) (q:BU c f (bU l) R.jp) (h:Hp (yW f c.ci) l):xn R f c.ci:=by
 have nd:=pm.nodup_iff.1 (fO cj.2.2);refine ⟨⟨q.ok,by rw [q.iE,e];exact pm,?_,?_⟩,q.iE,q.ci⟩
 · rw [e]
   exact DJ (uB q.ok.qZ) (qV nd) (fun x hx=>by obtain ⟨y,hy,rfl⟩:=abI.1 hx;exact q.sub y hy) (fun x hx=>my.1 (q.has x hx))
 rw [e,q.iE,q.ci]
 exact (H5 cj.2.2 (fun x hx=>gN.1 (pm.mem_iff.2 hx)) nd).2 h
noncomputable def wQ (c:aH) (f:List Pt) (l:List Int):bg×Int:=(bm c ⟨f⟩ l).getD (UP,0)
theorem Ed {c:aH} (ok:aU c) {f:List Pt} (cj:bG f) {l:List Int} (pm:(gx f).Perm l):bm c ⟨f⟩ l=aiP (wQ c f l):=by obtain ⟨R,h,_⟩:=DK ok cj pm;unfold wQ;rw [h];rfl
theorem BX {c:aH} (ok:aU c) {f:List Pt} (cj:bG f) {l:List Int} (pm:(gx f).Perm l) (hh:Hp (yW f c.ci) l):
 (wQ c f l=(UP,18)\/(wQ c f l).2=0/\xn (wQ c f l).1 f c.ci/\(wQ c f l).1.bv=l)/\(f=c.ii.am->(c.ai.ce.map fun x=>x.2).Perm (bU l)->wQ c f l=(⟨c,l⟩,0)):=by
 obtain ⟨R,h,k1,k2⟩:=DK ok cj pm;have e:wQ c f l=R:=by unfold wQ;rw [h];rfl
 rw [e];exact ⟨k1.imp id fun ⟨a,b,d⟩=>⟨a,d.bv cj pm b hh,b⟩,k2⟩
theorem Ui {k:bg} (ok:iC k) (p:Pt):(∃e:Int,e≠0/\hM k.jp.ii p=aiP (⟨[]⟩,e)/\nU k p=aiP (UP,e))\/
 ∃m,LL k.jp.ii.am p m/\ ¬gU k.jp.ii.am p.1/\ff p/\aiN k.jp.ii.am<64/\hM k.jp.ii p=aiP (⟨o4 k.jp.ii.am m p⟩,0)/\
  ∃R:bg×Int,nU k p=aiP R/\(R=(UP,18)\/R.2=0/\xn R.1 (o4 k.jp.ii.am m p) k.jp.ci):=by
 have c1:=kJ ok.o8.fit (show (aiN k.bv)<=1000 by have:=ok.bd;omega);rw [lm ok] at c1;have hl:=ok.bd;have cj:=ok.o8.iE;have f1:=cj.1;rcases Gx cj p with ⟨e,e0,t1,_⟩|⟨m,hm,hp,po,dW,t1,_⟩
 · have t1:hM k.jp.ii p=aiP (⟨[]⟩,e):=t1
   refine .inl ⟨e,e0,t1,?_⟩;unfold nU;rw [c1,aq,bo rfl,lc,t1,aq,dL e0,kw]
 have t1:hM k.jp.ii p=aiP (⟨o4 k.jp.ii.am m p⟩,0):=t1;have sG:=abk cj po hm dW;have pin:p∈o4 k.jp.ii.am m p:=Pj.2 (.inl rfl);have L7: ∀x,gU k.jp.ii.am x->aW (o4 k.jp.ii.am m p) x=aW k.jp.ii.am x:=fun x hx=>C5 cj.2.2 sG.2.2 hx (Pj.2 (.inr (uC cj.2.2 hx).1))
 have hn:=ok.len;have pm:(gx (o4 k.jp.ii.am m p)).Perm (k.bv++[p.1]):=by
  have e1:gx (o4 k.jp.ii.am m p)=(gx k.jp.ii.am).take m++p.1::(gx k.jp.ii.am).drop m:=by unfold o4 gx;rw [List.map_append,List.map_cons,List.map_take,List.map_drop]
  rw [e1];refine List.perm_middle.trans ?_;rw [acJ];exact (List.Perm.cons _ ok.perm).trans (List.perm_append_singleton _ _).symm
 have ll:(k.bv++[p.1]).length=aiN k.bv+1:=by rw [AC,ut]
 have lo:jo (o4 k.jp.ii.am m p) (aiN k.bv+1) (k.bv++[p.1]):=⟨ll,by omega,fun y hy=>gN.1 (pm.mem_iff.2 hy),pm.nodup_iff.1 (fO sG.2.2)⟩;have go:=am9 (k:=k) (P:=p) (c0:=p) ⟨ok.o8,sG⟩ ll (R:=wQ k.jp (o4 k.jp.ii.am m p)) (l0:=k.bv++[p.1]) (fun l hl=>Ed ok.o8 sG (pm.trans hl.symm)) (aiN k.bv) (k.bv++[p.1]) (by omega) lo (abM _);have pr:=tu (o4 k.jp.ii.am m p) k.jp.ci (aiN k.bv) (k.bv++[p.1]) (by omega);have ew:ae .i64 (((aiN k.bv+1:Nat):Int) -1)=((aiN k.bv):Int):=by rw [fC ⟨by omega,by omega⟩];omega
 have ap:bI k.bv [p.1]=aiP (k.bv++[p.1]):=cR (by rw [ut];omega);have hh:Hp (yW (o4 k.jp.ii.am m p) k.jp.ci) (jf (o4 k.jp.ii.am m p) k.jp.ci (aiN k.bv) (k.bv++[p.1])):=by
  refine C4 (uD sG.2.2 k.jp.ci) (fun _ _=>aig) _ _ lo.hp ⟨by omega,fun j j1 j2 j3=>?_,fun j j1 j2 j3 j4=>by simp only [par] at j3;omega⟩;have b1:(k.bv++[p.1])[j]! =k.bv[j]!:=by rw [v4,v4,abQ (by omega)]
  have b2:(k.bv++[p.1])[par j]! =k.bv[par j]!:=by rw [v4,v4,abQ (by simp only [par];omega)]
  rw [b1,b2];have hj:=ok.has _ (aL (show j<(aiN k.bv) by omega));have hq:=ok.has _ (aL (show par j<(aiN k.bv) by simp only [par];omega));show¬leads _ _ _;rw [L7 _ hj,L7 _ hq];exact ok.hp j j1 (by omega)
 refine .inr ⟨m,hm,hp,po,dW,t1,_,?_,((BX ok.o8 sG (pm.trans pr.symm) hh).1).imp id fun h=>⟨h.1,h.2.1⟩⟩;unfold nU;simp only [c1,aq,show ((0:Int) !=0)=aiY from rfl,lc,t1,bc (show (aiN k.bv)<=1048576 by omega),ap,beq_self_eq_true,kw,az,ll,ew];exact go
theorem abo {f:List Pt} {q:Nat} (hq:q<aiN f) {p:Pt} (he:(f[q]!).1=p.1):gx (f.set q p)=gx f:=by
 unfold gx;rw [List.map_set,<- he];refine List.ext_getElem? fun j=>?_
 rw [adk];split
 · rename_i h
   subst h;rw [lm (by rw [v6];exact hq),List.getElem?_map,List.getElem?_eq_getElem hq,getElem!_pos _ q hq];rfl
 rfl
theorem LN {k:bg} (ok:iC k) (p:Pt):(∃e:Int,e≠0/\dw k.jp.ii p=aiP (⟨[]⟩,e)/\gK k p=aiP (UP,e))\/
 ∃q,q<aiN k.jp.ii.am/\(k.jp.ii.am[q]!).1=p.1/\ff p/\dw k.jp.ii p=aiP (⟨k.jp.ii.am.set q p⟩,0)/\
  ∃R:bg×Int,gK k p=aiP R/\(R=(UP,18)\/R.2=0/\xn R.1 (k.jp.ii.am.set q p) k.jp.ci)/\(k.jp.ii.am.set q p=k.jp.ii.am->R=(k,0)):=by
 have c1:=kJ ok.o8.fit (show (aiN k.bv)<=1000 by have:=ok.bd;omega);rw [lm ok] at c1;have hl:=ok.bd;have cj:=ok.o8.iE;have f1:=cj.1;rcases BW cj p with ⟨e,e0,t1,_⟩|⟨q,hq,he,po,t1,_⟩
 · have t1:dw k.jp.ii p=aiP (⟨[]⟩,e):=t1
   refine .inl ⟨e,e0,t1,?_⟩;unfold gK;rw [c1,aq,bo rfl,lc,t1,aq,dL e0,kw]
 have t1:dw k.jp.ii p=aiP (⟨k.jp.ii.am.set q p⟩,0):=t1;have sG:=aiT cj po hq he;have L7: ∀x,gU k.jp.ii.am x->x≠p.1->aW (k.jp.ii.am.set q p) x=aW k.jp.ii.am x:=fun x hx dK=>by refine C5 cj.2.2 sG.2.2 hx ?_;obtain ⟨i,hi,rfl⟩:=hx;rw [uA cj.2.2 hi rfl];refine aO.2 ⟨i,by rw [lw];exact hi,?_⟩;rw [bn,ls (fun h=>dK (by rw [h.1];exact he))]
 have hn:=ok.len;have pm:(gx (k.jp.ii.am.set q p)).Perm k.bv:=by rw [abo hq he];exact ok.perm
 have ai0:p.1∈k.bv:=ok.perm.mem_iff.1 (gN.2 ⟨q,hq,he⟩);obtain ⟨a,a1,a2,a3,_⟩:=sP (l:=k.bv) (by omega) ai0;have lo:jo (k.jp.ii.am.set q p) (aiN k.bv) k.bv:=⟨rfl,by omega,fun y hy=>gN.1 (pm.mem_iff.2 hy),pm.nodup_iff.1 (fO sG.2.2)⟩;have go:=am8 (k:=k) (P:=p) ⟨ok.o8,sG⟩ (c0:=k.bv) rfl (R:=wQ k.jp (k.jp.ii.am.set q p)) (l0:=k.bv) (fun l hl=>Ed ok.o8 sG (pm.trans hl.symm)) a k.bv a1 lo (abM _);have pr:=tu (k.jp.ii.am.set q p) k.jp.ci a k.bv a1;have ri:=(Gu (k.jp.ii.am.set q p) k.jp.ci a k.bv a1).1;have pk:=(Gv (k.jp.ii.am.set q p) k.jp.ci _ (jf (k.jp.ii.am.set q p) k.jp.ci a k.bv) (qX (k.jp.ii.am.set q p) k.jp.ci a k.bv) (EQ _) (by rw [pr.length_eq];exact ri)).trans pr
 have Uj: ∀j,j<aiN k.bv->j≠a->k.bv[j]!≠p.1:=fun j hj dK e=>by
  rcases rc j a with c|c|c
  · exact bq.1 ok.nd j a c a1 (e.trans a2.symm)
  · exact dK c
  exact bq.1 ok.nd a j c hj (a2.trans e.symm)
 have hh:=DH (uD sG.2.2 k.jp.ci) (P:=yW (k.jp.ii.am.set q p) k.jp.ci) (fun _ _=>aig) lo.hp a1 (fun j j1 j2 j3 j4=>by
  have q2:par j<(aiN k.bv):=by simp only [par];omega
  show¬leads _ _ _;rw [L7 _ (ok.has _ (aL j2)) (Uj j j2 j3),L7 _ (ok.has _ (aL q2)) (Uj _ q2 j4)];exact ok.hp j j1 j2) (fun j j1 j2 j3 j4=>by
  have q2:par a<(aiN k.bv):=by simp only [par];omega
  have n1:j≠a:=by simp only [par] at j3;omega
  have n2:par a≠a:=by simp only [par];omega
  show¬leads _ _ _;rw [L7 _ (ok.has _ (aL j2)) (Uj j j2 n1),L7 _ (ok.has _ (aL q2)) (Uj _ q2 n2)];have h1:=ok.hp j j1 j2;rw [j3] at h1;exact (uD cj.2.2 k.jp.ci).ntr (ok.has _ (aL j2)) (ok.has _ (aL a1)) (ok.has _ (aL q2)) h1 (ok.hp a j4 a1))
 obtain ⟨s1,s2⟩:=BX ok.o8 sG (pm.trans pk.symm) hh;refine .inr ⟨q,hq,he,po,t1,_,?_,s1.imp id fun h=>⟨h.1,h.2.1⟩,fun hF=>?_⟩
 · unfold gK
   simp only [c1,aq,show ((0:Int) !=0)=aiY from rfl,lc,t1,bc (show (aiN k.bv)<=1048576 by omega),beq_self_eq_true,kw,a3];exact go
 have so:=uD (f:=k.jp.ii.am.set q p) sG.2.2 k.jp.ci
 have e0:Hp (yW (k.jp.ii.am.set q p) k.jp.ci) k.bv:=by rw [hF];exact ok.hp
 obtain ⟨e1,e2⟩:=HZ (f:=k.jp.ii.am.set q p) (t:=k.jp.ci) (l:=k.bv) (i:=a) (fun h0=>e0 a h0 a1);have e3:=H0 so (fun _ _=>aig) (f:=k.jp.ii.am.set q p) (t:=k.jp.ci) (fun j hj=>lo.hp _ (aL hj)) e0 a1;rw [e1,e2,e3] at s2 ⊢;exact s2 hF ok.cert
theorem QW {k:bg} (ok:iC k) (id:Int):(¬gU k.jp.ii.am id/\gd k.jp.ii id=aiP (⟨[]⟩,6)/\iX k id=aiP (UP,6))\/
 ∃q,q<aiN k.jp.ii.am/\(k.jp.ii.am[q]!).1=id/\gd k.jp.ii id=aiP (⟨k.jp.ii.am.eraseIdx q⟩,0)/\
  ∃R:bg×Int,iX k id=aiP R/\(R=(UP,18)\/R.2=0/\xn R.1 (k.jp.ii.am.eraseIdx q) k.jp.ci):=by
 have c1:=kJ ok.o8.fit (show (aiN k.bv)<=1000 by have:=ok.bd;omega);rw [lm ok] at c1;have hl:=ok.bd;have cj:=ok.o8.iE;have f1:=cj.1
 by_cases hid:gU k.jp.ii.am id
 case neg=>obtain ⟨t1,_⟩:=Jv cj hid;have t1:gd k.jp.ii id=aiP (⟨[]⟩,6):=t1;refine .inl ⟨hid,t1,?_⟩;unfold iX;rw [c1,aq,bo rfl,lc,t1];rfl
 have ai0:=ok.perm.mem_iff.1 (gN.2 hid);obtain ⟨q,hq,rfl⟩:=hid;obtain ⟨t1,_⟩:=NI cj hq;have t1:gd k.jp.ii (k.jp.ii.am[q]!).1=aiP (⟨k.jp.ii.am.eraseIdx q⟩,0):=t1;have sG:=Ug cj q;have fl:(k.jp.ii.am.eraseIdx q).length=aiN k.jp.ii.am-1:=Eb hq;have hn:=ok.len;have nd:=ok.nd;have L7: ∀x,gU k.jp.ii.am x->x≠(k.jp.ii.am[q]!).1->aW (k.jp.ii.am.eraseIdx q) x=aW k.jp.ii.am x:=fun x hx dK=>by
  obtain ⟨y1,y2⟩:=uC cj.2.2 hx;exact C5 cj.2.2 sG.2.2 hx ((H4 cj.2.2 hq).2 ⟨y1,by rw [y2];exact dK⟩)
 obtain ⟨a,a1,a2,a3,_⟩:=sP (l:=k.bv) (by omega) ai0;have lst:(aiN k.bv)-1<(aiN k.bv):=by omega
 have ew:ae .i64 (((aiN k.bv):Int) -1)=((aiN k.bv-1:Nat):Int):=sC (by omega) (by omega);have ga:=ar k.bv a a1;have gl:=ar k.bv (aiN k.bv-1) lst;have Uj: ∀j,j<aiN k.bv->j≠a->k.bv[j]!≠(k.jp.ii.am[q]!).1:=fun j hj dK e=>by
  rcases rc j a with c|c|c
  · exact bq.1 ok.nd j a c a1 (e.trans a2.symm)
  · exact dK c
  exact bq.1 ok.nd a j c hj (a2.trans e.symm)
 generalize hL:k.bv.set a k.bv[aiN k.bv-1]! =L;have Ll:(aiN L)=(aiN k.bv):=by rw [<- hL,lw]
 generalize hm:(aiN k.bv)-1=m at*;have em:L=L.take m++[L[m]!]:=by have:=FU (l:=L) (i:=m) (by omega);rw [acH (by omega)] at this;exact this
 have ll:(L.take m).length=m:=by rw [If];omega
 have bl: ∀j,j<m->(L.take m)[j]! =if j=a then k.bv[m]! else k.bv[j]!:=fun j hj=>by
  have:(L.take m)[j]! =L[j]!:=by rw [v4,v4,acr hj]
  rw [this,<- hL,bn]
  by_cases c:j=a
  · rw [lm ⟨c,a1⟩,lm c]
  rw [ls (fun h=>c h.1),ls c]
 have ps:(L.take m++[(k.jp.ii.am[q]!).1]).Perm k.bv:=by
  have e:cq k.bv a m=L.take m++[(k.jp.ii.am[q]!).1]:=by unfold cq;rw [hL,a2,List.set_eq_take_append_cons_drop,lm (by omega),acH (by omega)]
  rw [<- e];exact fo a1 (by omega)
 have pm:(gx (k.jp.ii.am.eraseIdx q)).Perm (L.take m):=by
  refine mw (fO sG.2.2) (fun y hy=>?_) (by rw [ll];show m<=(List.map _ _).length;rw [v6];omega);obtain ⟨p,hp,rfl⟩:=abI.1 hy;obtain ⟨h1,h2⟩:=(H4 cj.2.2 hq).1 hp;have:=ps.mem_iff.2 (ok.perm.mem_iff.1 (abI.2 ⟨p,h1,rfl⟩));rcases ac9.1 this with h|h
  · exact h
  exact absurd (List.mem_singleton.1 h) h2
 have lo:jo (k.jp.ii.am.eraseIdx q) m (L.take m):=⟨ll,by omega,fun y hy=>gN.1 (pm.mem_iff.2 hy),pm.nodup_iff.1 (fO sG.2.2)⟩;have tok:mR k (k.jp.ii.am.eraseIdx q):=⟨ok.o8,sG⟩;have s1:hU L 0 (m:Int)=aiP (L.take m):=lH L m (by omega);have cl:bN k.bv=aiP k.bv:=bc (by omega)
 by_cases ha:a<m
 · have go:=am3 (k:=k) (n0:=aiN k.bv) (x:=L[m]!) tok (c0:=k.bv) (c1:=a) (c2:=k.bv[m]!) (by omega) (R:=wQ k.jp (k.jp.ii.am.eraseIdx q)) (l0:=L.take m) (fun l hl=>Ed ok.o8 sG (pm.trans hl.symm)) a (L.take m) ha lo (abM _)
   rw [<- em] at go;have pr:=tu (k.jp.ii.am.eraseIdx q) k.jp.ci a (L.take m) (by omega);have ri:=(Gu (k.jp.ii.am.eraseIdx q) k.jp.ci a (L.take m) (by omega)).1;have pk:=(Gv (k.jp.ii.am.eraseIdx q) k.jp.ci _ (jf (k.jp.ii.am.eraseIdx q) k.jp.ci a (L.take m)) (qX (k.jp.ii.am.eraseIdx q) k.jp.ci a (L.take m)) (EQ _) (by rw [pr.length_eq];exact ri)).trans pr;have hh:=DH (uD sG.2.2 k.jp.ci) (P:=yW (k.jp.ii.am.eraseIdx q) k.jp.ci) (l:=L.take m) (a:=a) (fun _ _=>aig) lo.hp (by omega) (fun j j1 j2 j3 j4=>by
    rw [ll] at j2;have q2:par j<m:=by simp only [par];omega
    rw [bl j j2,bl _ q2,ls j3,ls j4];show¬leads _ _ _;rw [L7 _ (ok.has _ (aL (by omega))) (Uj j (by omega) j3),L7 _ (ok.has _ (aL (by omega))) (Uj _ (by omega) j4)];exact ok.hp j j1 (by omega)) (fun j j1 j2 j3 j4=>by
    rw [ll] at j2;have q2:par a<m:=by simp only [par];omega
    have n1:j≠a:=by simp only [par] at j3;omega
    have n2:par a≠a:=by simp only [par];omega
    rw [bl j j2,bl _ q2,ls n1,ls n2];show¬leads _ _ _;rw [L7 _ (ok.has _ (aL (by omega))) (Uj j (by omega) n1),L7 _ (ok.has _ (aL (by omega))) (Uj _ (by omega) n2)];have h1:=ok.hp j j1 (by omega);rw [j3] at h1;exact (uD cj.2.2 k.jp.ci).ntr (ok.has _ (aL (by omega))) (ok.has _ (aL a1)) (ok.has _ (aL (by omega))) h1 (ok.hp a j4 a1))
   refine .inr ⟨q,hq,rfl,t1,_,?_,((BX ok.o8 sG (pm.trans pk.symm) hh).1).imp id fun h=>⟨h.1,h.2.1⟩⟩;unfold iX;rw [c1,aq,bo rfl,lc,t1,aq,bo rfl,lc,cl,aq,a3,aq];simp only [az,ew,gl,aq,ga,de,hL,s1,aJ (show (a:Int)<(m:Int) by omega),kw,beq_self_eq_true];rw [show ((m:Nat):Int).toNat=m from ado m,Ll];exact go
 have hh:Hp (yW (k.jp.ii.am.eraseIdx q) k.jp.ci) (L.take m):=fun j j1 j2=>by
  rw [ll] at j2;have q2:par j<m:=by simp only [par];omega
  rw [bl j j2,bl _ q2,ls (by omega),ls (by omega)];show¬leads _ _ _;rw [L7 _ (ok.has _ (aL (by omega))) (Uj j (by omega) (by omega)),L7 _ (ok.has _ (aL (by omega))) (Uj _ (by omega) (by omega))];exact ok.hp j j1 (by omega)
 refine .inr ⟨q,hq,rfl,t1,_,?_,((BX ok.o8 sG pm hh).1).imp id fun h=>⟨h.1,h.2.1⟩⟩;unfold iX;rw [c1,aq,bo rfl,lc,t1,aq,bo rfl,lc,cl,aq,a3,aq];simp only [az,ew,gl,aq,ga,de,hL,s1,aF (show¬(a:Int)<(m:Int) by omega),lc];rw [show ((m:Nat):Int).toNat=m from ado m,Ed ok.o8 sG pm,aq]
section
variable {f : List Pt} {t : Int × Int}
abbrev rN (t:Int×Int) (p q:Pt):Prop:=leads p q t
theorem Uk {f:List Pt} (hs:fu f) (t:Int×Int):SOA (rN t) (fun p=>p∈f) where
 irr:=fun a _ h=>fP h h
 tr:=fun _ _ _ _ _ _ h k=>qW h k
 ntr:=fun a b c ha hb hc h1 h2 h=>by
  by_cases e:b.1=c.1
  · have:b=c:=by rw [<- yV hs hb,<- yV hs hc,e]
    exact h1 (this▸h)
  rcases acQ (leads b c t) with k|k
  · exact h2 k
  exact h1 (qW h (jF t e k))
theorem Ul (hs:fu f) {l:List Pt} (p:l.Perm f) {i j:Nat} (hi:i<aiN l) (hj:j<aiN l) (dK:i≠j):(l[i]!).1≠(l[j]!).1:=by
 have nd:(gx l).Nodup:=(p.map fun x:Pt=>x.1).nodup_iff.2 (fO hs);intro e;have b: ∀k,k<aiN l->(gx l)[k]! =(l[k]!).1:=fun k hk=>by unfold gx;rw [getElem!_pos _ k (by rw [v6];exact hk),agd,getElem!_pos l k hk]
 have ll:(gx l).length=(aiN l):=v6 ..;rcases rc i j with c|c|c
 · exact bq.1 nd i j c (by omega) (by rw [b i hi,b j hj];exact e)
 · exact dK c
 exact bq.1 nd j i c (by omega) (by rw [b i hi,b j hj];exact e.symm)
def i1S (n i j:Nat) (l:List Pt) (t:Int×Int):=((0:Int),(n:Int),(i:Int),(j:Int),l,t.1,t.2)
def i2S (n i:Nat) (l:List Pt) (t:Int×Int):=((0:Int),(n:Int),(i:Int),l,t.1,t.2)
theorem Um (cj:bG f) (r:bA t) (jl:jW t) {n:Nat} (hn:n<=64): ∀(j i:Nat) (l:List Pt),l.Perm f->aiN l=n->j<=i->i<n->
 aB aZ (i1S n i j l t)=aiP (.next (i2S n (i+1) (GY (rN t) j l) t)):=by
 intro j
 induction j with
 |zero=>intro i l p hl hj hi;refine aA ?_;unfold aZ i1S i2S;simp only [aF (show¬(0:Int)<((0:Nat):Int) by omega),lc,aY (show i<1000000000 by omega),GY]
 |succ j ih=>
  intro i l p hl hj hi;have h1:j+1<(aiN l):=by omega
  have h0:j<(aiN l):=by omega
  have m1:=p.mem_iff.1 (aL h1);have m0:=p.mem_iff.1 (aL h0);have ne:=Ul cj.2.2 p h1 h0 (by omega);have ah:dQ l[j+1]! l[j]! (t.1,t.2)=aiP (aiZ (leads l[j+1]! l[j]! t),0):=by
   rcases rG (cj.2.1 _ m1) (cj.2.1 _ m0) jl r with h|⟨h,_⟩
   · rw [show ((t.1,t.2):Int×Int)=t from rfl,h,ls ne]
   exact absurd h ne
  have wp:ae .i64 (((j+1:Nat):Int) -1)=(j:Int):=by rw [fC ⟨by omega,by omega⟩];omega
  have g1:=ar l (j+1) h1;have g0:=ar l j h0;have gs:aE (bz l ((j+1:Nat):Int) l[j]!) (j:Int)=aiP ((bz l ((j+1:Nat):Int) l[j]!)[j]!):=ar _ j (by rw [vF];exact h0);have nb:((l[j+1]!).1==(l[j]!).1)=aiY:=by simpa using ne
  by_cases c:leads l[j+1]! l[j]! t
  · have s1:aZ (i1S n i (j+1) l t)=aiP (.next (i1S n i j (BG l (j+1) j) t)):=by
     unfold aZ i1S;simp only [aJ (show (0:Int)<((j+1:Nat):Int) by omega),kw,wp,g1,g0,aq,nb,lc,ah,aJ c,beq_self_eq_true,gs];simp only [de];rfl
    rw [aM s1];have pm:=(AJ h1 h0).trans p;rw [ih i (BG l (j+1) j) pm (by rw [CQ];exact hl) (by omega) hi]
    conv=>rhs;unfold GY
    rw [lm (show rN t l[j+1]! l[j]! from c)]
  refine aA ?_
  unfold aZ i1S;simp only [aJ (show (0:Int)<((j+1:Nat):Int) by omega),kw,wp,g1,g0,aq,nb,lc,ah,aF c,beq_self_eq_true,aY (show i<1000000000 by omega)];unfold GY;rw [ls (show¬rN t l[j+1]! l[j]! from c)];rfl
theorem QX (cj:bG f) (r:bA t) (jl:jW t) {c0:Int×Int×List Pt×Int×Int} (hc:(aiN c0.2.2.1)=aiN f): ∀(d i:Nat),aiN f-i<=d->i<=aiN f->
 aB (ba c0) (i2S (aiN f) i (yF (rN t) f i) t)=aiP (yF (rN t) f (aiN f),t.1,t.2):=by
 have f1:=cj.1;intro d
 induction d with
 |zero=>
  intro i hd hi;have:i=(aiN f):=by omega
  subst this;have le:=(tf (rN t) f (aiN f) (EQ _)).length_eq;refine aA ?_;unfold ba i2S;simp only [aF (show¬((aiN f):Int)<((aiN f):Int) by omega),lc,le,hc,beq_self_eq_true,kw]
 |succ d ih=>
  intro i hd hi
  by_cases e:i=aiN f
  · exact ih i (by omega) hi
  have pm:=tf (rN t) f i hi
  have s1:ba c0 (i2S (aiN f) i (yF (rN t) f i) t)=aiP (.next (i2S (aiN f) (i+1) (yF (rN t) f (i+1)) t)):=by have:=Um cj r jl f1 i i _ pm pm.length_eq (EQ _) (show i<(aiN f) by omega);unfold ba;show (bif aiZ ((i:Int)<((aiN f):Int)) then _ else _)=_;rw [aJ (show (i:Int)<((aiN f):Int) by omega),kw];exact this
  rw [aM s1];exact ih (i+1) (by omega) (by omega)
theorem Un (s:ByteArray) {n:Nat} (h:n<=12) (hs:12<s.size): ∃r,rL s (n:Int)=aiP r:=by show∃r,(s[n]?.map fun b=>(b.toNat:Int))=aiP r;rw [getElem?_pos s n (show n<s.size by omega)];exact ⟨_,rfl⟩
set_option maxRecDepth 100000 in
theorem am' {n:Nat} (h:n<=12): ∃r,qk (n:Int)=aiP r:=by
 unfold qk rC;rw [aF (show¬4294967296<=(n:Int) by omega),lc,aF (show¬65536<=(n:Int) by omega),lc,aF (show¬256<=(n:Int) by omega),lc];have w8:ae .u8 (n:Int)=(n:Int):=by
  have:n=0\/n=1\/n=2\/n=3\/n=4\/n=5\/n=6\/n=7\/n=8\/n=9\/n=10\/n=11\/n=12:=by omega
  rcases this with rfl|rfl|rfl|rfl|rfl|rfl|rfl|rfl|rfl|rfl|rfl|rfl|rfl<;>rfl
 have key: ∀s:ByteArray,12<s.size-> ∃r,((rL s (ae .u8 (n:Int))).bind fun n7=>aiP (ae .i64 (0+ae .i64 n7))).bind (fun n0=>aiP n0)=aiP r:=fun s h12=>by obtain ⟨r,e⟩:=Un s h h12;rw [w8,e];exact ⟨_,rfl⟩
 exact key _ (by decide)
theorem DX (cj:bG f) (r:bA t) (jl:jW t) (h12:(aiN f)<=12): ∃L:List Pt,sB ⟨f⟩ t=aiP (L,0)/\L.Perm f/\Nl (rN t) L (aiN f):=by
 have f1:=cj.1;obtain ⟨m,hm⟩:=am' h12;have pm:=tf (rN t) f (aiN f) (EQ _);refine ⟨yF (rN t) f (aiN f),?_,pm,FV (Uk cj.2.2 t) (fun x hx=>hx) _ (EQ _)⟩;have ins:bL (0,((aiN f):Int),f,t.1,t.2)=aiP (yF (rN t) f (aiN f),t.1,t.2):=by
  unfold bL
  by_cases h0:(aiN f)=0
  · obtain rfl:f=[]:=abK.1 h0
    refine aA ?_;unfold ba;rfl
  refine Eq.trans ?_ (QX cj r jl (c0:=(0,((aiN f):Int),f,t.1,t.2)) rfl (aiN f) 1 (by omega) (by omega))
  have:yF (rN t) f 1=f:=rfl;rw [this];rfl
 have pdq:bV (0,((aiN f):Int),m,f,t.1,t.2)=aiP (yF (rN t) f (aiN f),t.1,t.2):=by show cM (bD 999999) _=_;unfold cM;refine aA ?_;unfold ez;simp only [show ae .i64 (((aiN f):Int) -0)=((aiN f):Int) by rw [fC ⟨by omega,by omega⟩];omega,aJ (show ((aiN f):Int)<=12 by omega),kw,ins,aq,pm.length_eq,beq_self_eq_true]
 have hc:cU ⟨f⟩=aiP 0:=by rw [eN];exact congrArg aiP (dj.2 cj)
 have ck:eI t=aiP 0:=by rw [dD jl,lm r]
 have wl:ae .u64 (abV (aiN f))=((aiN f):Int):=by show (abV (Nat.mod (aiN f) 18446744073709551616))=_;rw [show Nat.mod (aiN f) 18446744073709551616=(aiN f) from Nat.mod_eq_of_lt (by omega)];rfl
 unfold sB dJ;simp only [hc,aq,show ((0:Int) !=0)=aiY from rfl,lc,ck,bc (show (aiN f)<=1048576 by omega),wl,hm];rw [show bV (0,abV (aiN f),m,f,t)=_ from pdq];simp only [aq,pm.length_eq,beq_self_eq_true,kw]
theorem xG (cj:bG f) (r:bA t) (jl:jW t) (h12:(aiN f)<=12):(f=[]/\mI ⟨f⟩ t=aiP (0,42))\/
 ∃p,p∈f/\(∀q∈f,¬leads q p t)/\mI ⟨f⟩ t=aiP (p.1,0):=by
 obtain ⟨L,h1,h2,h3⟩:=DX cj r jl h12;have le:=h2.length_eq;unfold mI;rw [h1,aq,show ((0:Int) !=0)=aiY from rfl,lc]
 by_cases h0:(aiN f)=0
 · obtain rfl:f=[]:=abK.1 h0
   obtain rfl:L=[]:=abK.1 le;exact .inl ⟨rfl,rfl⟩
 have hl:0<(aiN L):=by omega
 right;refine ⟨L[0]!,h2.mem_iff.1 (aL hl),fun q hq=>?_,?_⟩
 · obtain ⟨i,hi,rfl⟩:=aO.1 (h2.mem_iff.2 hq)
   by_cases c:i=0
   · subst c;exact fun h=>fP h h
   exact h3 0 i (by omega) (by omega)
 rw [show ((abV (aiN L)==0):Bool)=aiY by simp only [az,beq_eq_false_iff_ne];omega,lc,ar L 0 hl|>(fun h=>(h:aE L 0=aiP L[0]!)),aq]
end
def GC (c:aH) (to:Int×Int):Prop:=0<aiN c.aa.bv/\iB (Ev.at c.aa.bv[0]!) to<=0
theorem BY {c:aH} (ok:aU c) {to:Int×Int} (rt:bA to) (jl:jW to) (le: ¬iB to c.ci<0):qQ c to=aiP (aiZ (GC c to),0):=by
 unfold qQ;rw [kI ok.fit,lm ok,aq,dD jl,lm rt,aq,bo (by decide),lc,CR jl ok.fT,lm ⟨rt,ok.jk⟩,aq,aF le,lc];unfold AI;rw [jr _ ok.fit.ag,lm ok.lI,aq,bo rfl,lc]
 by_cases h:0<aiN c.aa.bv
 · have ev:=ok.lI.ev 0 h
   have g:=ar c.aa.bv 0 h;rw [show ((0:Nat):Int)=0 from rfl] at g;rw [dM (by rw [az];omega),lc,g,aq,aq,bo rfl,lc,CR ev.2.1 jl,lm ⟨ev.1,rt⟩,aq]
   congr 2
   by_cases h2:iB (Ev.at c.aa.bv[0]!) to<=0
   · rw [aJ (show GC c to from ⟨h,h2⟩),aJ h2]
   rw [aF (fun k:GC c to=>h2 k.2),aF h2]
 rw [cV (by rw [az];omega),kw,aq,aF (fun k:GC c to=>h k.1)]
 rfl
theorem LO {c:bj} (ok:eE c) {i:Nat} (hi:i<aiN c.ce):FO c (c.ce[i]!).1=aiP (i:Int):=by
 have hl:=ok.len;have k:=jE (body:=ug) (fun j=>((c.ce[i]!).1,(j:Int),c.aK,c.ce)) (aiN c.ce) (fun j=>(c.ce[j]!).1=(c.ce[i]!).1) (fun j=>(j:Int)) (e:= -1) (fun j hj=>by
  unfold ug;simp only [az,aJ (show (j:Int)<((aiN c.ce):Int) by omega),kw,ar c.ce j hj,aq,aY (show j<1000000000 by omega)];refine ⟨fun h=>?_,fun h=>?_⟩
  · rw [cV h];rfl
  · rw [dM h];rfl) (by
  unfold ug;simp only [az,aF (show¬((aiN c.ce):Int)<((aiN c.ce):Int) by omega),lc])
 exact k.1 i hi rfl fun j hj e=>by have:=ok.up j i hj hi;omega
abbrev atT (c:aH) (t:Int×Int):aH:=⟨t,c.ii,c.ai,c.aa,c.io⟩
theorem Uo {c:aH} (ok:aU c) {to:Int×Int} (rt:bA to) (jl:jW to) (le: ¬iB to c.ci<0) (io:GC c to):
 ∃(x:Int×Int) (c1:aH),mj c to=aiP (c1,c.aa.bv[0]!,x,0)/\sj c=aiP (c1,c.aa.bv[0]!,x)/\aU c1/\c1.ii=c.ii/\jd c.ii.am x/\oa c1=oa c+1/\c1.ci=Ev.at c.aa.bv[0]!:=by
 obtain ⟨i,c',hi,num,r1,r2,xO,hf,hc,_⟩:=Gs ok io.1;have g:=ar c.aa.bv 0 io.1;rw [show ((0:Nat):Int)=0 from rfl] at g;have zK:(aiN c'.ai.ce)=aiN c.ai.ce-1:=by rw [hc];exact ab0 hi
 have hcn:c'.ai.aK=c.ai.aK:=by rw [hc];rfl
 refine ⟨(c.ai.ce[i]!).2,atT c' (Ev.at c.aa.bv[0]!),?_,?_,xO,hf,ok.known i hi,?_,rfl⟩
 · unfold mj
   rw [BY ok rt jl le,aq,cV rfl,kw,aJ io,Do,lc,bo rfl,lc,g,aq,r1,aq,bo rfl,lc]
 · unfold sj
   rw [g,aq,show (c.aa.bv[0]!).2.2.1=(c.ai.ce[i]!).1 from num.symm,LO ok.qZ hi,aq,ar c.ai.ce i hi,aq,num,r2,aq]
 unfold oa
 show c'.ai.aK- ((aiN c'.ai.ce):Int)=_;rw [zK,hcn];omega
theorem Uq {c:aH} (ok:aU c) {to:Int×Int} (rt:bA to) (jl:jW to) (le: ¬iB to c.ci<0) (io: ¬GC c to):mj c to=aiP (dI,(0,0,0,0,0),(0,0),6):=by unfold mj;rw [BY ok rt jl le,aq,cV rfl,kw,aF io];rfl
theorem abp {c:aH} (ok:aU c) {to:Int×Int} (rt:bA to) (jl:jW to) (le: ¬iB to c.ci<0) (io: ¬GC c to):wY c to=aiP (atT c to,0):=by unfold wY;rw [BY ok rt jl le,aq,cV rfl,kw,aF io,lc,bo rfl,lc,gM ok,aq]
theorem QY {c:aH} (ok:aU c) (l:List Int) {to:Int×Int} (rt:bA to) (jl:jW to) (le: ¬iB to c.ci<0) (io: ¬GC c to):fM ⟨c,l⟩ to=aiP (⟨dI,[]⟩,(0,0),6):=by unfold fM;rw [Uq ok rt jl le io,aq];rfl
def aP (c:aH) (l:List Int) (to:Int×Int) (out:List (Int×Int)):=
 (c.ci.1,c.ci.2,c.ii.am,c.ai.aK,c.ai.ce,c.aa.af.ay,c.aa.af.be,c.aa.af.bi,c.aa.bv,c.aa.aj,c.io,l,to.1,to.2,(0:Int),(0:Int),(0:Int),out)
theorem Jw {c:aH} (ok:aU c): -200<=oa c/\oa c<=1000000:=by have h1:=ok.qZ.len;have h2:=ok.qZ.n0;have h3:=ok.qZ.n1;unfold oa;omega
structure tK (c:aH) (m k:Nat):Prop where
 l:(aiN c.ai.ce)<=m
 n:c.ai.aK<=k
 u: ∀j,j<aiN c.aa.af.ay->c.aa.af.ay[j]!<=k
theorem tK.Gp {c:aH} (ok:aU c) {m k:Nat} (h:tK c m k) (hm:m<=199) (hk:k<=999999): ¬(z7 c.ai\/ ¬vP c.aa.af):=by
 obtain ⟨h1,h2,h3⟩:=h;have fl:=ok.yP.len;have hd:=ok.hd;have hl:=ok.lI.hl;have wl:=ok.lI.wl;have w2:=ok.C0;rintro (h|h)
 · rcases h with h|h<;>omega
 refine h ⟨by omega,?_⟩
 have:=h3 _ (xd ok.lI.so (by omega)).1;omega
theorem tK.more {c c':aH} {m k:Nat} (h:tK c m k) {x:Int×Int} (hc:c'.ai=nj c.ai x) (hs:c'.aa.af=c.aa.af\/c'.aa.af=gD c.aa.af):tK c' (m+1) (k+1):=by
 obtain ⟨h1,h2,h3⟩:=h;refine ⟨?_,?_,fun j hj=>?_⟩
 · rw [hc]
   show (c.ai.ce++[(c.ai.aK,x)]).length<=_;rw [AC,ut];omega
 · rw [hc]
   show c.ai.aK+1<=_;omega
 rcases hs with e|e
 · rw [e] at hj ⊢
   have:=h3 j hj;omega
 rw [e] at hj ⊢
 change j<(c.aa.af.ay.set _ _).length at hj;rw [lw] at hj;show (c.aa.af.ay.set (cW c.aa.af) (c.aa.af.ay[cW c.aa.af]!+1))[j]!<=_;rw [bn];split
 · rename_i h;have:=h3 _ h.2;omega
 have:=h3 j hj;omega
theorem DL {c:aH} (ok:aU c) {i:Nat} (hi:i<aiN c.ai.ce) {c':aH} {x:Int×Int} (h:hZ c (c.ai.ce[i]!).1=aiP (c',x,0)):c'.aa.af.ay=c.aa.af.ay:=by
 have bd:=ok.bd;have rm:=yO ok.qZ hi (n:=(c.ai.ce[i]!).1) rfl;have fe:=ok.yP.erase (i:=i) hi;have pd:=C2 ok.C1 (by omega) (c.ai.ce[i]!).1;cases hf:(bB c.ii.am (c.ai.ce[i]!).2 c.ci).2 with
 |false=>
  have no: ∀k,k<aiN c.io->(c.io[k]!).1≠(c.ai.ce[i]!).1:=by
   intro k hk he;obtain ⟨x,hx,h1,h2,_⟩:=ok.yP.io _ (aL hk);obtain ⟨j,hj,rfl⟩:=aO.1 hx;have ub:=qp.1 ok.pS;have:j=i:=by
    rcases rc j i with h|h|h
    · have:=ub j i h hi;omega
    · exact h
    have:=ub i j h hj;omega
   rw [this,hf] at h2;cases h2
  obtain ⟨m,e⟩:=pd.2 no;unfold hZ at h;simp only [rm,aq,show ((0:Int) !=0)=aiY from rfl,lc,gM ok,e] at h;injection h with h;injection h with h _;rw [<- h]
 |true=>
  obtain ⟨k,hk,k1,k2,k3⟩:=fe.2 hf;obtain ⟨w,hw,gW⟩:=aO.1 k2;have hh:(c.aa.bv[w]!).2.2.2=(c.io[k]!).2:=by rw [gW]
  obtain ⟨L,d1,d2⟩:=uz c.io k hk;unfold hZ at h;simp only [rm,aq,show ((0:Int) !=0)=aiY from rfl,lc,gM ok,pd.1 k hk k1,kw,ar c.io k hk,pQ ok.lI hw ok.lI.fit hh,aY (show k<1000000000 by omega),Gi,d1,d2] at h;injection h with h;injection h with h _;rw [<- h];show (dP c.aa w).af.ay=_;have h3:(dP c.aa w).af=fE c.aa.af (c.aa.bv[w]!).2.2.2:=by unfold dP;split<;>rfl
  rw [h3];rfl
theorem abq {c0:aH} (ok0:aU c0) {f:List Pt} {es:List (Int×Int)} (v7:qq f es) {k:Nat}:
 ∀(d i:Nat) (c:aH),aiN c0.ai.ce-i<=d->i<=aiN c0.ai.ce->aU c->(∀x∈c0.ai.ce.drop i,x∈c.ai.ce)->(∀x∈c.ai.ce,x∈c0.ai.ce.drop i\/x.2∈es)->tK c (aiN es) k\/tK c 100 k->
  c.ii=c0.ii->c.ci=c0.ci->tK c 100 k->
  ∃c':aH,aB bE (kP c0 f es i c)=aB bE (kP c0 f es (aiN c0.ai.ce) c')/\aU c'/\(∀x∈c'.ai.ce,x.2∈es)/\c'.ii=c0.ii/\tK c' 100 k/\c'.ci=c0.ci:=by
 have bd:=ok0.bd;intro d
 induction d with
 |zero=>
  intro i c hd hi ok h1 h2 _ hf hn hr;have:i=(aiN c0.ai.ce):=by omega
  subst this;refine ⟨c,rfl,ok,fun x hx=>?_,hf,hr,hn⟩;rcases h2 x hx with h|h
  · rw [acB] at h;cases h
  exact h
 |succ d ih=>
  intro i c hd hi ok h1 h2 _ hf hn hr
  by_cases he:i=aiN c0.ai.ce
  · subst he
    refine ⟨c,rfl,ok,fun x hx=>?_,hf,hr,hn⟩;rcases h2 x hx with h|h
    · rw [acB] at h;cases h
    exact h
  have qY:i<(aiN c0.ai.ce):=by omega
  have e1:aiZ ((i:Int)<((aiN c0.ai.ce):Int))=aiS:=aJ (by omega);have sc:=aY (show i<1000000000 by omega);have cg:=ar c0.ai.ce i qY;have dr:=pR qY;have je:(aH.mk (c.ci.1,c.ci.2) (Field.mk c.ii.am) (bj.mk c.ai.aK c.ai.ce) (aI.mk (aQ.mk c.aa.af.ay c.aa.af.be c.aa.af.bi) c.aa.bv c.aa.aj) c.io)=c:=rfl
  by_cases rq:(c0.ai.ce[i]!).2∈es
  · have s1:bE (kP c0 f es i c)=aiP (.next (kP c0 f es (i+1) c)):=by
     unfold bE kP;simp only [e1,kw,cg,aq,iL _ _ v7.len,aJ rq,Do,lc,sc]
    rw [aM s1];refine ih (i+1) c (by omega) (by omega) ok (fun x hx=>h1 x (by rw [dr];exact abP _ hx)) (fun x hx=>?_) (.inr hr) hf hn hr;rcases h2 x hx with h|h
    · rw [dr] at h
      rcases abX.1 h with rfl|h
      · exact .inr rq
      exact .inl h
    exact .inr h
  have hm:=h1 (c0.ai.ce[i]!) (by rw [dr];exact ack)
  obtain ⟨m,OC,Mj⟩:=aO.1 hm;obtain ⟨c',r1,r2,r3,r4,r5,r6⟩:=NC ok OC;have ru:=DL ok OC r1;have rt:=xF ok OC r1;rw [Mj] at rt;have s1:bE (kP c0 f es i c)=aiP (.next (kP c0 f es (i+1) c')):=by unfold bE kP;simp only [e1,kw,cg,aq,iL _ _ v7.len,aF rq,abJ,sc,je,rt]
  rw [aM s1];have cl:c'.ai.ce=c.ai.ce.eraseIdx m:=by rw [r6];rfl
  have UL:tK c' 100 k:=⟨by rw [cl,ab0 OC];have:=hr.l;omega,by rw [r6];exact hr.n,by rw [ru];exact hr.u⟩;refine ih (i+1) c' (by omega) (by omega) r3 (fun x hx=>?_) (fun x hx=>?_) (.inr UL) (r4.trans hf) (r5.trans hn) UL
  · rw [cl]
    refine HX (h1 x (by rw [dr];exact abP _ hx)) ?_;rw [Mj];exact xl ok0 hx qY
  rw [cl] at hx
  obtain ⟨a1,a2⟩:=oT ok.pS OC hx;rw [Mj] at a2;rcases h2 x a1 with h|h
  · rw [dr] at h
    rcases abX.1 h with rfl|h
    · exact absurd rfl a2
    exact .inl h
  exact .inr h
theorem abr {f:List Pt} {es:List (Int×Int)} (v7:qq f es) (hes:(aiN es)<=90):
 ∀(d i:Nat) (c:aH) (k:Nat),aiN es-i<=d->i<=aiN es->aU c->c.ii.am=f->tK c (100+i) k->k+(aiN es-i)<=999999->
  ∃r:aH,aB bR (eP es i c)=aiP (.done (r,0))/\ ∃k',k'<=k+(aiN es-i)/\tK r 190 k':=by
 have el:=v7.len;intro d
 induction d with
 |zero=>
  intro i c k hd hi ok hf hr hk;have:i=(aiN es):=by omega
  subst this;refine ⟨c,aA ?_,k,by omega,⟨by have:=hr.l;omega,hr.n,hr.u⟩⟩;unfold bR eP;simp only [aF (show¬((aiN es):Int)<((aiN es):Int) by omega),lc]
 |succ d ih=>
  intro i c k hd hi ok hf hr hk
  by_cases he:i=aiN es
  · exact ih i c k (by omega) hi ok hf hr hk
  have bd:=ok.bd;have qY:i<(aiN es):=by omega
  have e1:aiZ ((i:Int)<((aiN es):Int))=aiS:=aJ (by omega);have sc:=aY (show i<1000000000 by omega);have cg:=ar es i qY;have je:(aH.mk (c.ci.1,c.ci.2) (Field.mk c.ii.am) (bj.mk c.ai.aK c.ai.ce) (aI.mk (aQ.mk c.aa.af.ay c.aa.af.be c.aa.af.bi) c.aa.bv c.aa.aj) c.io)=c:=rfl;have hc:=BQ c.ai.ce es[i]! (by omega)
  by_cases rq:rF c.ai.ce es[i]!
  · have s1:bR (eP es i c)=aiP (.next (eP es (i+1) c)):=by
     unfold bR eP;simp only [e1,kw,cg,aq,sO,hc,aJ rq,sc]
    rw [aM s1];obtain ⟨r,q1,k',q2,q3⟩:=ih (i+1) c k (by omega) (by omega) ok hf ⟨by have:=hr.l;omega,hr.n,hr.u⟩ (by omega);exact ⟨r,q1,k',by omega,q3⟩
  have hb:jd c.ii.am es[i]!:=by rw [hf];exact v7.kn _ (aL qY)
  rcases Pb ok (v7.cv _ (aL qY)) hb rq with ⟨_,_,full⟩|⟨c',r1,_,r3,r4,r5,r6,r7⟩
  · exact absurd full (hr.Gp ok (by omega) (by omega))
  have s1:bR (eP es i c)=aiP (.next (eP es (i+1) c')):=by
   unfold bR eP;simp only [e1,kw,cg,aq,sO,hc,aF rq,lc,je,r1,show ((0:Int) !=0)=aiY from rfl,sc]
  rw [aM s1];obtain ⟨r,q1,k',q2,q3⟩:=ih (i+1) c' (k+1) (by omega) (by omega) r3 (by rw [r4,hf]) ((hr.more r6 r7)) (by omega);exact ⟨r,q1,k',by omega,q3⟩
theorem GD {c:aH} (ok:aU c) {es:List (Int×Int)} (v7:qq c.ii.am es) (hes:(aiN es)<=90) {k:Nat} (hr:tK c 100 k) (hk:k+aiN es<=999999):
 ∃r:aH,dZ c c.ii es=aiP (r,0)/\ ∃k',k'<=k+aiN es/\tK r 190 k':=by
 have bd:=ok.bd;have f1:=ok.iE.1;obtain ⟨c',g1,g2,g3,g4,g5,_⟩:=abq (f:=c.ii.am) ok v7 (k:=k) (aiN c.ai.ce) 0 c (by omega) (by omega) ok (fun x hx=>by rwa [aiD] at hx) (fun x hx=> .inl (by rwa [aiD])) (.inr hr) rfl rfl hr;obtain ⟨r,q1,k',q2,q3⟩:=abr (f:=c.ii.am) v7 hes (aiN es) 0 c' k (by omega) (by omega) g2 (by rw [g4]) g5 (by omega);refine ⟨r,?_,k',by omega,q3⟩;refine (show dZ c c.ii es=_ from g1).trans (aA ?_);unfold bE kP;simp only [aF (show¬((aiN c.ai.ce):Int)<((aiN c.ai.ce):Int) by omega),lc,g4,sF c.ii.am c.ii.am (by omega),aq,Do,decide_true];have q1:=q1;unfold eP at q1;rw [g4] at q1;exact q1
theorem H6 {c:aH} (ok:aU c) {to:Int×Int} (rt:bA to) (io: ¬GC c to) {y:qT} (hy:y∈c.ai.ce) (is:(bB c.ii.am y.2 c.ci).2=aiS):
 to.1*(bB c.ii.am y.2 c.ci).1.2<(bB c.ii.am y.2 c.ci).1.1*to.2:=by
 obtain ⟨d,hd,_,ev⟩:=ok.yP.has _ hy is;obtain ⟨v,hv,he⟩:=aO.1 ev;have tl:=HY ok.lI v hv;have h0:0<(aiN c.aa.bv):=by omega
 have e0:=(ok.lI.ev 0 h0).1.1;have ev':=(ok.lI.ev v hv).1.1;rw [he] at tl ev';have n1: ¬iB (bB c.ii.am y.2 c.ci).1 (Ev.at c.aa.bv[0]!)<0:=fun q=>tl (.inl q)
 rw [sD] at n1;have n2: ¬iB (Ev.at c.aa.bv[0]!) to<=0:=fun q=>io ⟨h0,q⟩
 have n3:to.1*(Ev.at c.aa.bv[0]!).2<(Ev.at c.aa.bv[0]!).1*to.2:=by unfold iB at n2;rcases dR ((Ev.at c.aa.bv[0]!).1*to.2) (to.1*(Ev.at c.aa.bv[0]!).2) with ⟨a,b⟩|⟨a,b⟩|⟨a,b⟩<;>omega
 exact z0 rt.1 e0 ev' n3 (aiA.1 n1)
theorem Ur {c:aH} (ok:aU c) {to:Int×Int} (rt:bA to) (jl:jW to) (le: ¬iB to c.ci<0) (io: ¬GC c to):aU (atT c to):=by
 have pt:=fun (x:Int×Int) (hb:jd c.ii.am x)=>And.intro (eu ok.iE hb.2).1 (eu ok.iE hb.1).1
 refine ⟨rt,jl,ok.iE,ok.qZ,ok.lI,ok.C0,ok.hd,ok.known,?_⟩;refine aV.time (t:=c.ci) (fun y hy=>?_) ok.yP;obtain ⟨j,hj,rfl⟩:=aO.1 hy;have hb:=ok.known j hj;refine AS (pt _ hb).1 (pt _ hb).2 ok.jk rt (by rw [sD] at le;exact aiA.1 le) (fun is=>?_);exact acV (H6 ok rt io hy is)
theorem Us {h l:Pt} {t t':Int×Int} (hh:ff h) (hl:ff l) (r:bA t) (r':bA t') (le:t.1*t'.2<=t'.1*t.2) (nf:(jU h l t).2=aiS->t'.1*(jU h l t).1.2<(jU h l t).1.1*t'.2): ¬leads l h t':=by
 have mv:=AS hh hl r r' le (fun is=>acV (nf is));intro hn;have e:jU h l t'=(t',aiS):=by unfold jU;rw [lm hn]
 rw [e] at mv;have:=nf (by rw [<- mv]);rw [<- mv] at this;dsimp only at this;omega
theorem H7 {α:Type} [BEq α] [LawfulBEq α]: ∀{a b:List α},a.Nodup->(∀x∈a,x∈b)->aiN a<=aiN b
 | [],_,_,_=>M2 _
 |x::a,b,hd,h=>by rw [ai1] at hd;have hx:=h x ack;have:=H7 (a:=a) (b:=b.erase x) hd.2 (fun y hy=>by rw [acP (fun e=>hd.1 (by rw [<- e];exact hy))];exact h y (abP _ hy));rw [acx hx] at this;have:=acD hx;rw [IR];omega
theorem NL {α:Type} [BEq α] [LawfulBEq α] {a b:List α} (ha:a.Nodup) (hb:b.Nodup) (h1: ∀x∈a,x∈b) (h2: ∀x∈b,x∈a):a.Perm b:=mw ha h1 (H7 hb h2)
structure GF (c:aH) (l:List Int):Prop where
 ok:aU c
 pm:(gx c.ii.am).Perm l
 ct:(c.ai.ce.map fun x=>x.2).Perm (bU l)
theorem GF.bd {c:aH} {l:List Int} (h:GF c l):(aiN l)<=64:=by
 have:=h.ok.bd;have:(aiN l)=(aiN c.ii.am):=by rw [<- h.pm.length_eq];exact v6 ..
 omega
noncomputable abbrev NM (to:Int×Int) (c:aH) (l:List Int) (out:List (Int×Int)):=aB kE (aP c l to out)
abbrev ana:bg×List (Int×Int)×Int:=(⟨dI,[]⟩,[],18)
theorem Pk {c c2:aH} {l l2:List Int} {to x:Int×Int} {out:List (Int×Int)} (ev:fM ⟨c,l⟩ to=aiP (⟨c2,l2⟩,x,0)) (ol:(aiN out)+1<=1048576):NM to c l out=NM to c2 l2 (out++[x]):=by
 have je:(aH.mk (c.ci.1,c.ci.2) (Field.mk c.ii.am) (bj.mk c.ai.aK c.ai.ce) (aI.mk (aQ.mk c.aa.af.ay c.aa.af.be c.aa.af.bi) c.aa.bv c.aa.aj) c.io)=c:=rfl;have ap:bI out [x]=aiP (out++[x]):=cR (by rw [ut];omega);refine aM ?_;unfold kE aP;simp only [je,show ((to.1,to.2):Int×Int)=to from rfl,ev,aq,show ((0:Int)==6)=aiY from rfl,lc,show ((0:Int) !=0)=aiY from rfl,ap]
theorem LQ {c:aH} {l l2:List Int} {to x:Int×Int} (out:List (Int×Int)) (ev:fM ⟨c,l⟩ to=aiP (⟨dI,l2⟩,x,18)):NM to c l out=aiP ana:=by have je:(aH.mk (c.ci.1,c.ci.2) (Field.mk c.ii.am) (bj.mk c.ai.aK c.ai.ce) (aI.mk (aQ.mk c.aa.af.ay c.aa.af.be c.aa.af.bi) c.aa.bv c.aa.aj) c.io)=c:=rfl;refine aA ?_;unfold kE aP;simp only [je,show ((to.1,to.2):Int×Int)=to from rfl,ev,aq,show ((18:Int)==6)=aiY from rfl,lc,show ((18:Int) !=0)=aiS from rfl,kw]
theorem step_end {c:aH} (ok:aU c) {l:List Int} (hl:(aiN l)<=1000) {to:Int×Int} (rt:bA to) (jl:jW to) (le: ¬iB to c.ci<0) (io: ¬GC c to) (out:List (Int×Int)):NM to c l out=aiP (⟨atT c to,l⟩,out,0):=by
 have je:(aH.mk (c.ci.1,c.ci.2) (Field.mk c.ii.am) (bj.mk c.ai.aK c.ai.ce) (aI.mk (aQ.mk c.aa.af.ay c.aa.af.be c.aa.af.bi) c.aa.bv c.aa.aj) c.io)=c:=rfl;refine aA ?_;unfold kE aP;simp only [je,show ((to.1,to.2):Int×Int)=to from rfl,QY ok l rt jl le io,aq,show ((6:Int)==6)=aiS from rfl,kw,abp ok rt jl le io,bc (show (aiN l)<=1048576 by omega)]
theorem Pm {a b:Int×Int}: ¬iB a b<0↔b.1*a.2<=a.1*b.2:=by rw [sD];omega
theorem abt {a b:Int×Int}:iB a b<=0↔a.1*b.2<=b.1*a.2:=by unfold iB;rcases dR (a.1*b.2) (b.1*a.2) with ⟨x,y⟩|⟨x,y⟩|⟨x,y⟩<;>omega
theorem GC.more {c:aH} (ok:aU c) {s t:Int×Int} (rs:bA s) (rt:bA t) (st: ¬iB t s<0) (h:GC c s):GC c t:=by refine ⟨h.1,?_⟩;have e0:=(ok.lI.ev 0 h.1).1.1;have h2:=h.2;rw [abt] at*;rw [Pm] at st;exact F4 e0 rs.1 rt.1 h2 st
theorem Jx {p q:Pt} (t:Int×Int) (h:p.1≠q.1) (hn: ¬leads p q t):leads q p t:=by unfold leads at*;rw [zD,acK,acK] at*;generalize p.2.1*t.2=a at*;generalize p.2.2*t.1=b at*;generalize q.2.1*t.2=c at*;generalize q.2.2*t.1=d at*;omega
section
variable {s t : Int × Int}
theorem Pn {c:aH} {l:List Int} (h:GF c l) (rs:bA s) (s64:jW s) (le: ¬iB s c.ci<0) (io: ¬GC c s):iC ⟨atT c s,l⟩:=by
 have ok:=h.ok;have nd:=h.pm.nodup_iff.1 (fO ok.iE.2.2);refine ⟨Ur ok rs s64 le io,h.pm,h.ct,fun e he=>?_⟩;obtain ⟨j,hj,hx⟩:=my.2 (h.ct.mem_iff.2 he);have hb:=ok.known j hj;rw [hx] at hb;have p2:=eu ok.iE hb.2;have p1:=eu ok.iE hb.1;have nl: ¬leads (aW c.ii.am e.1) (aW c.ii.am e.2) s:=by
  refine Us p2.1 p1.1 ok.jk rs (by rw [Pm] at le;exact le) fun is=>?_
  have:=H6 ok rs io (aL hj);rw [hx] at this;exact this is
 exact Jx s (by rw [p1.2,p2.2];exact LG nd he) nl
end
def gg:Nat->(Nat->Nat)->Nat
 |0,_=>0
 |n+1,F=>gg n F+F n
theorem Ee: ∀{n:Nat} {F G:Nat->Nat},(∀i,i<n->F i<=G i)->gg n F<=gg n G
 |0,_,_,_=>EQ _
 |n+1,F,G,h=>Nat.add_le_add (Ee fun i hi=>h i (by omega)) (h n (by omega))
theorem xo: ∀{n:Nat} {F G:Nat->Nat},(∀i,i<n->F i=G i)->gg n F=gg n G
 |0,_,_,_=>rfl
 |n+1,F,G,h=>by show gg n F+F n=gg n G+G n;rw [xo fun i hi=>h i (by omega),h n (by omega)]
theorem vY: ∀(n:Nat) (F G:Nat->Nat),gg n (fun i=>F i+G i)=gg n F+gg n G
 |0,_,_=>rfl
 |n+1,F,G=>by show gg n _+(F n+G n)=(gg n F+F n)+(gg n G+G n);rw [vY n F G];omega
theorem BZ: ∀(n:Nat) (a:Nat) (F:Nat->Nat),gg n (fun i=>a*F i)=a*gg n F
 |0,_,_=>rfl
 |n+1,a,F=>by show gg n _+a*F n=a*(gg n F+F n);rw [BZ n a F,Nat.mul_add]
theorem H8: ∀(n:Nat),gg n (fun _=>0)=0
 |0=>rfl
 |n+1=>H8 n
theorem H9 (m:Nat): ∀(n:Nat) (A:Nat->Nat->Nat),gg n (fun i=>gg m (fun j=>A i j))=gg m (fun j=>gg n (fun i=>A i j))
 |0,A=>(H8 m).symm
 |n+1,A=>by show gg n _+gg m _=gg m (fun j=>gg n (fun i=>A i j)+A n j);rw [H9 m n A,vY]
theorem NN {n:Nat} {A B:Nat->Nat->Nat} (h: ∀i j,i<n->j<n->A i j+A j i<=B i j+B j i):gg n (fun i=>gg n (fun j=>A i j))<=gg n (fun i=>gg n (fun j=>B i j)):=by
 have e: ∀C:Nat->Nat->Nat,gg n (fun i=>gg n (fun j=>C i j+C j i))=2*gg n (fun i=>gg n (fun j=>C i j)):=fun C=>by rw [xo (G:=fun i=>gg n (fun j=>C i j)+gg n (fun j=>C j i)) (fun i _=>vY n _ _),vY,H9 n n (fun i j=>C j i)];omega
 have:=Ee (n:=n) (F:=fun i=>gg n (fun j=>A i j+A j i)) (G:=fun i=>gg n (fun j=>B i j+B j i)) (fun i hi=>Ee fun j hj=>h i j hi hj);rw [e A,e B] at this;omega
theorem abu {n:Nat} {F G:Nat->Nat} (h: ∀i,i<n->F i<=G i) {a:Nat} (ha:a<n) (hs:F a+1<=G a):gg n F+1<=gg n G:=by
 induction n with
 |zero=>omega
 |succ n ih=>
  show gg n F+F n+1<=gg n G+G n
  by_cases c:a=n
  · subst c
    have:=Ee (n:=a) fun i hi=>h i (by omega)
    omega
  have:=ih (fun i hi=>h i (by omega)) (by omega)
  have:=h n (by omega);omega
theorem Ut {n:Nat} {F G:Nat->Nat} {a b:Nat} (ha:a<n) (hb:b<n) (dK:a≠b) (h: ∀i,i<n->i≠a->i≠b->F i=G i):gg n F+G a+G b=gg n G+F a+F b:=by
 have one: ∀(n:Nat) (F G:Nat->Nat) (a:Nat),a<n->(∀i,i<n->i≠a->F i=G i)->gg n F+G a=gg n G+F a:=by
  intro n
  induction n with
  |zero=>intro F G a ha;omega
  |succ n ih=>
   intro F G a ha h;show gg n F+F n+G a=gg n G+G n+F a
   by_cases c:a=n
   · subst c
     rw [xo (F:=F) (G:=G) fun i hi=>h i (by omega) (by omega)];omega
   have:=ih F G a (by omega) (fun i hi=>h i (by omega))
   have:=h n (by omega) (fun e=>c e.symm);omega
 have h1:=one n F (fun i=>if i=a then F a else G i) b hb (fun i hi hib=>by
  by_cases c:i=a
  · rw [lm c,c]
  rw [ls c];exact h i hi c hib)
 have h2:=one n (fun i=>if i=a then F a else G i) G a ha (fun i hi hia=>by rw [ls hia]);simp only [if_true] at h2;rw [ls (show¬b=a from fun e=>dK e.symm)] at h1;omega
theorem Ef {n m:Nat} {F:Nat->Nat} (h: ∀i,i<n->F i<=m):gg n F<=n*m:=by
 induction n with
 |zero=>exact M2 _
 |succ n ih=>
  show gg n F+F n<=_;have:=ih fun i hi=>h i (by omega)
  have:=h n (by omega);rw [adp];omega
def Jy:Nat->Nat
 |0=>0
 |i+1=>Jy (i / 2)+1
decreasing_by omega
theorem abv {i:Nat} (h:0<i):Jy i=Jy (par i)+1:=by
 cases i with
 |zero=>omega
 |succ i=>
  have pe:par (i+1)=i / 2:=by simp only [par];omega
  rw [pe]
  conv=>lhs;unfold Jy
theorem NO: ∀i,Jy i<=i:=by
 intro i
 induction i using NE with
 |ind i ih=>
  cases i with
  |zero=>unfold Jy;exact EQ _
  |succ i=>unfold Jy;have:=ih (i / 2) (by omega);omega
noncomputable def pos (l:List Int) (x:Int):Nat:=if h: ∃k,k<aiN l/\l[k]! =x then h.choose else 0
theorem C6 {l:List Int} (nd:l.Nodup) {k:Nat} (hk:k<aiN l):pos l l[k]! =k:=by
 have h: ∃j,j<aiN l/\l[j]! =l[k]!:=⟨k,hk,rfl⟩;unfold pos;rw [dif_pos h];obtain ⟨h1,h2⟩:=h.choose_spec;rcases rc h.choose k with c|c|c
 · exact absurd h2 (bq.1 nd _ _ c hk)
 · exact c
 exact absurd h2.symm (bq.1 nd _ _ c h1)
theorem NP (l:List Int) (x:Int):pos l x<=(aiN l):=by
 unfold pos;split
 · rename_i h;exact Nat.le_of_lt h.choose_spec.1
 exact M2 _
section
variable (f : List Pt)
noncomputable def UQ (t:Int×Int) (p:Nat):Nat:=gg (aiN f) fun q=>if leads f[p]! f[q]! t then 1 else 0
noncomputable def psi (l:List Int) (t:Int×Int):Nat:=gg (aiN f) fun p=>Jy (pos l (f[p]!).1)*UQ f t p
noncomputable def phi (t:Int×Int):Nat:=gg (aiN f) fun p=>gg (aiN f) fun q=>if (f[q]!).2.2<(f[p]!).2.2/\ ¬leads f[p]! f[q]! t then 1 else 0
noncomputable def xH (l:List Int) (t:Int×Int):Nat:=psi f l t+aiN f*phi f t
end
section
variable {f : List Pt}
theorem Uu {l:List Int} {t:Int×Int} (hl:(aiN l)=aiN f) (h10:(aiN f)<=12):xH f l t<=4000:=by
 have w: ∀p,UQ f t p<=aiN f*1:=fun p=>Ef fun q _=>by split<;>omega
 have a:psi f l t<=aiN f*144:=Ef fun p _=>by have h1:=NO (pos l (f[p]!).1);have h2:=NP l (f[p]!).1;have h3:=w p;exact abS (aiH (show Jy (pos l (f[p]!).1)<=12 by omega) (show UQ f t p<=12 by omega)) (by decide)
 have b:phi f t<=aiN f*12:=Ef fun p _=>abS (Ef (m:=1) fun q _=>by split<;>omega) (by omega)
 unfold xH;have c:(aiN f)*phi f t<=12*144:=aiH h10 (by omega);omega
theorem Uv {p q:Pt} {t t':Int×Int} (d:1<=t.2) (d':1<=t'.2) (le:t.1*t'.2<=t'.1*t.2) (h: ¬leads p q t) (h':leads p q t'):q.2.2<p.2.2:=by
 refine abH fun c=>?_
 exact DF d d' le c h h'
theorem NQ (hs:fu f) {l:List Int} (hl:(aiN l)=aiN f) {t t':Int×Int} (d:1<=t.2) (d':1<=t'.2) (le:t.1*t'.2<=t'.1*t.2):xH f l t'<=xH f l t:=by
 have form: ∀u,xH f l u=gg (aiN f) (fun p=>gg (aiN f) (fun q=>Jy (pos l (f[p]!).1)*(if leads f[p]! f[q]! u then 1 else 0)+aiN f*(if (f[q]!).2.2<(f[p]!).2.2/\ ¬leads f[p]! f[q]! u then 1 else 0))):=fun u=>by
  unfold xH psi phi UQ;rw [xo (F:=fun p=>gg (aiN f) (fun q=>Jy (pos l (f[p]!).1)*(if leads f[p]! f[q]! u then 1 else 0)+aiN f*(if (f[q]!).2.2<(f[p]!).2.2/\ ¬leads f[p]! f[q]! u then 1 else 0)))
   (G:=fun p=>Jy (pos l (f[p]!).1)*gg (aiN f) (fun q=>if leads f[p]! f[q]! u then 1 else 0)+aiN f*gg (aiN f) (fun q=>if (f[q]!).2.2<(f[p]!).2.2/\ ¬leads f[p]! f[q]! u then 1 else 0))
   (fun p _=>by rw [vY,BZ,BZ]),vY,BZ]
 rw [form,form];refine NN fun p q hp hq=>?_
 by_cases e:p=q
 · subst e
   rw [ls (fun h=>fP h h),ls (fun h=>fP h h),ls (fun h=>by omega),ls (fun h=>by omega)];exact EQ _
 have ne:(f[p]!).1≠(f[q]!).1:=fun h=>e (pN hs hp hq h)
 have dp:Jy (pos l (f[p]!).1)<=(aiN f):=abS (NO _) (by rw [<- hl];exact NP _ _);have dq:Jy (pos l (f[q]!).1)<=(aiN f):=abS (NO _) (by rw [<- hl];exact NP _ _);generalize Jy (pos l (f[p]!).1)=a at*;generalize Jy (pos l (f[q]!).1)=b at*
 by_cases h1:leads f[p]! f[q]! t<;>by_cases h2:leads f[p]! f[q]! t'
 · have n1:=fP h1
   have n2:=fP h2;simp only [h1,h2,n1,n2,if_true,if_false,not_true,not_false_iff,and_true,and_false];exact EQ _
 · have n1:=fP h1
   have n2:=jF t' ne h2;have fa:=Uv d d' le n1 n2;have nf: ¬(f[q]!).2.2<(f[p]!).2.2:=by omega
   simp only [h1,h2,n1,n2,fa,nf,if_true,if_false,not_true,not_false_iff,and_true,and_false,false_and];omega
 · have n2:=fP h2
   have n1:=jF t ne h1;have fa:=Uv d d' le h1 h2;have nf: ¬(f[p]!).2.2<(f[q]!).2.2:=by omega
   simp only [h1,h2,n1,n2,fa,nf,if_true,if_false,not_true,not_false_iff,and_true,and_false,false_and];omega
 have n1:=jF t ne h1
 have n2:=jF t' ne h2;simp only [h1,h2,n1,n2,if_true,if_false,not_true,not_false_iff,and_true,and_false];exact EQ _
theorem NR (hs:fu f) {l:List Int} (pm:(gx f).Perm l) {t:Int×Int} {i:Nat} (h0:0<i) (hi:i<aiN l) (ah:leads (aW f l[i]!) (aW f l[par i]!) t):xH f (cq l i (par i)) t+1<=xH f l t:=by
 have nd:=pm.nodup_iff.1 (fO hs);have hj:par i<(aiN l):=by simp only [par];omega
 have dK:i≠par i:=by simp only [par];omega
 have nd':=(fo hi hj).nodup_iff.2 nd;have sl:=eD l i (par i);obtain ⟨a,ha,ea⟩:=gN.1 (pm.mem_iff.2 (aL hi));obtain ⟨b,hb,eb⟩:=gN.1 (pm.mem_iff.2 (aL hj));have Mg:a≠b:=fun e=>by subst e;exact bq.1 nd (par i) i (by simp only [par];omega) hi (eb.symm.trans ea)
 rw [<- ea,<- eb,uA hs ha rfl,uA hs hb rfl] at ah;have p1:pos l (f[a]!).1=i:=by rw [ea];exact C6 nd hi
 have p2:pos l (f[b]!).1=par i:=by rw [eb];exact C6 nd hj
 have q1:pos (cq l i (par i)) (f[a]!).1=par i:=by
  have:(cq l i (par i))[par i]! =l[i]!:=by rw [jh l hi hj,lm rfl]
  rw [ea,<- this];exact C6 nd' (by rw [sl];exact hj)
 have q2:pos (cq l i (par i)) (f[b]!).1=i:=by
  have:(cq l i (par i))[i]! =l[par i]!:=by rw [jh l hi hj,ls dK,lm rfl]
  rw [eb,<- this];exact C6 nd' (by rw [sl];exact hi)
 have L7: ∀p,p<aiN f->p≠a->p≠b->pos (cq l i (par i)) (f[p]!).1=pos l (f[p]!).1:=fun p hp h1 h2=>by
  have hm:(f[p]!).1∈l:=pm.mem_iff.1 (gN.2 ⟨p,hp,rfl⟩);obtain ⟨k,hk,ek⟩:=aO.1 hm;have k1:k≠i:=fun e=>by subst e;exact h1 (pN hs hp ha (ek.symm.trans ea.symm))
  have k2:k≠par i:=fun e=>by rw [e] at ek;exact h2 (pN hs hp hb (ek.symm.trans eb.symm))
  have e1:pos l (f[p]!).1=k:=by rw [<- ek];exact C6 nd hk
  have:(cq l i (par i))[k]! =l[k]!:=by rw [jh l hi hj,ls k2,ls k1]
  rw [e1,<- ek,<- this];exact C6 nd' (by rw [sl];exact hk)
 have two:=Ut (n:=aiN f) (F:=fun p=>Jy (pos (cq l i (par i)) (f[p]!).1)*UQ f t p) (G:=fun p=>Jy (pos l (f[p]!).1)*UQ f t p) ha hb Mg (fun p hp h1 h2=>by rw [L7 p hp h1 h2]);have wl:UQ f t b+1<=UQ f t a:=by
  refine abu (fun q _=>?_) (a:=b) hb ?_
  · by_cases c:leads f[b]! f[q]! t
    · rw [lm c,lm (qW ah c)];exact EQ _
    rw [ls c];exact M2 _
  rw [ls (fun h=>fP h h),lm ah];exact EQ _
 simp only [p1,p2,q1,q2,abv h0] at two;unfold xH;have:psi f (cq l i (par i)) t+1<=psi f l t:=by unfold psi;generalize Jy (par i)=D at two;generalize UQ f t a=A at two wl;generalize UQ f t b=B at two wl;rw [adp,adp] at two;omega
 omega
theorem LR {h l:Pt} {t:Int×Int} (hh:ff h) (hl:ff l) (is:(jU h l t).2=aiS):leads l h (jU h l t).1:=by
 unfold jU at*
 by_cases h1:leads l h t
 · rw [lm h1];exact h1
 rw [ls h1] at is ⊢
 by_cases h2:h.2.2<l.2.2
 · rw [lm h2]
   obtain ⟨_,m1,m2,m3⟩:=CS hh hl (show h.2.2≠l.2.2 by omega);refine .inr ⟨?_,.inl h2⟩;show FW l h (met h l)=0;rw [zD];have e1:(l.2.1-h.2.1)*(met h l).2= -((h.2.1-l.2.1)*(met h l).2):=by rw [<- Int.neg_mul];congr 1;omega
   rw [e1,<- m3,Int.mul_comm (l.2.2-h.2.2)];omega
 rw [ls h2] at is;cases is
end
def ve:aQ:=⟨UV 200 0,UV 200 aiY,(List.range 200).map fun j:Nat=>(199:Int) - (j:Int)⟩
def Eg:aI:=⟨ve,[],UV 200 (-1)⟩
def iD (f:Field) (t:Int×Int):aH:=⟨t,f,⟨0,[]⟩,Eg,[]⟩
theorem LS:BE 200=aiP (ve,0):=
 (by kernel_rfl:BE 200=aB Dy (200,200,0,UV 200 0,UV 200 aiY,UV 200 0)).trans (qS.2 ⟨300,by kernel_rfl⟩)
theorem QZ:jD [-1] 200=aiP (UV 200 (-1)):=by
 unfold jD uX;have m:gj (ae .u64 (abV ([-1]:List Int).length)) (ae .u64 200)=aiP (0,200):=by rw [show ae .u64 (abV ([-1]:List Int).length)=1 from by kernel_rfl,show ae .u64 200=200 from by kernel_rfl,BH ⟨by decide,by decide⟩ ⟨by decide,by decide⟩];rfl
 rw [m];exact (by kernel_rfl:_=aB mn (1,-1::UV 199 0)).trans (qS.2 ⟨20,by kernel_rfl⟩)
theorem G3:wZ 200=aiP (Eg,0):=by unfold wZ;rw [LS,aq,bo rfl,lc,QZ];rfl
theorem Jz (f:Field) {t:Int×Int} (jl:jW t):zq f t=aiP (if ly f.am≠0 then (dI,ly f.am) else if bA t then (iD f t,0) else (dI,8)):=by
 unfold zq;rw [eN,aq]
 by_cases h:ly f.am=0
 · have cj:=dj.1 h
   have f1:=cj.1;rw [bo h,lc,dD jl,aq,ls (show¬ly f.am≠0 from fun k=>k h)]
   by_cases rt:bA t
   · rw [lm rt,lm rt,bo rfl,lc,G3,aq,bc (show (aiN f.am)<=1048576 by omega),aq]
     rfl
   rw [ls rt,ls rt,dL (by decide),kw]
 rw [dL h,kw,lm h]
theorem vZ {α:Type} [Inhabited α] {n i:Nat} (a:α) (h:i<n):(UV n a)[i]! =a:=by rw [getElem!_pos _ i (by rw [ab1];exact h),List.getElem_replicate]
theorem abw {i:Nat} (hi:i<200):(i:Int)∈ve.bi:=by refine abI.2 ⟨199-i,aiL.2 (by omega),?_⟩;show (199:Int) - ((199-i:Nat):Int)=(i:Int);omega
theorem mA:(aiN ve.ay)=200:=ab1 ..
set_option maxRecDepth 100000 in
theorem Uw:(aiN ve.bi)=200:=by unfold ve;exact (v6 _).trans List.length_range
theorem Q0:eX ve where
 n1:=by rw [mA];omega
 n2:=by rw [mA];omega
 ul:=by rw [mA];exact ab1 ..
 fr:=fun x hx=>by obtain ⟨j,hj,rfl⟩:=abI.1 hx;have:=aiL.1 hj;rw [mA];omega
 fd:=by
  refine tq List.nodup_range fun i hi j hj h=>?_
  have h:(199:Int) - (i:Int)=199- (j:Int):=h;omega
 uf:=fun i hi=>by
  rw [mA] at hi;rw [show ve.be[i]! =aiY from vZ aiY hi];constructor
  · intro h;cases h
  intro h;exact absurd (abw hi) h
 us:=fun i hi=>by rw [mA] at hi;rw [show ve.ay[i]! =0 from vZ 0 hi,show ve.be[i]! =aiY from vZ aiY hi];exact ⟨by decide,by decide,fun h=>by cases h⟩
set_option maxRecDepth 100000 in
theorem NS:eY Eg where
 so:=Q0
 wl:=(ab1 (n:=200) (a:=(-1:Int))).trans mA.symm
 hl:=((Nat.zero_add _).trans Uw).trans mA.symm
 fwd:=fun i hi h=>by rw [show Eg.af.be[i]! =aiY from vZ aiY (by rw [<- mA];exact hi)] at h;cases h
 un:=fun i hi _=>vZ (-1) (by rw [<- mA];exact hi)
 ev:=fun w hw=>absurd hw (aa4 w)
 nd:=fun v w _ hw=>absurd hw (aa4 w)
 ord:=fun k _ hk=>absurd hk (aa4 k)
theorem Q1 {f:Field} (cj:bG f.am) {t:Int×Int} (r:bA t) (jl:jW t):aU (iD f t) where
 jk:=r
 fT:=jl
 iE:=cj
 qZ:=(⟨by decide,by decide,by decide,fun i hi=>absurd hi (aa4 i),fun i hi=>absurd hi (aa4 i),fun i j _ hj=>absurd hj (aa4 j),fun i j _ hj=>absurd hj (aa4 j)⟩:eE ⟨0,[]⟩)
 lI:=NS
 C0:=ab1 ..
 hd:=rfl
 known:=fun i hi=>absurd hi (aa4 i)
 yP:=rfl
theorem xp (f:Field) (t:Int×Int):Roomy (iD f t) 0:=by refine ⟨EQ _,Int.le_refl _,fun j hj=>?_⟩;rw [show (iD f t).aa.af.ay[j]! =0 from vZ 0 (by rw [<- mA];exact hj)];decide
theorem abx {f:List Pt} (cj:bG f) {t:Int×Int} (r:bA t) (jl:jW t) (c0:List Pt×Int×Int×Int×List Int): ∀(i:Nat) (l:List Int),(∀x∈l,gU f x)->l.Nodup->i<aiN l->aiN l<=1000->aiN c0.2.2.2.2=aiN l->
 aB (iq c0) ((i:Int),l,f,t.1,t.2)=aiP (jf f t i l):=by
 intro i
 induction i using NE with
 |ind i ih=>
  intro l hp nd hi hl hc;cases i with
  |zero=>unfold jf;refine aA ?_;unfold iq;simp only [aF (show¬(0:Int)<((0:Nat):Int) by omega),lc,hc,beq_self_eq_true,kw]
  |succ i=>
   have hu:=Ec (i:=i+1) (by omega) (by omega);rw [show (i+1-1) / 2=i / 2 from rfl] at hu;have hj:i / 2<(aiN l):=by omega
   have g1:=ar l (i+1) hi;have g2:=ar l (i / 2) hj;have g3:=ar (l.set (i+1) l[i / 2]!) (i / 2) (by rw [lw];exact hj);have a1:=LH cj r jl (hp _ (aL hi)) (hp _ (aL hj)) (fun h=>bq.1 nd (i / 2) (i+1) (by omega) hi h.symm);have sp:=fo (l:=l) hi hj;have sl:(cq l (i+1) (i / 2)).length=(aiN l):=sp.length_eq;unfold jf
   by_cases c:leads (aW f l[i+1]!) (aW f l[i / 2]!) t
   · rw [lm c]
     rw [aJ c] at a1;rw [aM (y:=(((i / 2:Nat):Int),cq l (i+1) (i / 2),f,t.1,t.2)) (by unfold iq;simp only [aJ (show (0:Int)<((i+1:Nat):Int) by omega),kw,g1,aq,hu,g2,a1,de,g3];rfl)];exact ih (i / 2) (by omega) _ (fun x hx=>hp x (sp.mem_iff.1 hx)) (sp.nodup_iff.2 nd) (by omega) (by omega) (by omega)
   rw [ls c]
   rw [aF c] at a1;refine aA ?_;unfold iq;simp only [aJ (show (0:Int)<((i+1:Nat):Int) by omega),kw,g1,aq,hu,g2,a1,lc,hc,beq_self_eq_true]
theorem aby {f:List Pt} (cj:bG f) {t:Int×Int} (r:bA t) (jl:jW t) {i:Nat} {l:List Int} (hp: ∀x∈l,gU f x) (nd:l.Nodup) (hi:i<aiN l) (hl:(aiN l)<=1000):mJ (f,t.1,t.2,(i:Int),l)=aiP (jf f t i l):=by unfold mJ;exact abx cj r jl (f,t.1,t.2,(i:Int),l) i l hp nd hi hl rfl
def bS (f:List Pt) (t:Int×Int) (c:aH) (i:Nat) (l:List Int):=
 (f,((aiN f):Int),(i:Int),f,t.1,t.2,(0:Int),(0:Int),(0:Int),c.ci.1,c.ci.2,c.ii.am,c.ai.aK,c.ai.ce,c.aa.af.ay,c.aa.af.be,c.aa.af.bi,c.aa.bv,c.aa.aj,c.io,(0:Int),(0:Int),(0:Int),l)
def hS (f:List Pt) (t:Int×Int) (i:Nat) (l:List Int):=((i:Int),f,t.1,t.2,(0:Int),(0:Int),(0:Int),l)
theorem GG {c:aH} {l:List Int} (h:GF c l) (h10:(aiN l)<=12) {k:Nat} (hr:tK c 100 k) (hk:k+11<=999999) {to:Int×Int} (rt:bA to) (jl:jW to) (le: ¬iB to c.ci<0) (io:GC c to):
 ∃x c2 l2 k2,fM ⟨c,l⟩ to=aiP (⟨c2,l2⟩,x,0)/\GF c2 l2/\aiN l2=aiN l/\c2.ii=c.ii/\ ¬iB to c2.ci<0/\k2<=k+11/\tK c2 100 k2/\xH c.ii.am l2 c2.ci+1<=xH c.ii.am l c.ci:=by
 have ok:=h.ok;have pm:=h.pm;have ln:(aiN l)=(aiN c.ii.am):=by rw [<- pm.length_eq];exact v6 ..
 obtain ⟨i0,c',R4,num,r1,_,xO,hf,hc,ge⟩:=Gs ok io.1;have g:=ar c.aa.bv 0 io.1;rw [show ((0:Nat):Int)=0 from rfl] at g;have hb:=ok.known i0 R4;obtain ⟨d,hd,hn⟩:=ok.zH _ (aL io.1);obtain ⟨y,hy,y1,y2,y3⟩:=ok.yP.io d hd;have hye:y=c.ai.ce[i0]!:=Up.inj ok.pS hy (aL R4) (by rw [<- y1,hn,num]);subst hye;have tm:Ev.at c.aa.bv[0]! =(bB c.ii.am (c.ai.ce[i0]!).2 c.ci).1:=by
  obtain ⟨w,hw,he⟩:=aO.1 y3;have hw0:w=0:=abH fun hx=>by refine ok.lI.nd 0 w (by omega) hw ?_;rw [he,<- hn,y1]
  subst hw0;rw [he]
 obtain ⟨x,hx⟩: ∃x,x=(c.ai.ce[i0]!).2:=⟨_,rfl⟩;rw [<- hx] at r1 hb tm y2;have xe:x∈bU l:=h.ct.mem_iff.1 (abI.2 ⟨_,aL R4,hx.symm⟩);obtain ⟨a,ha,ea⟩:=aO.1 xe;rw [gf] at ha;rw [qU l ha] at ea;have hi:a+1<(aiN l):=by omega
 have hj:a / 2<(aiN l):=by omega
 have pe:par (a+1)=a / 2:=by simp only [par];omega
 have nd:=pm.nodup_iff.1 (fO ok.iE.2.2);obtain ⟨i,i1,i2,i3,_⟩:=sP (l:=l) (by omega) (pm.mem_iff.1 (gN.2 hb.1));obtain ⟨j,j1,j2,j3,_⟩:=sP (l:=l) (by omega) (pm.mem_iff.1 (gN.2 hb.2));have ei:i=a+1:=by
  have:l[i]! =l[a+1]!:=by rw [i2,<- ea]
  rcases rc i (a+1) with q|q|q
  · exact absurd this (bq.1 nd _ _ q hi)
  · exact q
  exact absurd this.symm (bq.1 nd _ _ q i1)
 have ej:j=a / 2:=by
  have:l[j]! =l[a / 2]!:=by rw [j2,<- ea]
  rcases rc j (a / 2) with q|q|q
  · exact absurd this (bq.1 nd _ _ q hj)
  · exact q
  exact absurd this.symm (bq.1 nd _ _ q j1)
 obtain ⟨c1,AY⟩: ∃c1,c1=atT c' (Ev.at c.aa.bv[0]!):=⟨_,rfl⟩;have xO:aU c1:=by rw [AY];exact xO
 have f1:mj c to=aiP (c1,c.aa.bv[0]!,x,0):=by unfold mj;rw [BY ok rt jl le,aq,cV rfl,kw,aJ io,Do,lc,bo rfl,lc,g,aq,r1,aq,bo rfl,lc,AY]
 have hfc:c1.ii=c.ii:=by rw [AY];exact hf
 have asC:c1.ci=Ev.at c.aa.bv[0]!:=by rw [AY]
 have ru:c'.aa.af.ay=c.aa.af.ay:=by refine DL ok R4 (c':=c') (x:=x) ?_;rw [num];exact r1
 have PU:tK c1 100 k:=by
  rw [AY];refine ⟨?_,?_,?_⟩
  · show (aiN c'.ai.ce)<=100
    rw [hc];show (c.ai.ce.eraseIdx i0).length<=100;rw [ab0 R4];have:=hr.l;omega
  · show c'.ai.aK<=_
    rw [hc];exact hr.n
  show∀j,j<aiN c'.aa.af.ay->c'.aa.af.ay[j]!<=_
  rw [ru];exact hr.u
 have pm':(gx c.ii.am).Perm (cq l i j):=pm.trans (fo i1 j1).symm;have sl:(cq l i j).length=(aiN l):=(fo i1 j1).length_eq;have cj:=xO.iE;have v7:=xm cj (l:=cq l i j) (by rw [hfc];exact pm');have el:(bU (cq l i j)).length<=11:=by rw [gf];omega
 obtain ⟨r,g1,k',g2,g3⟩:=GD xO v7 (by omega) PU (by omega);obtain ⟨S,s1,_,s3⟩:=Jp xO cj (es:=bU (cq l i j)) v7;have es:S=(r,0):=abR (s1.symm.trans g1);rw [es] at s3;rcases s3 with ⟨_,q⟩|q
 case inr=>cases q
 have q:BU c1 c1.ii.am (bU (cq l i j)) r:=q;have ev:fM ⟨c,l⟩ to=aiP (⟨r,cq l i j⟩,x,0):=by unfold fM;rw [f1,aq,bo rfl,lc,bc (show (aiN l)<=1048576 by omega),aq,i3,aq,j3,aq,ar l j j1,aq,ar l i i1,aq,aq];rw [de,ar _ j (by rw [lw];exact j1),aq,de];show (kN (cq l i j)).bind _=_;rw [yS _ (by omega),aq];show (dZ c1 c1.ii (bU (cq l i j))).bind _=_;rw [g1,aq];rfl
 have ndE:=pm'.nodup_iff.1 (fO ok.iE.2.2);have ct':(r.ai.ce.map fun x=>x.2).Perm (bU (cq l i j)):=DJ (uB q.ok.qZ) (qV ndE) (fun z hz=>by obtain ⟨y,hy,rfl⟩:=abI.1 hz;exact q.sub y hy) (fun z hz=>my.1 (q.has z hz));have rf:r.ii=c.ii:=by have:=q.iE;rw [hfc] at this;cases h1:r.ii;cases h2:c.ii;rw [h1,h2] at this;simpa using this
 have rn:r.ci=Ev.at c.aa.bv[0]!:=q.ci.trans asC;have hpt:=eu ok.iE hb.2;have asD:=eu ok.iE hb.1;have ah:leads (aW c.ii.am l[a+1]!) (aW c.ii.am l[par (a+1)]!) r.ci:=by rw [rn,tm,pe];have:=LR hpt.1 asD.1 (t:=c.ci) y2;rw [<- ea] at this ⊢;exact this
 have t2:bA r.ci:=q.ok.jk;have th1:=NR ok.iE.2.2 pm (t:=r.ci) (show 0<a+1 by omega) hi ah;have th2:=NQ ok.iE.2.2 ln (t:=c.ci) (t':=r.ci) ok.jk.1 t2.1 (by rw [rn];exact ge);refine ⟨x,r,cq l i j,k',ev,⟨q.ok,by rw [rf];exact pm',ct'⟩,sl,rf,fun hx=>?_,by omega,⟨?_,g3.n,g3.u⟩,?_⟩
 · have h2:=io.2
   rw [rn,sD] at hx;have: ¬0<iB (Ev.at c.aa.bv[0]!) to:=by omega
   unfold iB at this;rcases dR ((Ev.at c.aa.bv[0]!).1*to.2) (to.1*(Ev.at c.aa.bv[0]!).2) with ⟨a,b⟩|⟨a,b⟩|⟨a,b⟩<;>omega
 · have:=ct'.length_eq
   rw [v6] at this;omega
 rw [ei,ej,<- pe]
 omega
theorem Ux {to:Int×Int} (rt:bA to) (jl:jW to): ∀(d:Nat) (c:aH) (l:List Int) (out:List (Int×Int)) (k:Nat),xH c.ii.am l c.ci<=d->GF c l->aiN l<=12->tK c 100 k->k+11*(d+1)<=999999->aiN out+d<=1048000-> ¬iB to c.ci<0->
 ∃c2 l2 ai2,NM to c l out=aiP (⟨atT c2 to,l2⟩,ai2,0)/\GF c2 l2/\c2.ii=c.ii/\ ¬iB to c2.ci<0/\ ¬GC c2 to:=by
 intro d
 induction d with
 |zero=>
  intro c l out k ht h h10 hr hk ho le
  by_cases io:GC c to
  · obtain ⟨x,c2,l2,k2,_,_,_,_,_,_,_,h8⟩:=GG h h10 hr (by omega) rt jl le io
    omega
  exact ⟨c,l,out,step_end h.ok (by omega) rt jl le io out,h,rfl,le,io⟩
 |succ d ih=>
  intro c l out k ht h h10 hr hk ho le
  by_cases io:GC c to
  · obtain ⟨x,c2,l2,k2,e1,h2,h3,h4,h5,h6,h7,h8⟩:=GG h h10 hr (by omega) rt jl le io
    rw [Pk e1 (by omega)];obtain ⟨c3,l3,asE,a1,a2,a3,a4,a5⟩:=ih c2 l2 (out++[x]) k2 (by rw [h4];omega) h2 (by omega) h7 (by omega) (by rw [AC,ut];omega) h5;exact ⟨c3,l3,asE,a1,a2,a3.trans h4,a4,a5⟩
  exact ⟨c,l,out,step_end h.ok (by omega) rt jl le io out,h,rfl,le,io⟩
theorem Q2 {f:Field} (cj:bG f.am) (h10:(aiN f.am)<=12) {t:Int×Int} (rt:bA t) (jl:jW t): ∃k:bg,qR f t=aiP (k,0)/\xn k f.am t/\tK k.jp 100 11:=by
 have f1:=cj.1;have il:(gx f.am).length=(aiN f.am):=v6 ..;have so:=uD cj.2.2 t;have go: ∀(d i:Nat) (l:List Int),aiN f.am-i<=d->i<=aiN f.am->((gx f.am).take i).Perm l->Hp (yW f.am t) l->
  ∃k:bg,aB kF (bS f.am t (iD f t) i l)=aiP (k,0)/\xn k f.am t/\tK k.jp 100 11:=by
  have fin: ∀l:List Int,(gx f.am).Perm l->Hp (yW f.am t) l-> ∃k:bg,aB kF (bS f.am t (iD f t) (aiN f.am) l)=aiP (k,0)/\xn k f.am t/\tK k.jp 100 11:=by
   intro l pm hh;have ll:(aiN l)=(aiN f.am):=by rw [<- pm.length_eq,il]
   have ok0:=Q1 cj rt jl;have v7:qq (iD f t).ii.am (bU l):=xm cj pm;have hr0:tK (iD f t) 100 0:=⟨M2 _,(xp f t).2.1,(xp f t).2.2⟩;have el:(bU l).length<=11:=by rw [gf];omega
   obtain ⟨r,g1,k',g2,g3⟩:=GD ok0 v7 (by omega) hr0 (by omega);obtain ⟨r',g1',_,q⟩:=LC ok0 rfl v7 (xp f t) (by omega);have e:r'=r:=congrArg Prod.fst (abR (g1'.symm.trans g1));rw [e] at q;have g1:dZ (iD f t) f (bU l)=aiP (r,0):=g1;have hp:xn ⟨r,l⟩ f.am t:=BU.bv (c:=iD f t) (R:=⟨r,l⟩) cj pm rfl q hh;refine ⟨⟨r,l⟩,aA ?_,hp,⟨?_,?_,?_⟩⟩
   · have je:aH.mk ((iD f t).ci.1,(iD f t).ci.2) (Field.mk (iD f t).ii.am) (bj.mk (iD f t).ai.aK (iD f t).ai.ce) (aI.mk (aQ.mk (iD f t).aa.af.ay (iD f t).aa.af.be (iD f t).aa.af.bi) (iD f t).aa.bv (iD f t).aa.aj) (iD f t).io=iD f t:=rfl
     have asF:Field.mk f.am=f:=rfl;unfold kF bS;simp only [aF (show¬((aiN f.am):Int)<((aiN f.am):Int) by omega),lc,yS l (by omega),aq,je,asF,g1]
   · have e1:=hp.ok.cert.length_eq
     rw [v6] at e1;have e1:(aiN r.ai.ce)=(bU l).length:=e1;show (aiN r.ai.ce)<=100;omega
   · show r.ai.aK<=((11:Nat):Int)
     have:=g3.n;omega
   show∀j,j<aiN r.aa.af.ay->r.aa.af.ay[j]!<=((11:Nat):Int)
   intro j hj;have:=g3.u j hj;omega
  intro d
  induction d with
  |zero=>
   intro i l hd hi pm hh;have:i=(aiN f.am):=by omega
   subst this;rw [<- il,abT] at pm;exact fin l pm hh
  |succ d ih=>
   intro i l hd hi pm hh
   by_cases he:i=aiN f.am
   · subst he
     rw [<- il,abT] at pm;exact fin l pm hh
   have qY:i<(aiN f.am):=by omega
   have nd:=fO cj.2.2;have ll:(aiN l)=i:=by rw [<- pm.length_eq,If];omega
   have idi:(gx f.am)[i]! =(f.am[i]!).1:=by rw [getElem!_pos (gx f.am) i (by omega),getElem!_pos f.am i qY];exact agd ..
   have pm1:((gx f.am).take (i+1)).Perm (l++[(f.am[i]!).1]):=by rw [fv (by omega),idi];exact pm.append_right _
   have nd1:(l++[(f.am[i]!).1]).Nodup:=pm1.nodup_iff.1 (nd.sublist (List.take_sublist _ _));have Rk: ∀x∈l++[(f.am[i]!).1],gU f.am x:=fun x hx=>gN.1 (abZ (pm1.mem_iff.2 hx))
   have l1:(l++[(f.am[i]!).1]).length=i+1:=by rw [AC,ut,ll]
   have ap:bI l [(f.am[i]!).1]=aiP (l++[(f.am[i]!).1]):=cR (by rw [ut];omega);have sc:=aY (show i<1000000000 by omega);have g:=ar f.am i qY;have s1:kF (bS f.am t (iD f t) i l)=aiP (.next (bS f.am t (iD f t) (i+1) (jf f.am t i (l++[(f.am[i]!).1])))):=by unfold kF bS;simp only [aJ (show (i:Int)<((aiN f.am):Int) by omega),kw,g,aq,ap,aby cj rt jl Rk nd1 (show i<(l++[(f.am[i]!).1]).length by omega) (by omega),sc]
   rw [aM s1];refine ih (i+1) _ (by omega) (by omega) (pm1.trans (tu f.am t i _ (by omega)).symm) ?_;refine C4 so (fun _ _=>aig) i _ Rk ⟨by omega,fun j j1 j2 j3=>?_,fun j j1 j2 j3 j4=>by simp only [par] at j3;omega⟩;have b1:(l++[(f.am[i]!).1])[j]! =l[j]!:=gL (by omega);have b2:(l++[(f.am[i]!).1])[par j]! =l[par j]!:=gL (by simp only [par];omega);rw [b1,b2];exact hh j j1 (by omega)
 obtain ⟨k,k1,k2,k3⟩:=go (aiN f.am) 0 [] (by omega) (by omega) (abM _) (fun j h1 h2=>by simp at h2);refine ⟨k,?_,k2,k3⟩;have cn:=Jz f jl;rw [ls (show¬ly f.am≠0 from fun h=>h (dj.2 cj)),lm rt] at cn;unfold qR;rw [cn,aq,bo rfl,lc];exact k1
theorem xq {k:bg} (ok:iC k) (h12:(aiN k.jp.ii.am)<=12): ∃a:Int×Int,kZ k=aiP a/\mI k.jp.ii k.jp.ci=aiP a:=by
 have cj:=ok.o8.iE;have c1:=kJ ok.o8.fit (show (aiN k.bv)<=1000 by have:=ok.bd;omega);rw [lm ok] at c1;have ln:=ok.len
 by_cases h0:(aiN k.bv)=0
 · have e0:k.jp.ii.am=[]:=abK.1 (by omega)
   rcases xG cj ok.o8.jk ok.o8.fT h12 with ⟨_,m⟩|⟨p,hp,_,_⟩
   · refine ⟨_,?_,m⟩
     unfold kZ;rw [c1,aq,bo rfl,lc,az,cV (by omega),kw]
   rw [e0] at hp;cases hp
 have hl:0<(aiN k.bv):=by omega
 have so:=uD cj.2.2 k.jp.ci;have all: ∀j,j<aiN k.bv-> ¬leads (aW k.jp.ii.am k.bv[j]!) (aW k.jp.ii.am k.bv[0]!) k.jp.ci:=by
  intro j
  induction j using NE with
  |ind j ih=>
   intro hj
   by_cases c:j=0
   · subst c;exact fun h=>fP h h
   have hp:=ok.hp j (by omega) hj
   have hq:par j<(aiN k.bv):=by simp only [par];omega
   exact so.ntr (ok.has _ (aL hj)) (ok.has _ (aL hq)) (ok.has _ (aL hl)) hp (ih (par j) (by simp only [par];omega) hq)
 rcases xG cj ok.o8.jk ok.o8.fT h12 with ⟨e0,_⟩|⟨p,hp,hm,m⟩
 · have:(aiN k.jp.ii.am)=0:=by rw [e0];rfl
   omega
 refine ⟨_,?_,m⟩
 have h0m:=uC cj.2.2 (ok.has _ (aL hl));have pid:p.1=k.bv[0]!:=by
  refine abH fun dK=>?_
  obtain ⟨j,hj,ej⟩:=aO.1 (ok.perm.mem_iff.1 (abI.2 ⟨p,hp,rfl⟩));have pp:=yV cj.2.2 hp;have nl:=all j hj;have ej:k.bv[j]! =p.1:=ej;rw [ej,pp] at nl;exact hm _ h0m.1 (jF k.jp.ci (by rw [h0m.2];exact dK) nl)
 unfold kZ;rw [c1,aq,bo rfl,lc,az,dM (by omega),lc,ar k.bv 0 hl|>(fun h=>(h:aE k.bv 0=aiP k.bv[0]!)),aq,pid]
theorem Uy {k:bg} (n:Ud k.jp):vN k=aiP aiY\/(vN k=aiP aiS/\iC k/\aiN k.jp.ii.am<=10):=by
 unfold vN;rcases NG k with e|⟨e,sh,hl⟩
 · rw [e];exact .inl rfl
 rw [e,aq];unfold AH;rw [aq,abJ,kw]
 by_cases hm:10<abV (aiN k.jp.ii.am)
 · rw [aJ hm];exact .inl rfl
 rw [aF hm,abJ,kw,yT ⟨n.ci,⟨sh.s3,sh.h,sh.w,n.Nx⟩,sh.d⟩ (show (aiN k.bv)<=1000 by omega),aq]
 by_cases ok:iC k
 · rw [lm ok];exact .inr ⟨rfl,ok,by rw [az] at hm;omega⟩
 rw [ls ok];exact .inl rfl
theorem xn.check {R:bg} {F:List Pt} {t:Int×Int} (h:xn R F t):nX R=aiP 0:=by rw [yT h.ok.o8.fit (show (aiN R.bv)<=1000 by have:=h.ok.bd;omega),lm h.ok]
theorem Ia {c:aH} {l:List Int} (h:GF c l) {to:Int×Int} (rt:bA to) (jl:jW to) (le: ¬iB to c.ci<0) (io:GC c to):
 (∃x c2 l2,fM ⟨c,l⟩ to=aiP (⟨c2,l2⟩,x,0)/\GF c2 l2/\c2.ci=Ev.at c.aa.bv[0]!/\oa c+1<=oa c2/\ ¬iB to c2.ci<0/\c2.ii.am=c.ii.am)\/(∃x l2,fM ⟨c,l⟩ to=aiP (⟨dI,l2⟩,x,18)):=by
 have ok:=h.ok;have pm:=h.pm;obtain ⟨x,c1,f1,_,xO,hf,hb,hr,hn⟩:=Uo ok rt jl le io;have bd:=h.bd;obtain ⟨i,i1,i2,i3,_⟩:=sP (l:=l) (by omega) (pm.mem_iff.1 (gN.2 hb.1));obtain ⟨j,j1,j2,j3,_⟩:=sP (l:=l) (by omega) (pm.mem_iff.1 (gN.2 hb.2));have pm':(gx c.ii.am).Perm (cq l i j):=pm.trans (fo i1 j1).symm;have sl:(cq l i j).length=(aiN l):=(fo i1 j1).length_eq;have cj:=xO.iE;obtain ⟨r,r1,_,r3⟩:=Jp xO cj (es:=bU (cq l i j)) (xm cj (by rw [hf];exact pm'));have ev:fM ⟨c,l⟩ to=aiP (⟨r.1,cq l i j⟩,x,r.2):=by
  unfold fM;rw [f1,aq,bo rfl,lc,bc (show (aiN l)<=1048576 by omega),aq,i3,aq,j3,aq,ar l j j1,aq,ar l i i1,aq,aq];rw [de,ar _ j (by rw [lw];exact j1),aq,de];show (kN (cq l i j)).bind _=_;rw [yS _ (by omega),aq];show (dZ c1 ⟨c1.ii.am⟩ (bU (cq l i j))).bind _=_;rw [r1,aq];rfl
 rcases r3 with ⟨q,k⟩|e
 · left
   rw [q] at ev;have nd:=pm'.nodup_iff.1 (fO ok.iE.2.2);have sub: ∀z∈(r.1.ai.ce.map fun x=>x.2),z∈bU (cq l i j):=fun z hz=>by obtain ⟨y,hy,rfl⟩:=abI.1 hz;exact k.sub y hy
   have has: ∀z∈bU (cq l i j),z∈(r.1.ai.ce.map fun x=>x.2):=fun z hz=>my.1 (k.has z hz)
   have cn:=uB k.ok.qZ;refine ⟨x,r.1,cq l i j,ev,⟨k.ok,by rw [k.iE,hf];exact pm',NL cn (qV nd) sub has⟩,by rw [k.ci,hn],by have:=k.room;omega,fun hx=>?_,by rw [k.iE,hf]⟩;have h2:=io.2;rw [k.ci,hn,sD] at hx;have: ¬0<iB (Ev.at c.aa.bv[0]!) to:=by omega
   unfold iB at this;rcases dR ((Ev.at c.aa.bv[0]!).1*to.2) (to.1*(Ev.at c.aa.bv[0]!).2) with ⟨a,b⟩|⟨a,b⟩|⟨a,b⟩<;>omega
 right
 rw [e] at ev;exact ⟨x,_,ev⟩
theorem Uz {to:Int×Int} (rt:bA to) (jl:jW to): ∀(d:Nat) (c:aH) (l:List Int) (out:List (Int×Int)),1000000-oa c<=(d:Int)->GF c l-> ¬iB to c.ci<0->((aiN out):Int)<=oa c+200->
 ∃X:bg×List (Int×Int)×Int,NM to c l out=aiP X/\(X.2.2=18\/X.2.2=0/\xn X.1 c.ii.am to):=by
 have stop: ∀(c:aH) (l:List Int) (out:List (Int×Int)),GF c l-> ¬iB to c.ci<0-> ¬GC c to-> ∃X:bg×List (Int×Int)×Int,NM to c l out=aiP X/\(X.2.2=18\/X.2.2=0/\xn X.1 c.ii.am to):=fun c l out h le io=>
  ⟨_,step_end h.ok (by have:=h.bd;omega) rt jl le io out,.inr ⟨rfl,Pn h rt jl le io,rfl,rfl⟩⟩
 intro d
 induction d with
 |zero=>
  intro c l out hd h le ho
  by_cases io:GC c to
  · rcases Ia h rt jl le io with ⟨x,c2,l2,e1,e2,e3,e4,e5,e6⟩|⟨x,l2,e1⟩
    · have:=Jw e2.ok;omega
    exact ⟨_,LQ out e1,.inl rfl⟩
  exact stop c l out h le io
 |succ d ih=>
  intro c l out hd h le ho
  by_cases io:GC c to
  · have rb:=Jw h.ok
    rcases Ia h rt jl le io with ⟨x,c2,l2,e1,e2,e3,e4,e5,e6⟩|⟨x,l2,e1⟩
    · rw [Pk e1 (by omega),<- e6]
      exact ih c2 l2 (out++[x]) (by omega) e2 e5 (by rw [AC,ut];omega)
    exact ⟨_,LQ out e1,.inl rfl⟩
  exact stop c l out h le io
theorem JA {R:bg} (ok:iC R) {to:Int×Int} (rt:bA to) (jl:jW to) (le: ¬iB to R.jp.ci<0):
 ∃X:bg×List (Int×Int)×Int,iJ R to=aiP X/\(X.2.2=18\/X.2.2=0/\xn X.1 R.jp.ii.am to):=by
 have rb:=Jw ok.o8;obtain ⟨X,x1,x2⟩:=Uz rt jl (1000000-oa R.jp).toNat R.jp R.bv [] (by omega) ⟨ok.o8,ok.perm,ok.cert⟩ le (by simp;omega);refine ⟨X,?_,x2⟩;have c1:=kJ ok.o8.fit (show (aiN R.bv)<=1000 by have:=ok.bd;omega);rw [lm ok] at c1;unfold iJ;rw [c1,aq,bo rfl,lc,dD jl,lm rt,aq,bo rfl,lc,CR jl ok.o8.fT,lm ⟨rt,ok.o8.jk⟩,aq,aF le];exact x1
theorem NT {f:Field} (cj:bG f.am) (h12:(aiN f.am)<=12) {t to:Int×Int} (rs:bA t) (s64:jW t) (rt:bA to) (jl:jW to) (le: ¬iB to t<0):
 ∃(k:bg) (Y:bg×List (Int×Int)×Int),qR f t=aiP (k,0)/\iJ k to=aiP Y/\Y.2.2=0/\xn Y.1 f.am to:=by
 obtain ⟨k,k1,k2,k3⟩:=Q2 cj h12 rs s64;have kl:(aiN k.bv)=(aiN f.am):=by rw [k2.ok.len,k2.iE]
 have th:=Uu (f:=k.jp.ii.am) (l:=k.bv) (t:=k.jp.ci) (by rw [k2.iE];exact kl) (by rw [k2.iE];exact h12);obtain ⟨c2,l2,ai2,a1,a2,a3,a4,a5⟩:=Ux rt jl 4000 k.jp k.bv [] 11 th ⟨k2.ok.o8,k2.ok.perm,k2.ok.cert⟩ (by omega) k3 (by omega) (by simp) (by rw [k2.ci];exact le);have adv:iJ k to=aiP (⟨atT c2 to,l2⟩,ai2,0):=by
  have c1:=kJ k2.ok.o8.fit (show (aiN k.bv)<=1000 by have:=k2.ok.bd;omega);rw [lm k2.ok] at c1;unfold iJ;rw [c1,aq,bo rfl,lc,dD jl,lm rt,aq,bo rfl,lc,CR jl k2.ok.o8.fT,lm ⟨rt,k2.ok.o8.jk⟩,aq,aF (by rw [k2.ci];exact le)];exact a1
 exact ⟨k,_,k1,adv,rfl,Pn a2 rt jl a4 a5,by show c2.ii.am=_;rw [a3,k2.iE],rfl⟩
theorem xn.abz {R:bg} {F:List Pt} {t:Int×Int} (h:xn R F t):R.jp.ii=⟨F⟩:=by have:=h.iE;cases h1:R.jp.ii;rw [h1] at this;exact congrArg Field.mk this
theorem AV {R:bg} {F:List Pt} {t to:Int×Int} (h:xn R F t) (h12:(aiN F)<=12) (jl:jW to):c8 R ⟨F⟩ t to=aiP aiS:=by
 have ok:=h.ok;have cj:bG F:=by rw [<- h.iE];exact ok.o8.iE
 obtain ⟨b,l1,l2⟩:=xq ok (by rw [h.iE];exact h12);rw [h.abz,h.ci] at l2;have ct:=ok.cert.length_eq;rw [v6] at ct;have el:(bU R.bv).length=aiN F-1:=by have:=ok.len;rw [h.iE] at this;rw [<- this];exact gf _ _
 have nw:jW t:=by rw [<- h.ci];exact ok.o8.fT
 have rs:bA t:=by rw [<- h.ci];exact ok.o8.jk
 have ln:(((aiN R.jp.ai.ce):Nat):Int)=(if ae .i64 (((aiN F):Int) -1)>0 then ae .i64 (((aiN F):Int) -1) else 0):=by rw [fC ⟨by omega,by omega⟩,ct,el];split<;>omega
 unfold c8;rw [h.check,aq,bo rfl,lc,h.ci,cV rfl,cV rfl,Bool.and_self,Do,lc,h.abz,show pD ⟨F⟩ ⟨F⟩=_ from yR F F (by omega),aJ rfl,aq,Do,lc,l1,aq,l2,aq,bo rfl,lc,bo rfl,lc];dsimp only;rw [az,az,bo ln,lc,tg jl]
 by_cases rt:bA to
 case neg=>rw [ls rt];rfl
 rw [lm rt,aq,bo rfl,lc,AL nw jl,aq]
 by_cases le:0<iB t to
 · rw [aJ le];rfl
 have le': ¬iB to t<0:=by intro h;rw [sD] at h;unfold iB at le;rcases dR (t.1*to.2) (to.1*t.2) with ⟨a,b⟩|⟨a,b⟩|⟨a,b⟩<;>omega
 rw [aF le,lc];obtain ⟨S,r1,r2⟩:=JA ok rt jl (by rw [h.ci];exact le');rw [r1,aq];rcases r2 with q|⟨q,at1⟩
 · rw [q];rfl
 rw [h.iE] at at1;obtain ⟨k,Y,y1,y2,y3,at2⟩:=NT cj h12 rs nw rt jl le';obtain ⟨b1,m1,m2⟩:=xq at1.ok (by rw [at1.iE];exact h12);obtain ⟨b2,n1,n2⟩:=xq at2.ok (by rw [at2.iE];exact h12);rw [at1.abz,at1.ci] at m2;rw [at2.abz,at2.ci] at n2;have eb:b1=b2:=abR (m2.symm.trans n2);subst eb;rw [q,bo rfl,lc,y1,aq,y2,aq,m1,aq,n1,aq,cV rfl,kw,y3,cV rfl,kw,cV rfl,kw,cV rfl]
def G4 (ci:Int×Int) (F:Field×Int) (R:bg×Int):Prop:=
 (F.2≠0/\R.2=F.2)\/(F.2=0/\R.2=18)\/(F.2=0/\R.2=0/\aiN F.1.am<=12/\xn R.1 F.1.am ci)
section
variable {k : bg} (ok : iC k) (h10 : (aiN k.jp.ii.am) <= 10)
include ok h10
theorem ai3 (p:Pt): ∃F R,hM k.jp.ii p=aiP F/\nU k p=aiP R/\G4 k.jp.ci F R:=by
 rcases Ui ok p with ⟨e,e0,a,t⟩|⟨m,hm,_,_,_,a,R,s1,r2⟩
 · exact ⟨_,_,a,t,.inl ⟨e0,rfl⟩⟩
 refine ⟨_,R,a,s1,.inr ?_⟩;rcases r2 with rfl|⟨r0,tn⟩
 · exact .inl ⟨rfl,rfl⟩
 exact .inr ⟨rfl,r0,by show (o4 _ _ _).length<=12;rw [Gw hm.le];omega,tn⟩
theorem abA (id:Int): ∃F R,gd k.jp.ii id=aiP F/\iX k id=aiP R/\G4 k.jp.ci F R:=by
 rcases QW ok id with ⟨_,a,t⟩|⟨q,hq,_,a,R,s1,r2⟩
 · exact ⟨_,_,a,t,.inl ⟨by decide,rfl⟩⟩
 refine ⟨_,R,a,s1,.inr ?_⟩;rcases r2 with rfl|⟨r0,tn⟩
 · exact .inl ⟨rfl,rfl⟩
 exact .inr ⟨rfl,r0,by show (List.eraseIdx _ _).length<=12;have:=ab0 hq;omega,tn⟩
theorem Q3 (p:Pt): ∃F R,dw k.jp.ii p=aiP F/\gK k p=aiP R/\G4 k.jp.ci F R:=by
 rcases LN ok p with ⟨e,e0,a,t⟩|⟨q,_,_,_,a,R,s1,r2,_⟩
 · exact ⟨_,_,a,t,.inl ⟨e0,rfl⟩⟩
 refine ⟨_,R,a,s1,.inr ?_⟩;rcases r2 with rfl|⟨r0,tn⟩
 · exact .inl ⟨rfl,rfl⟩
 exact .inr ⟨rfl,r0,by show (List.set _ _ _).length<=12;rw [lw];omega,tn⟩
end
section
variable {k : bg} {p : Pt} {id : Int} {to : Int × Int} {F0 F1 F2 : Field × Int} {R0 R1 R2 : bg × Int}
theorem anc (jl:jW to) (e0:G4 k.jp.ci F0 R0): ∀z,k7 F0 R0 k to id aiS p (aiS,z)=aiP (.next (aS F0 R0 k to id aiS p)):=by
 intro z;show (bif F0.2 != 0 then _ else _)=_;rcases e0 with ⟨a,b⟩|⟨a,b⟩|⟨a,b,c,tn⟩
 · rw [dL a,kw,bo b,lc,dM a,lc,dM (by rw [b];exact a),lc]
 · rw [bo a,lc,cV a,kw,b];rfl
 have:c8 R0.1 F0.1 k.jp.ci to=aiP aiS:=AV tn c jl
 rw [bo a,lc,cV a,kw,bo b,lc,cV b,kw];show (c8 R0.1 F0.1 k.jp.ci to).bind _=_;rw [this,aq,Do,lc]
theorem ane (jl:jW to) (e1:G4 k.jp.ci F1 R1): ∀z,jb F1 R1 (aS F0 R0 k to id aiS p) (aiS,z)=aiP (.next (bF F1 R1 (aS F0 R0 k to id aiS p))):=by
 intro z;show (bif F1.2 != 0 then _ else _)=_;rcases e1 with ⟨a,b⟩|⟨a,b⟩|⟨a,b,c,tn⟩
 · rw [dL a,kw,bo b,lc,dM a,lc,dM (by rw [b];exact a),lc]
 · rw [bo a,lc,cV a,kw,b];rfl
 have h:c8 R1.1 F1.1 k.jp.ci to=aiP aiS:=AV tn c jl
 rw [bo a,lc,cV a,kw,bo b,lc,cV b,kw];show (c8 R1.1 F1.1 k.jp.ci to).bind _=_;rw [h,aq,Do,lc]
theorem anf (e2:G4 k.jp.ci F2 R2) {c:_}: ∀z,ja F2 R2 c (aiS,z)=aiP (.next (eM F2 R2 c)):=by
 intro z;unfold ja;rw [kw];rcases e2 with ⟨a,b⟩|⟨a,b⟩|⟨a,b,c,tn⟩
 · rw [dL a,kw,bo b,lc,dM a,lc]
 · rw [bo a,lc,cV a,kw,b];rfl
 rw [bo a,lc,cV a,kw,bo b,lc]
theorem ang (jl:jW to) (e2:G4 k.jp.ci F2 R2):ja F2 R2 (bF F1 R1 (aS F0 R0 k to id aiS p)) (eM F2 R2 (bF F1 R1 (aS F0 R0 k to id aiS p)))=aiP (.done (.done (.done aiS))):=by
 show (bif R2.2 !=0 then _ else (c8 R2.1 F2.1 k.jp.ci to).bind fun b0=>aiP (Step.done (Step.done (Step.done b0))))=_;rcases e2 with ⟨a,b⟩|⟨a,b⟩|⟨a,b,c,tn⟩
 · rw [dL (by rw [b];exact a),kw]
 · rw [b];rfl
 have:c8 R2.1 F2.1 k.jp.ci to=aiP aiS:=AV tn c jl
 rw [bo b,lc,this];rfl
theorem anh (jl:jW to) (e2:G4 k.jp.ci F2 R2) (f2:dw k.jp.ii p=aiP F2) (t2:gK k p=aiP R2):
 jb F1 R1 (aS F0 R0 k to id aiS p) (bF F1 R1 (aS F0 R0 k to id aiS p))=aiP (.done (.done aiS)):=by
 show ((dw k.jp.ii p).bind fun a6=>(gK k p).bind fun a7=>aB (ja a6 a7 (bF F1 R1 (aS F0 R0 k to id aiS p))) (aiS,_))=_;rw [f2,aq,t2,aq,aM (anf e2 _)];exact aA (ang jl e2)
theorem ani (jl:jW to) (e1:G4 k.jp.ci F1 R1) (e2:G4 k.jp.ci F2 R2) (f1:gd k.jp.ii id=aiP F1) (t1:iX k id=aiP R1) (f2:dw k.jp.ii p=aiP F2) (t2:gK k p=aiP R2):
 k7 F0 R0 k to id aiS p (aS F0 R0 k to id aiS p)=aiP (.done aiS):=by
 show ((gd k.jp.ii id).bind fun a6=>(iX k id).bind fun a7=>aB (jb a6 a7 (aS F0 R0 k to id aiS p)) (aiS,_))=_;rw [f1,aq,t1,aq,aM (ane jl e1 _)];exact aA (anh jl e2 f2 t2)
end
theorem yX (k:bg) (p:Pt) (id:Int) (to:Int×Int) (n:Ud k.jp) (jl:jW to):rD k p id to=aiP aiS:=by
 unfold rD;rw [aq];rcases Uy n with e|⟨e,ok,h10⟩
 · rw [e];rfl
 rw [e,aq,Do,lc,lc];obtain ⟨F0,R0,f0,t0,e0⟩:=ai3 ok h10 p;obtain ⟨F1,R1,f1,t1,e1⟩:=abA ok h10 id;obtain ⟨F2,R2,f2,t2,e2⟩:=Q3 ok h10 p;rw [f0,aq,t0,aq,aM (anc jl e0 _)];exact aA (ani jl e1 e2 f1 t1 f2 t2)
theorem Ud.of {c:aH} (h1:RT.wf [.i .i64,.i .i64] c.ci) (h2: ∀a∈c.aa.bv,RT.wf [.i .i64,.i .i64,.i .i64,.i .i64,.i .i64] a):Ud c where
 ci:=⟨wf_i64 h1.1,wf_i64 h1.2⟩
 Nx w hw:=by have:=h2 (c.aa.bv[w]!) (by rw [getElem!_pos c.aa.bv w hw];exact adF hw);exact ⟨wf_i64 this.1,wf_i64 this.2.1⟩
end Go.Proofs.YtfejhjllooomlaaGreat
