/- Plain laws (4). -/
import Derived.Test.YtkdikjnhkfffjaaGreatPQM3
import Derived.Test.YtkdikjnhkfffjaaGreatPQS3
open List renaming length_singleton->EQ,replicate->If,mem_cons_of_mem->NE,length_map->PP,length_take->aai,mem_cons_self->aaP,length_replicate->aaQ,length_append->ab0,mem_map->abt,mem_append->abv,length_set->abw,nodup_cons->abx,append_nil->aby,mem_cons->abz,set_append_left->abC,length_cons->abD,mem_singleton->abE,mem_of_mem_take->abL,mem_of_mem_drop->abM,length_eraseIdx_of_lt->abP,pairwise_cons->abQ,take_of_length_le->abT,getElem_replicate->abU,length_filter_le->abV,length_drop->abX,cons_ne_nil->ac3,take_length->ac6,length_pos_iff->aci,nodup_nil->acm,drop_zero->acI,nodup_append->ad3,length_eq_zero_iff->ad4,drop_of_length_le->ad5,map_append->ad7,take_append_drop->ado,mem_erase_of_ne->adu,mem_map_of_mem->ae1,ne_nil_of_mem->ae6,not_mem_nil->aec,getElem_map->aed,foldl_cons->aei,mem_filter->aek,take_take->aeo,map->aeq,length->aeX
open Nat renaming le_refl->IR,lt_trichotomy->UV,zero_le->abq,le_trans->abr,div_div_eq_div_mul->abF,strongRecOn->abK,le_of_lt->ad6,mul_le_mul->adw,lt_or_ge->ae7,succ_mul->aeb,succ_ne_zero->aef,min_eq_left->aeg,div_le_self->aej,lt_irrefl->aeG,add_zero->aeR,pow_succ->aeS
open Classical renaming not_not->WF,byContradiction->abB,not_forall->abN,not_imp->abS,em->aeQ
open Int renaming toNat_natCast->abu,ofNat->ack,tdiv_eq_ediv_of_nonneg->acl,le_of_lt->aea,not_lt->aeE,lt_irrefl->aeJ
open Bool renaming not_true->abA,not_false->acF,and_self->ae2,true->afb,false->afd
open List.Perm renaming refl->acG,cons->aer
open Option.some renaming inj->adc
open And renaming intro->ae0
open Prod renaming ext->aem
open Option renaming some->af7
open Decidable renaming decide->afe
namespace Go.Proofs.YtkdikjnhkfffjaaGreat
open Go.Vm Classical
theorem Bx{f:List Pt}(aV:aR f){l:List Int}(pm:(cq f).Perm l):mM f (dN l):=by
 have nd:=pm.nodup_iff.1 (db aV.2.2);have f1:=aV.1;have ln:(aeX l)=(aeX f):=by rw[<-pm.length_eq];exact PP ..
 have hp: ∀e∈dN l,kr f e:=λe he=>⟨cz.1 (pm.mem_iff.2 (Hw he).1),cz.1 (pm.mem_iff.2 (Hw he).2)⟩
 refine⟨by rw[gU];omega,λe he=>?_,hp⟩;obtain⟨⟨p1,p2⟩,q1,q2⟩:=ae0 (bK aV (hp e he).1) (bK aV (hp e he).2);have ne:=Ri nd he;unfold fM at p1 q1;unfold jB;omega
def fO(l:List Int)(i j:Nat):List Int:=(l.set i l[j]!).set j l[i]!
theorem kv{l:List Int}{i j:Nat}(hi:i<aeX l)(hj:j<aeX l):(fO l i j).Perm l:=by
 unfold fO
 grind
theorem OS{i:Nat}(hi:i<1000000000)(h0:0<i):aa .i64 (Int.tdiv (aa .i64 ((i:Int)-1)) 2)=(((i-1) / 2:Nat):Int):=by
 grind[vt,acl,fN]
noncomputable def nC(f:List Pt)(t:Int×Int):Nat->List Int->List Int
 |0,l=>l
 |i+1,l=>if leads (bC f l[i+1]!) (bC f l[i / 2]!) t then nC f t (i / 2) (fO l (i+1) (i / 2))else l
termination_by i=>i
decreasing_by omega
theorem By(f:List Pt)(t:Int×Int): ∀(i:Nat) (l:List Int),i<aeX l->(nC f t i l).Perm l:=by
 intro i
 induction i using abK with
 |ind i ih=>
  intro l hi;cases i with
  |zero=>unfold nC;rfl
  |succ i=>
   unfold nC;split
   ·have sp:=kv hi (show i / 2<(aeX l) by omega)
    exact(ih (i / 2) (by omega) _ (by rw[sp.length_eq];omega)).trans sp
   rfl
theorem OT(p q:Pt)(t:Int×Int):LC p q t=(p.2.1*t.2+p.2.2*t.1) - (q.2.1*t.2+q.2.2*t.1):=by
 grind[Bv,Int.sub_mul]
theorem pE{p q r:Pt}{t:Int×Int}(h1:leads p q t)(h2:leads q r t):leads p r t:=by
 unfold leads at*
 grind[OT]
theorem fJ{p q:Pt}(t:Int×Int)(h:p.1≠q.1)(hn: ¬leads p q t):leads q p t:=by
 unfold leads at*
 grind[OT]
theorem iJ(l:List Int)(i j:Nat):(fO l i j).length=(aeX l):=by unfold fO;simp
theorem TR(l:List Int){i j:Nat}(_:i<aeX l)(hj:j<aeX l):(fO l i j)[j]! =l[i]!:=by
 unfold fO
 grind
noncomputable def Al(f:List Pt)(t:Int×Int):Nat->List Int->Nat
 |0,_=>0
 |i+1,l=>if leads (bC f l[i+1]!) (bC f l[i / 2]!) t then Al f t (i / 2) (fO l (i+1) (i / 2))else i+1
termination_by i=>i
decreasing_by omega
theorem Rk(f:List Pt)(t:Int×Int): ∀(i:Nat) (l:List Int),i<aeX l->Al f t i l<aeX l/\(nC f t i l)[Al f t i l]! =l[i]!:=by
 intro i
 induction i using abK with
 |ind i ih=>
  intro l hi;cases i with
  |zero=>unfold Al nC;omega
  |succ i=>
   unfold Al nC;split
   ·have hj:i / 2<(aeX l):=by omega
    obtain⟨h1,h2⟩:=ih (i / 2) (by omega) (fO l (i+1) (i / 2)) (by rw[iJ];exact hj);rw[iJ]at h1;exact⟨h1,by rw[h2,TR l hi hj]⟩
   omega
noncomputable def tF(f:List Pt)(t:Int×Int)(l:List Int)(i:Nat):Nat:=if 2*i+1<aeX l/\leads (bC f l[2*i+1]!) (bC f l[i]!) t then 2*i+1 else i
noncomputable def gV(f:List Pt)(t:Int×Int)(l:List Int)(i:Nat):Nat:=if 2*i+2<aeX l/\leads (bC f l[2*i+2]!) (bC f l[tF f t l i]!) t then 2*i+2 else tF f t l i
theorem uI(f:List Pt)(t:Int×Int)(l:List Int)(i:Nat):tF f t l i=i\/(tF f t l i=2*i+1/\2*i+1<aeX l):=by unfold tF;grind
theorem uJ(f:List Pt)(t:Int×Int)(l:List Int)(i:Nat):gV f t l i=i\/(i<gV f t l i/\gV f t l i<aeX l):=by unfold gV;grind[uI]
noncomputable def Am(f:List Pt)(t:Int×Int)(l:List Int)(i:Nat):List Int:=
 if _h:i<gV f t l i/\gV f t l i<(aeX l)then Am f t (fO l i (gV f t l i)) (gV f t l i)else l
termination_by (aeX l)-i
decreasing_by rw[iJ];omega
theorem ya{f:List Pt}{t:Int×Int}{l:List Int}{i:Nat}(h:gV f t l i=i):Am f t l i=l:=by unfold Am;grind
theorem Gh{f:List Pt}{t:Int×Int}{l:List Int}{i:Nat}(h:gV f t l i≠i):Am f t l i=Am f t (fO l i (gV f t l i)) (gV f t l i):=by
 have:=uJ f t l i
 conv=>lhs;unfold Am
 grind
theorem TS(f:List Pt)(t:Int×Int): ∀(d:Nat) (l:List Int) (i:Nat),aeX l-i<=d->i<aeX l->(Am f t l i).Perm l:=by
 intro d
 induction d with
 |zero=>omega
 |succ d ih=>
  intro l i h hi
  by_cases e:gV f t l i=i
  ·rw[ya e]
  grind[uJ,Gh,iJ,kv]
structure SO(P:Int->Int->Prop)(S:Int->Prop):Prop where
 X0: ∀a,S a-> ¬P a a
 tr: ∀a b c,S a->S b->S c->P a b->P b c->P a c
 Xd: ∀a b,S a->S b->a≠b->P a b\/P b a
abbrev par(j:Nat):Nat:=(j-1) / 2
def Hp(P:Int->Int->Prop)(l:List Int):Prop:= ∀j,0<j->j<aeX l-> ¬P l[j]! l[par j]!
section
variable {P : Int -> Int -> Prop} {S : Int -> Prop}
theorem SO.asym(o:SO P S){a b:Int}(ha:S a)(hb:S b)(h:P a b): ¬P b a:=λk=>o.X0 a ha (o.tr a b a ha hb ha h k)
theorem SO.ntr(o:SO P S){a b c:Int}(ha:S a)(hb:S b)(hc:S c)(h1: ¬P a b)(h2: ¬P b c): ¬P a c:=λh=>by
 by_cases e:b=c
 ·grind
 rcases o.Xd b c hb hc e with k|k
 ·exact h2 k
 exact h1 (o.tr a c b ha hc hb h k)
theorem SO.up(o:SO P S){a b c:Int}(ha:S a)(hb:S b)(hc:S c)(h1:P b c)(h2: ¬P a c): ¬P a b:=λh=>h2 (o.tr a b c ha hb hc h h1)
theorem kX(l:List Int){i j:Nat}(hi:i<aeX l)(hj:j<aeX l)(k:Nat):(fO l i j)[k]! =if k=j then l[i]! else if k=i then l[j]! else l[k]!:=by
 unfold fO
 grind
structure Vp(P:Int->Int->Prop)(l:List Int)(i:Nat):Prop where
 lt:i<aeX l
 el: ∀j,0<j->j<aeX l->j≠i-> ¬P l[j]! l[par j]!
 gr: ∀j,0<j->j<aeX l->par j=i->0<i-> ¬P l[j]! l[par i]!
theorem Hx(o:SO P S){f:List Pt}{t:Int×Int}(hP: ∀a b,P a b↔leads (bC f a) (bC f b) t): ∀(i:Nat) (l:List Int),(∀x∈l,S x)->Vp P l i->Hp P (nC f t i l):=by
 intro i
 induction i using abK with
 |ind i ih=>
  intro l hS v;have sm: ∀j,j<aeX l->S l[j]!:=λj hj=>hS _ (aE hj)
  cases i with
  |zero=>unfold nC;exact λj h1 h2=>v.el j h1 h2 (by omega)
  |succ i=>
   have hi:=v.lt;have hp:i / 2<(aeX l):=by omega
   have pe:par (i+1)=i / 2:=by rfl
   unfold nC;split
   ·rename_i hc
    have hc:=(hP _ _).2 hc;refine ih _ (by omega) _ (λx hx=>hS x ((kv hi hp).mem_iff.1 hx)) ⟨by rw[iJ];exact hp,λj h1 h2 h3=>?_,λj h1 h2 h3 h4=>?_⟩
    ·rw[iJ]at h2
     rw[kX l hi hp,kX l hi hp,Do h3]
     by_cases a:j=i+1
     ·subst a
      rw[AC rfl,pe,AC rfl];exact o.asym (sm _ hi) (sm _ hp) hc
     rw[Do a]
     by_cases b:par j=i / 2
     ·rw[b,AC rfl]
      have:=v.el j h1 h2 a;rw[b]at this;exact o.up (sm _ h2) (sm _ hi) (sm _ hp) hc this
     rw[Do b]
     by_cases d:par j=i+1
     ·rw[AC d]
      have:=v.gr j h1 h2 d (by omega)
      assumption
     rw[Do d];exact v.el j h1 h2 a
    rw[iJ]at h2
    have hq:par (i / 2)<(aeX l):=by grind
    have ne1:par (i / 2)≠i / 2:=by grind
    have ne2:par (i / 2)≠i+1:=by grind
    rw[kX l hi hp,kX l hi hp,Do ne1,Do ne2,Do (by grind)];have gp:=v.el _ h4 hp (by omega)
    by_cases a:j=i+1
    ·grind
    rw[Do a]
    have:=v.el j h1 h2 a;rw[h3]at this;exact o.ntr (sm _ h2) (sm _ hp) (sm _ hq) this gp
   rename_i hc
   intro j h1 h2
   by_cases a:j=i+1
   ·grind
   exact v.el j h1 h2 a
structure adv(P:Int->Int->Prop)(l:List Int)(i:Nat):Prop where
 lt:i<aeX l
 el: ∀j,0<j->j<aeX l->par j≠i-> ¬P l[j]! l[par j]!
 gr: ∀j,0<j->j<aeX l->par j=i->0<i-> ¬P l[j]! l[par i]!
theorem Rl(o:SO P S){f:List Pt}{t:Int×Int}(hP: ∀a b,P a b↔leads (bC f a) (bC f b) t){l:List Int}(sm: ∀j,j<aeX l->S l[j]!){i:Nat}(hi:i<aeX l):
 (gV f t l i=i\/P l[gV f t l i]! l[i]!)/\ ∀j,0<j->j<aeX l->par j=i-> ¬P l[j]! l[gV f t l i]!:=by
 have hA:(tF f t l i=i\/P l[tF f t l i]! l[i]!)/\(2*i+1<aeX l-> ¬P l[2*i+1]! l[tF f t l i]!)/\tF f t l i<(aeX l):=by
  unfold tF;split
  ·rename_i h
   exact⟨.inr ((hP _ _).2 h.2),λ_=>o.X0 _ (sm _ h.1),h.1⟩
  rename_i h
  exact⟨.inl rfl,λhl c=>h ⟨hl,(hP _ _).1 c⟩,hi⟩
 obtain⟨a1,a2,a3⟩:=hA;have ch: ∀j,0<j->par j=i->j=2*i+1\/j=2*i+2:=λj h1 h2=>by simp[par]at h2;omega
 unfold gV;split
 ·rename_i h
  have h2:=(hP _ _).2 h.2;refine⟨.inr ?_,λj h1 hl hp=>?_⟩
  ·rcases a1 with e|e
   ·rw[e]at h2;exact h2
   exact o.tr _ _ _ (sm _ h.1) (sm _ a3) (sm _ hi) h2 e
  rcases ch j h1 hp with rfl|rfl
  ·exact o.ntr (sm _ hl) (sm _ a3) (sm _ h.1) (a2 hl) (o.asym (sm _ h.1) (sm _ a3) h2)
  exact o.X0 _ (sm _ hl)
 grind
theorem Xe(o:SO P S){f:List Pt}{t:Int×Int}(hP: ∀a b,P a b↔leads (bC f a) (bC f b) t): ∀(d:Nat) (l:List Int) (i:Nat),aeX l-i<=d->(∀x∈l,S x)->adv P l i->Hp P (Am f t l i):=by
 intro d
 induction d with
 |zero=>intro l i h _ v;have:=v.lt;omega
 |succ d ih=>
  intro l i h hS v;have sm: ∀j,j<aeX l->S l[j]!:=λj hj=>hS _ (aE hj)
  have hi:=v.lt;obtain⟨b1,b2⟩:=Rl o hP sm hi
  by_cases e:gV f t l i=i
  ·rw[ya e]
   intro j h1 h2
   by_cases c:par j=i
   ·grind
   exact v.el j h1 h2 c
  rw[Gh e]
  have kc:=uJ f t l i;have ki:gV f t l i=2*i+1\/gV f t l i=2*i+2:=by
   have:=uI f t l i;unfold gV at e ⊢
   grind
  have hb:gV f t l i<(aeX l):=by omega
  have pb:par (gV f t l i)=i:=by grind
  have hbi:=b1.resolve_left e;generalize gV f t l i=b at*;refine ih _ b (by rw[iJ];omega) (λx hx=>hS x ((kv hi hb).mem_iff.1 hx)) ⟨by rw[iJ];exact hb,λj h1 h2 h3=>?_,λj h1 h2 h3 h4=>?_⟩
  ·rw[iJ]at h2
   rw[kX l hi hb,kX l hi hb,Do h3]
   by_cases a:j=b
   ·subst a
    rw[AC rfl,pb,AC rfl];exact o.asym (sm _ hb) (sm _ hi) hbi
   rw[Do a]
   by_cases c:j=i
   ·subst c
    rw[AC rfl,Do (by grind)];exact v.gr b (by omega) hb pb h1
   rw[Do c]
   by_cases g:par j=i
   ·grind
   rw[Do g];exact v.el j h1 h2 g
  rw[iJ]at h2
  have j1:j≠b:=by simp[par]at h3;omega
  have j2:j≠i:=by simp[par]at h3;omega
  rw[kX l hi hb,kX l hi hb,Do j1,Do j2,pb,Do (by omega),AC rfl];have:=v.el j h1 h2 (by omega)
  grind
theorem Xf{f:List Pt}{t:Int×Int}{l:List Int}{i:Nat}(h:0<i-> ¬leads (bC f l[i]!) (bC f l[par i]!) t):nC f t i l=l/\Al f t i l=i:=by
 cases i with
 |zero=>unfold nC Al;simp
 |succ i=>
  have pe:par (i+1)=i / 2:=by simp only[par];omega
  unfold nC Al
  grind
theorem Xg(o:SO P S){f:List Pt}{t:Int×Int}(hP: ∀a b,P a b↔leads (bC f a) (bC f b) t){l:List Int}(sm: ∀j,j<aeX l->S l[j]!)(h:Hp P l){i:Nat}(hi:i<aeX l):Am f t l i=l:=by
 refine ya ?_;rcases(Rl o hP sm hi).1 with e|e
 ·exact e
 have kc:=uJ f t l i
 have kA:=uI f t l i;rcases aeQ _ with q|q
 ·exact q
 have pk:par (gV f t l i)=i:=by
  simp[par];unfold gV at q ⊢;split
  ·omega
  rename_i hh;rw[Do hh]at q;omega
 have:=h (gV f t l i) (by omega) (by omega)
 grind
theorem Rm(o:SO P S){f:List Pt}{t:Int×Int}(hP: ∀a b,P a b↔leads (bC f a) (bC f b) t){l:List Int}(hS: ∀x∈l,S x){a:Nat}(ha:a<aeX l)
 (h1: ∀j,0<j->j<aeX l->j≠a->par j≠a-> ¬P l[j]! l[par j]!) (h2: ∀j,0<j->j<aeX l->par j=a->0<a-> ¬P l[j]! l[par a]!):
 Hp P (Am f t (nC f t a l) (Al f t a l)):=by
 have sm: ∀j,j<aeX l->S l[j]!:=λj hj=>hS _ (aE hj)
 by_cases c:0<a/\P l[a]! l[par a]!
 ·have rv:Vp P l a:=⟨ha,λj j1 j2 j3=>by
   by_cases e:par j=a
   ·rw[e]
    exact o.up (sm _ j2) (sm _ ha) (sm _ (by simp[par];omega)) c.2 (h2 j j1 j2 e c.1)
   grind,h2⟩
  have hh:=Hx o hP a l hS rv;have pm:=By f t a l ha;have ri:=(Rk f t a l ha).1;rw[Xg o hP (λj hj=>hS _ (pm.mem_iff.1 (aE hj))) hh (by rw[pm.length_eq];exact ri)];exact hh
 have c':=λh0 h=>c ⟨h0,(hP _ _).2 h⟩
 obtain⟨e1,e2⟩:=Xf c';rw[e1,e2];refine Xe o hP _ l a (IR _) hS ⟨ha,λj j1 j2 j3=>?_,h2⟩
 grind
end
theorem C5{f:List Pt}(aV:aR f)(k:Nat):aR (f.eraseIdx k):=by
 refine⟨abr (List.length_eraseIdx_le f k) aV.1,λp hp=>aV.2.1 p (List.mem_of_mem_eraseIdx hp),?_⟩;have h:=aV.2.2;intro i hi
 by_cases hk:k<aeX f
 ·have:=Gc hk
  rw[KO,KO];split<;>split<;>exact fD h (by omega) (by omega)
 rw[List.eraseIdx_of_length_le (by omega)]at hi ⊢
 exact h i hi
theorem Rn{f:List Pt}(aV:aR f){k:Nat}(hk:k<aeX f):lQ ⟨f⟩ (f[k]!).1=af7 ((k:Int),0):=by
 have h1:=aV.1;have hc:cU ⟨f⟩=af7 0:=by rw[eW];exact congrArg af7 (dM.2 aV)
 have bs:=tj f (f[k]!).1 (by omega) (λi j=>fD aV.2.2);unfold lQ kL;rw[DP]
 grind
theorem L9{f:List Pt}(aV:aR f){id:Int}(h: ¬dY f id):lQ ⟨f⟩ id=af7 (0,6):=by
 have h1:=aV.1;have hc:cU ⟨f⟩=af7 0:=by rw[eW];exact congrArg af7 (dM.2 aV)
 have bs:=tj f id (by omega) (λi j=>fD aV.2.2);obtain⟨m,_,_,_,e⟩:=bs.2 (λk hk he=>h ⟨k,hk,he⟩);unfold lQ kL;simp_all[DP,]
theorem OU:mi=dF:=rfl
theorem Bz{f:List Pt}(aV:aR f){k:Nat}(hk:k<aeX f):cO ⟨f⟩ (f[k]!).1=af7 (⟨f.eraseIdx k⟩,0):=by
 have f1:=aV.1
 obtain⟨L,d1,d2⟩:=yX f k hk
 unfold cO;rw[Rn aV hk,aj,bw rfl,ww,cM (show(aeX f)<=1048576 by omega),aj,aM (show k<1000000000 by omega),OU,d1,aj]
 grind
theorem xg{f:List Pt}(aV:aR f){id:Int}(h: ¬dY f id):cO ⟨f⟩ id=af7 (⟨[]⟩,6):=by
 unfold cO
 rw[L9 aV h];rfl
def qz(f:List Pt)(m:Nat)(p:Pt):List Pt:=f.take m++p::f.drop m
structure Ro(f:List Pt)(p:Pt)(m:Nat):Prop where
 le:m<=aeX f
 lo: ∀i,i<m->(f[i]!).1<p.1
 hi: ∀i,m<=i->i<aeX f->p.1<(f[i]!).1
theorem Ao{f:List Pt}{m:Nat}(h:m<=aeX f)(p:Pt):(qz f m p).length=aeX f+1:=by unfold qz;grind
theorem Nb{f:List Pt}{m:Nat}(h:m<=aeX f)(p:Pt)(i:Nat):(qz f m p)[i]! =if i<m then f[i]! else if i=m then p else f[i-1]!:=by
 unfold qz
 grind
theorem Gi{f:List Pt}(aV:aR f){p:Pt}(po:fM p){m:Nat}(h:Ro f p m)(hl:(aeX f)<64):aR (qz f m p):=by
 refine⟨by rw[Ao h.le];omega,λq hq=>?_,λi hi=>?_⟩
 ·rcases abv.1 hq with hq|hq
  ·exact aV.2.1 q (abL hq)
  rcases abz.1 hq with rfl|hq
  ·exact po
  exact aV.2.1 q (abM hq)
 rw[Ao h.le]at hi
 rw[Nb h.le,Nb h.le];rcases UV (i+1) m with c|c|c
 ·rw[AC (by omega),AC c];exact fD aV.2.2 (by omega) (by have:=h.le;omega)
 ·rw[AC (by omega),Do (by omega),AC c];exact h.lo i (by omega)
 rw[Do (show¬i+1<m by omega),Do (show¬i+1=m by omega),Nat.add_sub_cancel]
 by_cases d:i=m
 ·rw[Do (by omega),AC d];exact h.hi i (by omega) (by omega)
 rw[Do (by omega),Do d];exact fD aV.2.2 (by omega) (by omega)
theorem TU{f:List Pt}(aV:aR f){p:Pt}(h: ¬dY f p.1): ∃m,Ro f p m/\kL ⟨f⟩ p.1=af7 ((m:Int),afd):=by have h1:=aV.1;obtain⟨m,a,b,c,e⟩:=(tj f p.1 (by omega) (λi j=>fD aV.2.2)).2 (λk hk he=>h ⟨k,hk,he⟩);refine⟨m,⟨a,b,c⟩,?_⟩;unfold kL;rw[DP,e];rfl
theorem TV{f:List Pt}(aV:aR f){id:Int}(h:dY f id): ∃k,k<aeX f/\(f[k]!).1=id/\kL ⟨f⟩ id=af7 ((k:Int),afb):=by have h1:=aV.1;obtain⟨k,hk,he⟩:=h;refine⟨k,hk,he,?_⟩;unfold kL;rw[DP,(tj f id (by omega) (λi j=>fD aV.2.2)).1 k hk he];rfl
theorem tH{f:List Pt}(aV:aR f)(p:Pt):
 (∃e:Int,e≠0/\dv ⟨f⟩ p=af7 (⟨[]⟩,e))\/
 (∃m,Ro f p m/\ ¬dY f p.1/\fM p/\aeX f<64/\dv ⟨f⟩ p=af7 (⟨qz f m p⟩,0)):=by
 have f1:=aV.1;have hc:cU ⟨f⟩=af7 0:=by rw[eW];exact congrArg af7 (dM.2 aV)
 by_cases po:fM p
 case neg=>
  refine .inl ⟨8,by decide,?_⟩
  unfold dv;rw[hc,aj,bw rfl,ww,lz,Do po];rfl
 by_cases hp:dY f p.1
 ·obtain⟨k,hk,he,e⟩:=TV aV hp
  refine .inl ⟨14,by decide,?_⟩
  unfold dv;simp_all[lz,]
 obtain⟨m,hm,e⟩:=TU aV hp
 by_cases full:(aeX f)=64
 ·refine .inl ⟨18,by decide,?_⟩
  unfold dv;rw[hc,aj,bw rfl,ww,lz,AC po,aj,bw rfl,ww,e,aj,ww]
  grind
 have hl:(aeX f)<64:=by omega
 have hf:(ack (aeX f)==64)=afd:=by grind
 refine .inr ⟨m,hm,hp,po,hl,?_⟩
 have hi:Dr f (m:Int) [p]=af7 (qz f m p):=by
  unfold Dr;rw[AC ⟨by omega,by have:=hm.le;simpa using this,rfl,by omega⟩];simp[qz]
 unfold dv;rw[hc,aj,bw rfl,ww,lz,AC po,aj,bw rfl,ww,e,aj,ww,hf,ww,cM (show(aeX f)<=1048576 by omega),aj,hi,aj]
noncomputable def mb(f:List Pt)(es:List (Int×Int)):Int:=if¬(∀x∈es,jB x)then 8 else if¬es.Nodup then 14 else if¬(∀x∈es,kr f x)then 6 else 0
def rP(c:aH)(f:List Pt)(es:List (Int×Int))(i:Nat):=
 (es,es,((aeX es):Int),(i:Int),c.ci.1,c.ci.2,c.ii.am,c.af.aW,c.af.ce,c.ae.ai.ay,c.ae.ai.be,c.ae.ai.bi,c.ae.bv,c.ae.aC,c.io,f,(0:Int),(0:Int),(0:Int))
theorem yb{c:aH}(ok:aT c){f:List Pt}(aV:aR f){es:List (Int×Int)}(hl:(aeX es)<=1000){r:aH×Int}(hr:mb f es=0->gX c ⟨f⟩ es=af7 r):
 gq c ⟨f⟩ es=af7 (if mb f es=0 then r else(eQ,mb f es)):=by
 have bd:=ok.bd;have ab:=ok.nB.bd;have sl:=ok.nB.so.fl;have sn:=ok.nB.so.n2;have su:=ok.nB.so.ul;have el:afe (((aeX es):Int)<((aeX es):Int))=afd:=aA (by omega);have hc:fG c=af7 0:=by rw[iF ok.fit,AC ok]
 have hf:cU ⟨f⟩=af7 0:=by rw[eW];exact congrArg af7 (dM.2 aV)
 have tw:xQ (aH.mk (c.ci.1,c.ci.2) (Field.mk c.ii.am) (cm.mk c.af.aW c.af.ce) (aS.mk (bF.mk c.ae.ai.ay c.ae.ai.be c.ae.ai.bi) c.ae.bv c.ae.aC) c.io)=af7 c:=by unfold xQ;simp (disch:=omega) only[cM,aj]
 have k3: ∀e2:aH×Int,aq gE (rP c f es 0)=af7 (.done e2)->aq iA (rP c f es 0)=af7 (if∀i,i<aeX es->jB es[i]! then e2 else(eQ,8)):=by
  intro e2 h2;refine kV (λi=>rP c f es i) (aeX es) (λi=>jB es[i]!) (λi hi=>?_) ?_
  ·have e1:afe ((i:Int)<((aeX es):Int))=afb:=az (by omega)
   unfold iA rP jB;simp (disch:=omega) only[e1,ar es i hi,aj,aM];generalize es[i]! =x
   by_cases a1:x.1<0
   ·rw[az a1];exact⟨λ_=>rfl,λh=>by omega⟩
   rw[aA a1]
   by_cases a2:x.2<0
   ·rw[az a2];exact⟨λ_=>rfl,λh=>by omega⟩
   rw[aA a2]
   by_cases a3:65535<x.1
   ·rw[az a3];exact⟨λ_=>rfl,λh=>by omega⟩
   rw[aA a3]
   by_cases a4:65535<x.2
   ·rw[az a4];exact⟨λ_=>rfl,λh=>by omega⟩
   rw[aA a4]
   by_cases a5:x.1=x.2
   ·rw[lZ a5];exact⟨λ_=>rfl,λh=>absurd a5 h.2.2.2.2⟩
   rw[jA a5];exact⟨λh=>absurd ⟨by omega,by omega,by omega,by omega,a5⟩ h,λ_=>rfl⟩
  unfold iA rP
  simp[ww];exact h2
 have k2: ∀e1:aH×Int,aq jg (rP c f es 0)=af7 (.done (.done e1))->aq gE (rP c f es 0)=af7 (.done (if∀i,i<aeX es->es[i]!∉es.take i then e1 else(eQ,14))):=by
  intro e0 h2;have:=kV (body:=gE) (λi=>rP c f es i) (aeX es) (λi=>es[i]!∉es.take i) (λi hi=>by
   have e1:afe ((i:Int)<((aeX es):Int))=afb:=az (by omega);unfold gE rP;simp (disch:=omega) only[e1,v6,ar es i hi,rG,aj,ie _ _ (show(es.take i).length<=1000000 by rw[aai];omega),aM]
   by_cases h:es[i]!∈es.take i
   ·rw[az h];exact⟨λ_=>rfl,λk=>absurd h k⟩
   ·rw[aA h];exact⟨λk=>absurd h k,λ_=>rfl⟩) (by
   unfold gE rP;simp[aK,el,ww];exact h2)
  refine this.trans ?_
  by_cases hb: ∀i,i<aeX es->es[i]!∉es.take i
  ·rw[AC hb,AC hb]
  rw[Do hb,Do hb]
 have aaK: ∀i,i<aeX es->(¬kr f es[i]!->jg (rP c f es i)=af7 (.done (.done (.done (eQ,6)))))/\(kr f es[i]!->jg (rP c f es i)=af7 (.next (rP c f es (i+1)))):=by
  intro i hi;have e1:afe ((i:Int)<((aeX es):Int))=afb:=az (by omega);obtain⟨p,e,a1,a2⟩:=El aV (es[i]!).1;obtain⟨q,g,b1,b2⟩:=El aV (es[i]!).2;unfold jg rP kr;simp (disch:=omega) only[e1,v6,ar es i hi,aj,a1,b1,aM]
  by_cases h1:dY f (es[i]!).1
  ·rw[bw (a2.2 h1)]
   by_cases h2:dY f (es[i]!).2
   ·rw[bw (b2.2 h2)]
    exact⟨λh=>absurd ⟨h1,h2⟩ h,λ_=>rfl⟩
   rw[dV (λh=>h2 (b2.1 h))]
   exact⟨λ_=>rfl,λh=>absurd h.2 h2⟩
  rw[dV (λh=>h1 (a2.1 h))]
  exact⟨λ_=>rfl,λh=>absurd h.1 h1⟩
 have start:gq c ⟨f⟩ es=aq iA (rP c f es 0):=by unfold gq;simp[hc,aj,show((0:Int) !=0)=afd from rfl,ww,hf];rfl
 rw[start]
 by_cases h1: ∀x∈es,jB x
 case neg=>
  have er:mb f es=8:=by unfold mb;rw[AC h1]
  rw[er,Do (by omega)];have:=eo (body:=iA) (λi=>rP c f es i) (aeX es) (λi=> ¬jB es[i]!) (r:=(eQ,8)) (e:=r);have k3':=k3;rw[C3]at h1;obtain⟨i,h⟩:=abN.1 h1;obtain⟨hi,hx⟩:=abS.1 h;obtain⟨m,m1,m2,m3⟩:=least (c:=λi=> ¬jB es[i]!) ⟨i,hi,hx⟩;have go: ∀j,j<aeX es->(¬jB es[j]!->iA (rP c f es j)=af7 (.done (eQ,8)))/\(jB es[j]!->iA (rP c f es j)=af7 (.next (rP c f es (j+1)))):=by
   intro j hj;have e1:afe ((j:Int)<((aeX es):Int))=afb:=az (by omega);unfold iA rP jB;simp (disch:=omega) only[e1,v6,ar es j hj,aj,aM];generalize es[j]! =x
   by_cases a1:x.1<0
   ·rw[az a1];exact⟨λ_=>rfl,λh=>by omega⟩
   rw[aA a1]
   by_cases a2:x.2<0
   ·rw[az a2];exact⟨λ_=>rfl,λh=>by omega⟩
   rw[aA a2]
   by_cases a3:65535<x.1
   ·rw[az a3];exact⟨λ_=>rfl,λh=>by omega⟩
   rw[aA a3]
   by_cases a4:65535<x.2
   ·rw[az a4];exact⟨λ_=>rfl,λh=>by omega⟩
   rw[aA a4]
   by_cases a5:x.1=x.2
   ·rw[lZ a5];exact⟨λ_=>rfl,λh=>absurd a5 h.2.2.2.2⟩
   rw[jA a5];exact⟨λh=>absurd ⟨by omega,by omega,by omega,by omega,a5⟩ h,λ_=>rfl⟩
  rw[bz (λi=>rP c f es i) m λj hj=>(go j (by omega)).2 (WF.1 (m3 j hj))];exact au ((go m m1).1 m2)
 have Y9:=(C3).1 h1
 by_cases h2:es.Nodup
 case neg=>
  have er:mb f es=14:=by unfold mb;rw[Do (WF.2 h1),AC h2]
  rw[er,Do (by omega)];have h2':=h2;rw[KX]at h2';obtain⟨i,h⟩:=abN.1 h2';obtain⟨hi,hx⟩:=abS.1 h;obtain⟨m,m1,m2,m3⟩:=least (c:=λi=> ¬es[i]!∉es.take i) ⟨i,hi,hx⟩;have go: ∀j,j<aeX es->(es[j]!∈es.take j->gE (rP c f es j)=af7 (.done (.done (eQ,14))))/\(es[j]!∉es.take j->gE (rP c f es j)=af7 (.next (rP c f es (j+1)))):=by
   intro j hj;have e1:afe ((j:Int)<((aeX es):Int))=afb:=az (by omega);unfold gE rP;simp (disch:=omega) only[e1,v6,ar es j hj,rG,aj,ie _ _ (show(es.take j).length<=1000000 by rw[aai];omega),aM]
   by_cases h:es[j]!∈es.take j
   ·rw[az h];exact⟨λ_=>rfl,λk=>absurd h k⟩
   rw[aA h];exact⟨λk=>absurd k h,λ_=>rfl⟩
  have l2:aq gE (rP c f es 0)=af7 (.done (eQ,14)):=by rw[bz (λi=>rP c f es i) m λj hj=>(go j (by omega)).2 (WF.1 (m3 j hj))];exact au ((go m m1).1 (WF.1 m2))
  rw[k3 _ l2,AC Y9]
 have h2':=KX.1 h2
 by_cases h3: ∀x∈es,kr f x
 case neg=>
  have er:mb f es=6:=by unfold mb;rw[Do (WF.2 h1),Do (WF.2 h2),AC h3]
  rw[er,Do (by omega)];have h3':=h3;rw[C3]at h3';obtain⟨i,h⟩:=abN.1 h3';obtain⟨hi,hx⟩:=abS.1 h;obtain⟨m,m1,m2,m3⟩:=least (c:=λi=> ¬kr f es[i]!) ⟨i,hi,hx⟩;have l1:aq jg (rP c f es 0)=af7 (.done (.done (eQ,6))):=by rw[bz (λi=>rP c f es i) m λj hj=>(aaK j (by omega)).2 (WF.1 (m3 j hj))];exact au ((aaK m m1).1 m2)
  rw[k3 _ (k2 _ l1),AC Y9,AC h2']
 have h3':=(C3).1 h3;have er:mb f es=0:=by unfold mb;rw[Do (WF.2 h1),Do (WF.2 h2),Do (WF.2 h3)]
 rw[er,AC rfl];have l1:aq jg (rP c f es 0)=af7 (.done (.done r)):=by rw[bz (λi=>rP c f es i) (aeX es) λj hj=>(aaK j hj).2 (h3' j hj)];refine au ?_;unfold jg rP;simp[el,ww,tw,aj,hr er]
 grind
theorem Xh{c:aH}(ok:aT c){f:List Pt}(aV:aR f){es:List _}(oL:mM f es)(nd:es.Nodup)(el:(aeX es)<=1000):
 ∃R:aH×Int,gq c ⟨f⟩ es=af7 R/\(R.2=0/\yY c f es R.1\/R=(eQ,18)):=by
 obtain⟨R,r1,r3⟩:=Gf ok aV oL;have ee:mb f es=0:=by unfold mb;rw[Do (WF.2 oL.cv),Do (WF.2 nd),Do (λh=>h oL.kn)]
 simp_all[yb,]
theorem DR{l:List Int}{x:Int}(hl:(aeX l)<=1000000)(hx:x∈l): ∃k,k<aeX l/\l[k]! =x/\dt l x=af7 (k:Int):=by
 obtain⟨k,k1,k2,k3⟩:=least (aN.1 hx)
 grind[Ak]
theorem yc(l:List Int)(hl:(aeX l)<=1000):yR l=af7 (dN l):=by
 have n:aa .i64 (((aeX l):Int) - (if((aeX l):Int)<1 then((aeX l):Int)else 1))=((aeX l-1:Nat):Int):=by
  split
  ·rw[fN ⟨by omega,by omega⟩];omega
  rw[fN ⟨by omega,by omega⟩];omega
 have key:=bz (body:=pq) (λi=>(l,((aeX l-1:Nat):Int),(i:Int),xZ l i)) (aeX l-1) (λi hi=>by
  have e:aa .i64 (Int.tdiv (i:Int) 2)=((i / 2:Nat):Int):=by rw[acl (by omega),fN ⟨by omega,by omega⟩];omega
  unfold pq;simp only[az (show(i:Int)<((aeX l-1:Nat):Int) by omega),v6,aM (show i<1000000000 by omega),ar l (i+1) (by omega),e,ar l (i / 2) (by omega),aj];rw[bG (by rw[gU,EQ];omega),aj,<-Is])
 unfold yR;simp[aK,n];rw[show aq pq (l,((aeX l-1:Nat):Int),0,[])=_ from key];refine au ?_;unfold pq;simp
theorem OV{f:List Pt}(aV:aR f){t:Int×Int}(r:bo t)(dX:jb t){a b:Int}(ha:dY f a)(hb:dY f b)(fo:a≠b):df (bC f a) (bC f b) t=af7 (afe (leads (bC f a) (bC f b) t),0):=by
 obtain⟨p1,p2⟩:=bK aV ha;obtain⟨q1,q2⟩:=bK aV hb;have ne:(bC f a).1≠(bC f b).1:=by rw[p2,q2];exact fo
 rcases lC p1 q1 dX r with h|⟨h,_⟩
 ·rw[h,Do ne]
 omega
def tS(k:bX)(f:List Pt)(m n0 i:Nat)(L:List Int):=
 ((i:Int),k.jp.ci.1,k.jp.ci.2,k.jp.ii.am,k.jp.af.aW,k.jp.af.ce,k.jp.ae.ai.ay,k.jp.ae.ai.be,k.jp.ae.ai.bi,k.jp.ae.bv,k.jp.ae.aC,k.jp.io,k.bv,(0:Int),(0:Int),(0:Int),f,L,f,k.jp.ci.1,k.jp.ci.2,m,n0)
def tJ(k:bX)(f:List Pt)(m n0 i:Nat)(L:List Int)(p q:Pt):=
 ((i:Int),k.jp.ci.1,k.jp.ci.2,k.jp.ii.am,k.jp.af.aW,k.jp.af.ce,k.jp.ae.ai.ay,k.jp.ae.ai.be,k.jp.ae.ai.bi,k.jp.ae.bv,k.jp.ae.aC,k.jp.io,k.bv,(0:Int),(0:Int),(0:Int),f,L,f,k.jp.ci.1,k.jp.ci.2,m,n0,p.1,p.2.1,p.2.2,q)
structure BA(k:bX)(f:List Pt):Prop where
 iG:aT k.jp
 aV:aR f
structure wm(f:List Pt)(m:Nat)(l:List Int):Prop where
 len:(aeX l)=m
 small:m<=100
 hp: ∀x∈l,dY f x
 nd:l.Nodup
theorem tk{l:List Int}{m:Nat}{x:Int}(h:(aeX l)=m):(l++[x]).take m=l:=by grind
section
variable {k : bX} {f : List Pt} {m n0 : Nat} {x : Int}
theorem Vq(ok:BA k f){c0:_}{c1:List Int}{l:List Int}(hl:wm f m l){i b j:Nat}(hi:i<m)(hb:b<m)(hj:j<m)(h2:j<=2*i+2)(fo:j≠b):
 mn c0 c1 ((i:Int),(b:Int),(j:Int),(tS k f m n0 i (l++[x])).2)=af7 (.next ((i:Int),((if leads (bC f l[j]!) (bC f l[b]!) k.jp.ci then j else b:Nat):Int),((j+1:Nat):Int),(tS k f m n0 i (l++[x])).2)):=by
 have hm:=hl.len;have m1:=hl.small;have e:aa .i64 (aa .i64 (2*(i:Int))+2)=((2*i+2:Nat):Int):=by rw[show aa .i64 _=2*(i:Int)from fN ⟨by omega,by omega⟩,fN ⟨by omega,by omega⟩];omega
 have pj:=hl.hp _ (aE (show j<(aeX l) by omega));have pb:=hl.hp _ (aE (show b<(aeX l) by omega));have ne:l[j]!≠l[b]!:=λh=>by
  rcases UV j b with q|q|q
  ·exact bJ.1 hl.nd _ _ q (by omega) h
  ·exact fo q
  exact bJ.1 hl.nd _ _ q (by omega) h.symm
 have a:=OV ok.aV ok.iG.gZ ok.iG.dP pj pb ne;unfold mn tS;simp (disch:=omega) only[tk hm,ar,aj,eZ ok.aV pj,eZ ok.aV pb,aM]
 grind
theorem ahh{c1:List Int}(hc:(aeX c1)=m+1){L0:List Int}(h0:(aeX L0)=m+1){n1 i0:Nat}{l:List Int}(hl:wm f m l){i b j:Nat}(hi:i<m)(hb:b<m)(he: ¬(j<=2*i+2/\j<m)):
 mn (tS k f m n1 i0 L0) c1 ((i:Int),(b:Int),(j:Int),(tS k f m n0 i (l++[x])).2)=if b=i then(bY k.jp ⟨f⟩ l).bind λa=>af7 (.done (.done (.done a)))else af7 (.done (.next (tS k f m n0 b (fO l i b++[x])))):=by
 have hm:=hl.len;have m1:=hl.small;have e:aa .i64 (aa .i64 (2*(i:Int))+2)=((2*i+2:Nat):Int):=by
  grind[fN]
 have ec:(aa .i64 (((aeX c1):Int)-1)).toNat=m:=by grind[fN]
 have lx:(l++[x]).length=(aeX L0):=by grind
 have sa:(l++[x]).set i l[b]! =l.set i l[b]!++[x]:=abC _ _ (by omega);have sb:(l.set i l[b]!++[x]).set b l[i]! =fO l i b++[x]:=abC _ _ (by grind);have t1:(l.set i l[b]!++[x]).take m=l.set i l[b]!:=tk (by grind);have g1:=ar (l.set i l[b]!) b (by grind);have B5:(aH.mk (k.jp.ci.1,k.jp.ci.2) (Field.mk k.jp.ii.am) (cm.mk k.jp.af.aW k.jp.af.ce) (aS.mk (bF.mk k.jp.ae.ai.ay k.jp.ae.ai.be k.jp.ae.ai.bi) k.jp.ae.bv k.jp.ae.aC) k.jp.io)=k.jp:=rfl;unfold mn tS
 by_cases h1:j<=2*i+2
 ·have h2:=λh=>he ⟨h1,h⟩
  simp (disch:=omega) only[tk hm,ar,fI,B5]
  grind
 simp (disch:=omega) only[tk hm,ar,fI,B5]
 grind
theorem alw(ok:BA k f){c1:List Int}(hc:(aeX c1)=m+1){L0:List Int}(h0:(aeX L0)=m+1){n1 i0:Nat}{l:List Int}(hl:wm f m l){i:Nat}(hi:i<m){R:List Int->bX×Int}(hR:bY k.jp ⟨f⟩ l=af7 (R l)):
 aq (mn (tS k f m n1 i0 L0) c1) ((i:Int),(i:Int),((2*i+1:Nat):Int),(tS k f m n0 i (l++[x])).2)=af7 (if gV f k.jp.ci l i=i then .done (.done (R l))else .next (tS k f m n0 (gV f k.jp.ci l i) (fO l i (gV f k.jp.ci l i)++[x]))):=by
 have hm:=hl.len;have fin: ∀b j:Nat,b<m-> ¬(j<=2*i+2/\j<m)->gV f k.jp.ci l i=b->aq (mn (tS k f m n1 i0 L0) c1) ((i:Int),(b:Int),(j:Int),(tS k f m n0 i (l++[x])).2)=af7 (if gV f k.jp.ci l i=i then .done (.done (R l))else .next (tS k f m n0 (gV f k.jp.ci l i) (fO l i (gV f k.jp.ci l i)++[x]))):=by
  intro b j hb he hk;rw[hk];have:=ahh (k:=k) (n0:=n0) (x:=x) hc h0 (n1:=n1) (i0:=i0) hl hi hb he
  by_cases hbi:b=i
  ·rw[AC hbi,hR,aj]at this
   rw[AC hbi];exact au this
  rw[Do hbi]at this
  rw[Do hbi];exact au this
 have kA:tF f k.jp.ci l i<m:=by rcases uI f k.jp.ci l i with h|⟨h,h2⟩<;>omega
 by_cases h1:2*i+1<m
 case neg=>
  have e1:tF f k.jp.ci l i=i:=by unfold tF;rw[Do (λh=>h1 (by omega))]
  have e2:gV f k.jp.ci l i=i:=by unfold gV;rw[Do (λh=>h1 (by omega)),e1]
  exact fin i _ hi (λh=>h1 h.2) e2
 rw[aQ (Vq ok hl hi hi h1 (by omega) (by omega))];have eA:(if leads (bC f l[2*i+1]!) (bC f l[i]!) k.jp.ci then 2*i+1 else i)=tF f k.jp.ci l i:=by
  unfold tF
  by_cases c:leads (bC f l[2*i+1]!) (bC f l[i]!) k.jp.ci
  ·rw[AC c,AC ⟨by omega,c⟩]
  rw[Do c,Do (λh=>c h.2)]
 rw[eA]
 by_cases h2:2*i+1+1<m
 case neg=>
  have e2:gV f k.jp.ci l i=tF f k.jp.ci l i:=by unfold gV;rw[Do (λh=>h2 (by omega))]
  exact fin _ _ kA (λh=>h2 h.2) e2
 have nk:2*i+1+1≠tF f k.jp.ci l i:=by rcases uI f k.jp.ci l i with h|⟨h,_⟩<;>omega
 rw[aQ (Vq ok hl hi kA h2 (by omega) nk)];have eG:(if leads (bC f l[2*i+1+1]!) (bC f l[tF f k.jp.ci l i]!) k.jp.ci then 2*i+1+1 else tF f k.jp.ci l i)=gV f k.jp.ci l i:=by
  unfold gV
  by_cases c:leads (bC f l[2*i+1+1]!) (bC f l[tF f k.jp.ci l i]!) k.jp.ci
  ·rw[AC c,AC ⟨by omega,c⟩]
  rw[Do c,Do (λh=>c h.2)]
 grind
theorem Vr(ok:BA k f){c0:_}{c1:List Int}{l:List Int}(hl:wm f m l){i b j:Nat}(hi:i<m)(hb:b<m)(hj:j<m)(h2:j<=2*i+2)(fo:j≠b){p q:Pt}:
 mj c0 c1 ((i:Int),(b:Int),(j:Int),(tJ k f m n0 i (l++[x]) p q).2)=af7 (.next ((i:Int),((if leads (bC f l[j]!) (bC f l[b]!) k.jp.ci then j else b:Nat):Int),((j+1:Nat):Int),(tJ k f m n0 i (l++[x]) p q).2)):=by
 have hm:=hl.len;have m1:=hl.small;have e:aa .i64 (aa .i64 (2*(i:Int))+2)=((2*i+2:Nat):Int):=by rw[show aa .i64 _=2*(i:Int)from fN ⟨by omega,by omega⟩,fN ⟨by omega,by omega⟩];omega
 have pj:=hl.hp _ (aE (show j<(aeX l) by omega));have pb:=hl.hp _ (aE (show b<(aeX l) by omega));have ne:l[j]!≠l[b]!:=λh=>by
  rcases UV j b with q|q|q
  ·exact bJ.1 hl.nd _ _ q (by omega) h
  ·exact fo q
  exact bJ.1 hl.nd _ _ q (by omega) h.symm
 have a:=OV ok.aV ok.iG.gZ ok.iG.dP pj pb ne;unfold mj tJ;simp (disch:=omega) only[tk hm,ar,aj,eZ ok.aV pj,eZ ok.aV pb,aM]
 grind
theorem ahi{c1:List Int}(hc:(aeX c1)=m+1){L0:List Int}(h0:(aeX L0)=m+1){n1 i0:Nat}{l:List Int}(hl:wm f m l){i b j:Nat}(hi:i<m)(hb:b<m)(he: ¬(j<=2*i+2/\j<m)){p q:Pt}:
 mj (tS k f m n1 i0 L0) c1 ((i:Int),(b:Int),(j:Int),(tJ k f m n0 i (l++[x]) p q).2)=if b=i then(bY k.jp ⟨f⟩ l).bind λa=>af7 (.done (.done (.done a)))else af7 (.done (.next (tJ k f m n0 b (fO l i b++[x]) p q))):=by
 have hm:=hl.len;have m1:=hl.small;have e:aa .i64 (aa .i64 (2*(i:Int))+2)=((2*i+2:Nat):Int):=by
  grind[fN]
 have ec:(aa .i64 (((aeX c1):Int)-1)).toNat=m:=by grind[fN]
 have sb:(l.set i l[b]!++[x]).set b l[i]! =fO l i b++[x]:=abC _ _ (by grind);have g1:=ar (l.set i l[b]!) b (by grind);have B5:(aH.mk (k.jp.ci.1,k.jp.ci.2) (Field.mk k.jp.ii.am) (cm.mk k.jp.af.aW k.jp.af.ce) (aS.mk (bF.mk k.jp.ae.ai.ay k.jp.ae.ai.be k.jp.ae.ai.bi) k.jp.ae.bv k.jp.ae.aC) k.jp.io)=k.jp:=rfl;unfold mj tS tJ
 by_cases h1:j<=2*i+2
 ·have h2:=λh=>he ⟨h1,h⟩
  simp (disch:=omega) only[tk hm,ar,fI,B5]
  grind
 simp (disch:=omega) only[tk hm,ar,fI,B5]
 grind
theorem alx(ok:BA k f){c1:List Int}(hc:(aeX c1)=m+1){L0:List Int}(h0:(aeX L0)=m+1){n1 i0:Nat}{l:List Int}(hl:wm f m l){i:Nat}(hi:i<m){p q:Pt}{R:List Int->bX×Int}(hR:bY k.jp ⟨f⟩ l=af7 (R l)):
 aq (mj (tS k f m n1 i0 L0) c1) ((i:Int),(i:Int),((2*i+1:Nat):Int),(tJ k f m n0 i (l++[x]) p q).2)=af7 (if gV f k.jp.ci l i=i then .done (.done (R l))else .next (tJ k f m n0 (gV f k.jp.ci l i) (fO l i (gV f k.jp.ci l i)++[x]) p q)):=by
 have hm:=hl.len;have fin: ∀b j:Nat,b<m-> ¬(j<=2*i+2/\j<m)->gV f k.jp.ci l i=b->aq (mj (tS k f m n1 i0 L0) c1) ((i:Int),(b:Int),(j:Int),(tJ k f m n0 i (l++[x]) p q).2)=af7 (if gV f k.jp.ci l i=i then .done (.done (R l))else .next (tJ k f m n0 (gV f k.jp.ci l i) (fO l i (gV f k.jp.ci l i)++[x]) p q)):=by
  intro b j hb he hk;rw[hk];have:=ahi (k:=k) (n0:=n0) (x:=x) hc h0 (n1:=n1) (i0:=i0) hl hi hb he (p:=p) (q:=q)
  by_cases hbi:b=i
  ·rw[AC hbi,hR,aj]at this
   rw[AC hbi];exact au this
  simp_all[au]
 have kA:tF f k.jp.ci l i<m:=by rcases uI f k.jp.ci l i with h|⟨h,h2⟩<;>omega
 by_cases h1:2*i+1<m
 case neg=>
  have e1:tF f k.jp.ci l i=i:=by unfold tF;rw[Do (λh=>h1 (by omega))]
  have e2:gV f k.jp.ci l i=i:=by unfold gV;rw[Do (λh=>h1 (by omega)),e1]
  grind
 rw[aQ (Vr ok hl hi hi h1 (by omega) (by omega))];have eA:(if leads (bC f l[2*i+1]!) (bC f l[i]!) k.jp.ci then 2*i+1 else i)=tF f k.jp.ci l i:=by
  unfold tF
  grind
 rw[eA]
 by_cases h2:2*i+1+1<m
 case neg=>
  have e2:gV f k.jp.ci l i=tF f k.jp.ci l i:=by unfold gV;rw[Do (λh=>h2 (by omega))]
  grind
 have nk:2*i+1+1≠tF f k.jp.ci l i:=by grind
 rw[aQ (Vr ok hl hi kA h2 (by omega) nk)];have eG:(if leads (bC f l[2*i+1+1]!) (bC f l[tF f k.jp.ci l i]!) k.jp.ci then 2*i+1+1 else tF f k.jp.ci l i)=gV f k.jp.ci l i:=by
  unfold gV
  grind
 rw[eG];exact fin _ (2*i+1+1+1) (by grind) (λh=>by omega) rfl
theorem aly(ok:BA k f){c1:List Int}(hc:(aeX c1)=m+1){L0:List Int}(h0:(aeX L0)=m+1){n1 i0:Nat}{R:List Int->bX×Int}{l0:List Int}(hR: ∀l:List Int,l.Perm l0->bY k.jp ⟨f⟩ l=af7 (R l)):
 ∀(d:Nat) (l:List Int) (i:Nat),m-i<=d->i<m->wm f m l->l.Perm l0->aq (vp (tS k f m n1 i0 L0) c1) (tS k f m n0 i (l++[x]))=af7 (.done (R (Am f k.jp.ci l i))):=by
 intro d
 induction d with
 |zero=>omega
 |succ d ih=>
  intro l i h hi hl pm;have hm:=hl.len;have m1:=hl.small;have e:aa .i64 (aa .i64 (2*(i:Int))+1)=((2*i+1:Nat):Int):=by
   grind[fN]
  have g:=alw (n0:=n0) (x:=x) ok hc h0 (n1:=n1) (i0:=i0) hl hi (hR l pm);have st:vp (tS k f m n1 i0 L0) c1 (tS k f m n0 i (l++[x]))=af7 (if gV f k.jp.ci l i=i then .done (.done (R l))else .next (tS k f m n0 (gV f k.jp.ci l i) (fO l i (gV f k.jp.ci l i)++[x]))):=by unfold vp;rw[show(tS k f m n0 i _).1=(i:Int)from rfl,e];exact g
  by_cases hk:gV f k.jp.ci l i=i
  ·simp_all[ya,au]
  rw[Do hk]at st
  have kc:=uJ f k.jp.ci l i;have sp:=kv (l:=l) (i:=i) (j:=gV f k.jp.ci l i) (by omega) (by omega);rw[aQ st,Gh hk];exact ih _ _ (by omega) (by omega) ⟨by rw[iJ];exact hm,hl.small,λy hy=>hl.hp y (sp.mem_iff.1 hy),sp.nodup_iff.2 hl.nd⟩ (sp.trans pm)
theorem alz(ok:BA k f){c1:List Int}(hc:(aeX c1)=m+1){L0:List Int}(h0:(aeX L0)=m+1){n1 i0:Nat}{p q:Pt}{R:List Int->bX×Int}{l0:List Int}(hR: ∀l:List Int,l.Perm l0->bY k.jp ⟨f⟩ l=af7 (R l)):
 ∀(d:Nat) (l:List Int) (i:Nat),m-i<=d->i<m->wm f m l->l.Perm l0->aq (vo (tS k f m n1 i0 L0) c1) (tJ k f m n0 i (l++[x]) p q)=af7 (.done (R (Am f k.jp.ci l i))):=by
 intro d
 induction d with
 |zero=>omega
 |succ d ih=>
  intro l i h hi hl pm;have hm:=hl.len;have m1:=hl.small;have e:aa .i64 (aa .i64 (2*(i:Int))+1)=((2*i+1:Nat):Int):=by
   grind[fN]
  have g:=alx (n0:=n0) (x:=x) ok hc h0 (n1:=n1) (i0:=i0) hl hi (p:=p) (q:=q) (hR l pm);have st:vo (tS k f m n1 i0 L0) c1 (tJ k f m n0 i (l++[x]) p q)=af7 (if gV f k.jp.ci l i=i then .done (.done (R l))else .next (tJ k f m n0 (gV f k.jp.ci l i) (fO l i (gV f k.jp.ci l i)++[x]) p q)):=by unfold vo;rw[show(tJ k f m n0 i _ p q).1=(i:Int)from rfl,e];exact g
  by_cases hk:gV f k.jp.ci l i=i
  ·simp_all[ya,au]
  rw[Do hk]at st
  have kc:=uJ f k.jp.ci l i;have sp:=kv (l:=l) (i:=i) (j:=gV f k.jp.ci l i) (by omega) (by omega);rw[aQ st,Gh hk];exact ih _ _ (by omega) (by omega) ⟨by rw[iJ];exact hm,hl.small,λy hy=>hl.hp y (sp.mem_iff.1 hy),sp.nodup_iff.2 hl.nd⟩ (sp.trans pm)
theorem alA(ok:BA k f){c0:List Int}(hc:(aeX c0)=m+1){c1:Nat}{c2:Int}{R:List Int->bX×Int}{l0:List Int}(hR: ∀l:List Int,l.Perm l0->bY k.jp ⟨f⟩ l=af7 (R l)):
 ∀(i:Nat) (l:List Int),i<m->wm f m l->l.Perm l0->aq (qw c0 (c1:Int) c2) (tS k f m n0 i (l++[x]))=af7 (R (Am f k.jp.ci (nC f k.jp.ci i l) (Al f k.jp.ci i l))):=by
 intro i
 induction i using abK with
 |ind i ih=>
  intro l hi hl pm;have hm:=hl.len;have m1:=hl.small;have lx:(l++[x]).length=m+1:=by grind
  have sl:(cQ c0 (c1:Int) c2).length=m+1:=by simp_all
  cases i with
  |zero=>have g:=aly (n0:=n0) (x:=x) ok hc lx (n1:=n0) (i0:=0) hR m l 0 (by omega) hi hl pm;unfold nC Al;refine au ?_;unfold qw;rw[show(tS k f m n0 0 (l++[x])).1=0 from rfl,aA (by omega),ww];rw[show(tS k f m n0 0 (l++[x])).2.2.2.2.2.2.2.2.2.2.2.2.2.2.2.2.2.1=l++[x]from rfl,lx,sl,beq_self_eq_true,v6];exact g
  |succ i=>
   have hu:=OS (i:=i+1) (by omega) (by omega);rw[show(i+1-1) / 2=i / 2 from rfl]at hu;have pi:=hl.hp _ (aE (show i+1<(aeX l) by omega));have pj:=hl.hp _ (aE (show i / 2<(aeX l) by omega));have ne:l[i+1]!≠l[i / 2]!:=λh=>bJ.1 hl.nd (i / 2) (i+1) (by omega) (by omega) h.symm
   have a:=OV ok.aV ok.iG.gZ ok.iG.dP pi pj ne;have g1:=ar l (i+1) (by omega);have g2:=ar l (i / 2) (by omega);have sa:(l++[x]).set (i+1) l[i / 2]! =l.set (i+1) l[i / 2]!++[x]:=abC _ _ (by omega);have sb:(l.set (i+1) l[i / 2]!++[x]).set (i / 2) l[i+1]! =fO l (i+1) (i / 2)++[x]:=abC _ _ (by grind);have t1:(l.set (i+1) l[i / 2]!++[x]).take m=l.set (i+1) l[i / 2]!:=tk (by grind);have g3:=ar (l.set (i+1) l[i / 2]!) (i / 2) (by grind);unfold nC Al
   by_cases c:leads (bC f l[i+1]!) (bC f l[i / 2]!) k.jp.ci
   ·rw[AC c,AC c]
    rw[az c]at a;have sp:=kv (l:=l) (i:=i+1) (j:=i / 2) (by omega) (by omega);rw[aQ (y:=tS k f m n0 (i / 2) (fO l (i+1) (i / 2)++[x])) (by unfold qw tS;simp (disch:=omega) only[az,v6,tk hm,g1,g2,aj,hu,eZ ok.aV pi,eZ ok.aV pj,a,beq_self_eq_true,fI,sa,sb,t1,g3])];exact ih (i / 2) (by omega) _ (by omega) ⟨by rw[iJ];exact hm,hl.small,λy hy=>hl.hp y (sp.mem_iff.1 hy),sp.nodup_iff.2 hl.nd⟩ (sp.trans pm)
   rw[Do c,Do c]
   rw[aA c]at a;have g:=alz (n0:=n0) (x:=x) ok hc lx (n1:=n0) (i0:=i+1) (p:=bC f l[i+1]!) (q:=bC f l[i / 2]!) hR m l (i+1) (by omega) hi hl pm;refine au ?_;unfold qw
   conv=>lhs;unfold tS
   simp (disch:=omega) only[az,v6,tk hm,g1,g2,aj,hu,eZ ok.aV pi,eZ ok.aV pj,a,beq_self_eq_true,ww,lx,sl];exact g
end
section
variable {k : bX} {P : Pt} {f : List Pt} {m : Nat}
end
def vS(k:bX)(P:Pt)(f:List Pt)(i:Nat)(L:List Int):=
 ((i:Int),k.jp.ci.1,k.jp.ci.2,k.jp.ii.am,k.jp.af.aW,k.jp.af.ce,k.jp.ae.ai.ay,k.jp.ae.ai.be,k.jp.ae.ai.bi,k.jp.ae.bv,k.jp.ae.aC,k.jp.io,k.bv,P.1,P.2.1,P.2.2,(0:Int),(0:Int),(0:Int),f,[P.1],L,f,k.jp.ci.1,k.jp.ci.2)
theorem alB{k:bX}{P:Pt}{f:List Pt}{m:Nat}(ok:BA k f){c0:Pt}{c1:List Int}(hc:(aeX c1)=m){R:List Int->bX×Int}{l0:List Int}(hR: ∀l:List Int,l.Perm l0->bY k.jp ⟨f⟩ l=af7 (R l)):
 ∀(i:Nat) (l:List Int),i<m->wm f m l->l.Perm l0->aq (s8 c0 c1) (vS k P f i l)=af7 (R (nC f k.jp.ci i l)):=by
 intro i
 induction i using abK with
 |ind i ih=>
  intro l hi hl pm;have hm:=hl.len;have m1:=hl.small;have lx:=hm;cases i with
  |zero=>unfold nC;refine au ?_;unfold s8 vS;simp_all
  |succ i=>
   have hu:=OS (i:=i+1) (by omega) (by omega);rw[show(i+1-1) / 2=i / 2 from rfl]at hu;have pi:=hl.hp _ (aE (show i+1<(aeX l) by omega));have pj:=hl.hp _ (aE (show i / 2<(aeX l) by omega));have ne:l[i+1]!≠l[i / 2]!:=λh=>bJ.1 hl.nd (i / 2) (i+1) (by omega) (by omega) h.symm
   have a:=OV ok.aV ok.iG.gZ ok.iG.dP pi pj ne;have g1:=ar l (i+1) (by omega);have g2:=ar l (i / 2) (by omega);have g3:=ar (l.set (i+1) l[i / 2]!) (i / 2) (by grind);unfold nC
   by_cases c:leads (bC f l[i+1]!) (bC f l[i / 2]!) k.jp.ci
   ·rw[AC c]
    rw[az c]at a;have sp:=kv (l:=l) (i:=i+1) (j:=i / 2) (by omega) (by omega);rw[aQ (y:=vS k P f (i / 2) (fO l (i+1) (i / 2))) (by unfold s8 vS;simp only[az (show(0:Int)<((i+1:Nat):Int) by omega),g1,g2,aj,hu,eZ ok.aV pi,eZ ok.aV pj,a,beq_self_eq_true,fI,g3];rfl)];exact ih (i / 2) (by omega) _ (by omega) ⟨by rw[iJ];exact hm,hl.small,λy hy=>hl.hp y (sp.mem_iff.1 hy),sp.nodup_iff.2 hl.nd⟩ (sp.trans pm)
   rw[Do c]
   rw[aA c]at a;refine au ?_;unfold s8 vS;simp only[az (show(0:Int)<((i+1:Nat):Int) by omega),v6,g1,g2,aj,hu,eZ ok.aV pi,eZ ok.aV pj,a,beq_self_eq_true,ww,EQ,lx,hc,hR l pm]
end Go.Proofs.YtkdikjnhkfffjaaGreat
namespace Go.Proofs.YtkdikjnhkfffjaaGreat
open Go.Vm
abbrev Nd:=Int×Int×Int
structure yZ(P:Nat->Nat->Prop)(a b i:Nat):Prop where
 lo:a<=i
 hi:i<b
 top: ∀j,a<=j->j<b->j≠i->P i j
inductive od(P:Nat->Nat->Prop)(N:List Nd):Nat->Nat->Int->Prop
 |nil{a b:Nat}(h:b<=a):od P N a b (-1)
 |node{a b i:Nat}(h:yZ P a b i)(l:od P N a i (N[i]!).2.1)(r:od P N (i+1) b (N[i]!).2.2):od P N a b (i:Int)
structure aaL(P:Nat->Nat->Prop)(n:Nat):Prop where
 tr: ∀i j k,i<n->j<n->k<n->P i j->P j k->P i k
 asy: ∀i j,i<n->j<n->P i j-> ¬P j i
 Xd: ∀i j,i<n->j<n->i≠j-> ¬P i j->P j i
theorem yZ.one{P:Nat->Nat->Prop}{n a b i j:Nat}(o:aaL P n)(hb:b<=n)(h:yZ P a b i)(k:yZ P a b j):i=j:=by
 refine abB λfo=>?_
 have:=h.hi;have:=k.hi;exact o.asy i j (by omega) (by omega) (h.top j k.lo k.hi (λe=>fo e.symm)) (k.top i h.lo h.hi fo)
theorem od.link{P:Nat->Nat->Prop}{N:List Nd}{a b:Nat}{r:Int}(h:od P N a b r):(b<=a/\r= -1)\/(∃i:Nat,r=(i:Int)/\a<=i/\i<b):=by
 cases h with
 |nil h=>omega
 |node h l r=>exact .inr ⟨_,rfl,h.lo,h.hi⟩
theorem od.unique{P:Nat->Nat->Prop}{n:Nat}(o:aaL P n){N N':List Nd}{a b:Nat}{r:Int}(h:od P N a b r): ∀{r':Int},b<=n->od P N' a b r'->r=r'/\ ∀k,a<=k->k<b->(N[k]!).2=(N'[k]!).2:=by
 induction h with
 |nil h=>
  intro r' hb h';cases h' with
  |nil _=>grind
  |node t _ _=>have:=t.lo;have:=t.hi;omega
 | @node a b i h l r ihl ihr=>
  intro r' hb h';have lo:=h.lo;have hi:=h.hi;cases h' with
  |nil q=>omega
  | @node _ _ j t l' r'=>
   have e:=h.one o hb t
   grind
theorem od.frame{P:Nat->Nat->Prop}{N N':List Nd}{a b:Nat}{r:Int}(h:od P N a b r):(∀k,a<=k->k<b->(N[k]!).2=(N'[k]!).2)->od P N' a b r:=by
 induction h with
 |nil h=>exact λ_=> .nil h
 | @node a b i h l r ihl ihr=>
  intro f;have lo:=h.lo;have hi:=h.hi;have e:=f i lo hi;refine .node h ?_ ?_
  ·rw[<-e];exact ihl λk h1 h2=>f k h1 (by omega)
  grind
theorem od.other{P Q:Nat->Nat->Prop}{n:Nat}(o:aaL Q n){N:List Nd}{a b:Nat}{r:Int}(h:od P N a b r):b<=n->(∀k j:Nat,a<=k->k<b->a<=j->j<b->((N[k]!).2.1=(j:Int)\/(N[k]!).2.2=(j:Int))->Q k j)->od Q N a b r:=by
 induction h with
 |nil h=>exact λ_ _=> .nil h
 | @node a b i h l r ihl ihr=>
  intro hb q;have lo:=h.lo;have hi:=h.hi;have tl:=ihl (by omega) λk j h1 h2 h3 h4=>q k j h1 (by omega) h3 (by omega)
  have tr:=ihr hb λk j h1 h2 h3 h4=>q k j (by omega) h2 (by omega) h4
  refine .node ⟨lo,hi,λj h1 h2 fo=>?_⟩ tl tr;rcases ae7 j i with hj|hj
  ·generalize hr:(N[i]!).2.1=s at tl
   cases tl with
   |nil q=>omega
   | @node _ _ m t _ _=>
    have t1:=t.lo;have t2:=t.hi;have qm:=q i m lo hi t1 (by omega) (.inl hr)
    by_cases e:j=m
    ·rw[e];exact qm
    exact o.tr i m j (by omega) (by omega) (by omega) qm (t.top j h1 hj e)
  generalize hr:(N[i]!).2.2=s at tr
  cases tr with
  |nil q=>omega
  | @node _ _ m t _ _=>
   have t1:=t.lo;have t2:=t.hi;have qm:=q i m lo hi (by omega) t2 (.inr hr)
   by_cases e:j=m
   ·rw[e];exact qm
   exact o.tr i m j (by omega) (by omega) (by omega) qm (t.top j (by omega) h2 e)
theorem od.kids{P:Nat->Nat->Prop}{N:List Nd}{a b:Nat}{r:Int}(h:od P N a b r): ∀k,a<=k->k<b-> ∀c:Int,((N[k]!).2.1=c\/(N[k]!).2.2=c)->c= -1\/ ∃j:Nat,c=(j:Int)/\a<=j/\j<b/\j≠k/\P k j/\r≠c:=by
 induction h with
 |nil h=>omega
 | @node a b i h l r ihl ihr=>
  have lo:=h.lo;have hi:=h.hi;intro k h1 h2 c hc;rcases UV k i with q|q|q
  ·rcases ihl k h1 q c hc with e|⟨j,e,j1,j2,j3,j4,_⟩
   ·exact .inl e
   grind
  ·subst q
   rcases hc with hc|hc
   ·rcases l.link with⟨_,e⟩|⟨j,e,j1,j2⟩
    ·omega
    exact .inr ⟨j,hc▸e,j1,by omega,by omega,h.top j j1 (by omega) (by omega),by omega⟩
   rcases r.link with⟨_,e⟩|⟨j,e,j1,j2⟩
   ·omega
   exact .inr ⟨j,hc▸e,by omega,j2,by omega,h.top j (by omega) j2 (by omega),by omega⟩
  rcases ihr k (by omega) h2 c hc with e|⟨j,e,j1,j2,j3,j4,_⟩
  ·exact .inl e
  grind
theorem od.up{P:Nat->Nat->Prop}{N:List Nd}{a b:Nat}{r:Int}(h:od P N a b r): ∀k:Nat,a<=k->k<b->(k:Int)≠r-> ∃j,a<=j/\j<b/\((N[j]!).2.1=(k:Int)\/(N[j]!).2.2=(k:Int))/\ ∀m,a<=m->m<b->((N[m]!).2.1=(k:Int)\/(N[m]!).2.2=(k:Int))->m=j:=by
 induction h with
 |nil h=>omega
 | @node a b i h l r ihl ihr=>
  have lo:=h.lo;have hi:=h.hi;have lk:=l.kids;have rk:=r.kids;intro k h1 h2 fo;rcases ae7 k i with q|q
  ·by_cases er:(k:Int)=(N[i]!).2.1
   ·refine⟨i,lo,hi,.inl er.symm,λm m1 m2 hm=>?_⟩
    rcases UV m i with w|w|w
    ·rcases lk m m1 w _ hm with e|⟨j,e,_,_,_,_,hr⟩
     ·omega
     exact absurd er.symm hr
    ·exact w
    rcases rk m (by omega) m2 _ hm with e|⟨j,e,j1,_⟩<;>omega
   obtain⟨j,j1,j2,j3,j4⟩:=ihl k h1 q er
   refine⟨j,j1,by omega,j3,λm m1 m2 hm=>?_⟩;rcases UV m i with w|w|w
   ·exact j4 m m1 w hm
   ·subst w
    rcases hm with hm|hm
    ·exact absurd hm.symm er
    rcases r.link with⟨_,e⟩|⟨p,e,p1,p2⟩<;>omega
   rcases rk m (by omega) m2 _ hm with e|⟨p,e,p1,_⟩<;>omega
  by_cases er:(k:Int)=(N[i]!).2.2
  ·refine⟨i,lo,hi,.inr er.symm,λm m1 m2 hm=>?_⟩
   rcases UV m i with w|w|w
   ·rcases lk m m1 w _ hm with e|⟨j,e,_,j2,_⟩<;>omega
   ·exact w
   rcases rk m (by omega) m2 _ hm with e|⟨j,e,_,_,_,_,hr⟩
   ·omega
   exact absurd er.symm hr
  obtain⟨j,j1,j2,j3,j4⟩:=ihr k (by omega) h2 er
  refine⟨j,by omega,j2,j3,λm m1 m2 hm=>?_⟩;rcases UV m i with w|w|w
  ·rcases lk m m1 w _ hm with e|⟨p,e,_,p2,_⟩<;>omega
  ·subst w
   rcases hm with hm|hm
   ·rcases l.link with⟨_,e⟩|⟨p,e,p1,p2⟩<;>omega
   exact absurd hm.symm er
  exact j4 m (by omega) m2 hm
inductive y4(P:Nat->Nat->Prop)(N:List Nd):Nat->Nat->Int->List Nat->Prop
 |nil{a b:Nat}(h:b<=a):y4 P N a b (-1) []
 |cons{a b k:Nat}{es:List Nat}(h:yZ P a b k)(l:od P N a k (N[k]!).2.1)(r:y4 P N (k+1) b (N[k]!).2.2 es):y4 P N a b (k:Int) (k::es)
theorem y4.lw{P:Nat->Nat->Prop}{N:List Nd}{a b:Nat}{r:Int}{es:List Nat}(h:y4 P N a b r es):od P N a b r:=by
 induction h with
 |nil h=>exact .nil h
 |cons h l r ih=>exact .node h l ih
theorem y4.mem{P:Nat->Nat->Prop}{N:List Nd}{a b:Nat}{r:Int}{es:List Nat}(h:y4 P N a b r es): ∀e∈es,a<=e/\e<b:=by
 induction h with
 |nil h=>intro e he;cases he
 |cons h l r ih=>
  intro e he;have lo:=h.lo;have hi:=h.hi;rcases abz.1 he with rfl|he
  ·exact⟨lo,hi⟩
  have:=ih e he;omega
theorem iH{α:Type}[Inhabited α](x:α)(l:List α)(i:Nat):(x::l)[i+1]! =l[i]!:=by simp
theorem pF{α:Type}[Inhabited α](x:α)(l:List α):(x::l)[0]! =x:=by simp
theorem y4.chain{P:Nat->Nat->Prop}{N:List Nd}{a b:Nat}{r:Int}{es:List Nat}(h:y4 P N a b r es): ∀i j,i<j->j<aeX es->P es[i]! es[j]!:=by
 induction h with
 |nil h=>intro i j _ hj;cases hj
 | @cons a b k es h l r ih=>
  intro i j p8 hj;cases j with
  |zero=>omega
  |succ j=>
   rw[iH];have hj:j<(aeX es):=by simpa using hj
   cases i with
   |zero=>rw[pF];have:=r.mem es[j]! (aE hj);exact h.top _ (by have:=h.lo;omega) this.2 (by omega)
   |succ i=>rw[iH];exact ih i j (by omega) hj
theorem y4.add {P:Nat->Nat->Prop} {N N':List Nd} {n:Nat} (o:aaL P n) {a b:Nat} {r:Int} {es:List Nat} (h:y4 P N a b r es): ∀m,a<=b->b<n->m<=aeX es->(∀j,j<m->P es[j]! b)->(∀j,m<=j->j<aeX es-> ¬P es[j]! b)->
 (N'[b]!).2.1=(if m<(aeX es) then (es[m]!:Int) else -1)->(N'[b]!).2.2= -1->
 (∀k,a<=k->k<b->(N'[k]!).2.1=(N[k]!).2.1/\((0<m/\k=es[m-1]!)->(N'[k]!).2.2=(b:Int))/\(¬(0<m/\k=es[m-1]!)->(N'[k]!).2.2=(N[k]!).2.2))->
 y4 P N' a (b+1) (if m=0 then (b:Int) else r) (es.take m++[b]):=by
 induction h with
 | @nil a b h=>
  intro m Mp hb hm _ _ hl hr _;have:m=0:=by simpa using hm
  subst this;rw [AC rfl];have hl:(N'[b]!).2.1= -1:=hl;refine .cons ⟨Mp,by omega,fun j h1 h2 h3=>by omega⟩ ?_ ?_
  · rw [hl];exact .nil h
  rw [hr];exact .nil (by omega)
 | @cons a b k es h l r ih=>
  intro m Mp hb hm hP hN hl hr hf;have lo:=h.lo;have hi:=h.hi;cases m with
  |zero=>
   rw [AC rfl];have hl:(N'[b]!).2.1=(k:Int):=by rw [hl,AC (by simp)];rfl
   have t:od P N a b (k:Int):= .node h l r.lw;have nk: ¬P k b:=hN 0 (IR _) (by simp);have kb:P b k:=o.Xd k b (by omega) hb (by omega) nk;refine .cons ⟨Mp,by omega,fun j h1 h2 h3=>?_⟩ ?_ ?_
   · by_cases e:j=k
     · rw [e];exact kb
     exact o.tr b k j hb (by omega) (by omega) kb (h.top j h1 (by omega) e)
   · rw [hl]
     refine t.frame fun j h1 h2=>?_
     obtain ⟨f1,_,f3⟩:=hf j h1 h2;exact aem f1.symm (f3 (by omega)).symm
   rw [hr];exact .nil (by omega)
  |succ m=>
   rw [Do (by omega)];have hm:m<=(aeX es):=by simpa using hm
   have pk:P k b:=by have:=hP 0 (by omega);rwa [pF] at this
   have mem:=r.mem;have top:yZ P a (b+1) k:=⟨lo,by omega,fun j h1 h2 h3=>by
    by_cases e:j=b
    · rw [e];exact pk
    exact h.top j h1 (by omega) h3⟩
   have lt:od P N' a k (N'[k]!).2.1:=by
    rw [(hf k lo hi).1];refine l.frame fun j h1 h2=>?_
    obtain ⟨f1,_,f3⟩:=hf j h1 (by omega);refine aem f1.symm (f3 (fun q=>?_)).symm;have q2:=q.2;cases m with
    |zero=>rw [show 0+1-1=0 from rfl,pF] at q2;omega
    |succ m=>rw [show m+1+1-1=m+1 from rfl,iH] at q2;have:=mem es[m]! (aE (by omega));omega
   have rt:=ih m (by omega) hb hm (fun j hj=>by have:=hP (j+1) (by omega);rwa [iH] at this) (fun j h1 h2=>by have:=hN (j+1) (by omega) (by simpa using h2);rwa [iH] at this)
    (by
     rw [hl]
     by_cases q:m<aeX es
     · rw [AC q,AC (by simpa using q),iH]
     · rw [Do q,Do (by simpa using q)]) hr (fun j h1 h2=>by
     obtain ⟨f1,f2,f3⟩:=hf j (by omega) h2;refine ⟨f1,fun q=>f2 ⟨by omega,?_⟩,fun q=>f3 (fun w=>q ?_)⟩
     · obtain ⟨q1,q2⟩:=q
       rw [show m+1-1=(m-1)+1 by omega,iH];exact q2
     obtain ⟨_,w2⟩:=w
     cases m with
     |zero=>rw [show 0+1-1=0 from rfl,pF] at w2;omega
     |succ m=>rw [show m+1+1-1=m+1 from rfl,iH] at w2;exact ⟨by omega,w2⟩)
   rw [show (k::es).take (m+1)++[b]=k::(es.take m++[b]) from rfl];refine .cons top lt ?_;obtain ⟨_,f2,f3⟩:=hf k lo hi
   by_cases m0:m=0
   · subst m0
     rw [AC rfl] at rt;rw [f2 ⟨by omega,by rw [show 0+1-1=0 from rfl,pF]⟩];exact rt
   rw [Do m0] at rt
   rw [f3 (fun w=>?_)]
   · exact rt
   have w2:=w.2
   rw [show m+1-1=(m-1)+1 by omega,iH] at w2;have:=mem es[m-1]! (aE (by omega));omega
end Go.Proofs.YtkdikjnhkfffjaaGreat
namespace Go.Proofs.YtkdikjnhkfffjaaGreat
open Go.Vm Classical
def DS(f:List Pt)(t:Int×Int)(i j:Nat):Prop:=leads f[i]! f[j]! t
theorem eN{p q:Pt}{t:Int×Int}(h:leads p q t): ¬leads q p t:=by
 unfold leads at*
 grind[OT]
theorem xh{f:List Pt}(h:eu f)(t:Int×Int):aaL (DS f t) (aeX f) where
 tr:=λ_ _ _ _ _ _ h1 h2=>pE h1 h2
 asy:=λ_ _ _ _ h=>eN h
 Xd:=λ_ _ hi hj fo hn=>fJ t (λe=>fo (gT h hi hj e)) hn
structure hZ(f:List Pt)(t:Int×Int)(N:List Nd)(r:Int):Prop where
 len:(aeX N)=aeX f
 ids: ∀k,k<aeX f->(N[k]!).1=(f[k]!).1
 lw:od (DS f t) N 0 (aeX f) r
theorem hZ.same{f:List Pt}(h:eu f){t:Int×Int}{N N':List Nd}{r r':Int}(a:hZ f t N r)(b:hZ f t N' r'):N=N'/\r=r':=by
 obtain⟨e1,e2⟩:=a.lw.unique (xh h t) (IR _) b.lw;refine⟨ny (by rw[a.len,b.len]) λk hk=>?_,e1⟩;have hk:k<(aeX f):=by rw[<-a.len];exact hk
 exact aem (by rw[a.ids k hk,b.ids k hk]) (e2 k (abq _) hk)
def Below(N:List Nd)(k j:Nat):Prop:=(N[j]!).2.1=(k:Int)\/(N[j]!).2.2=(k:Int)
noncomputable def rM(N:List Nd)(k:Nat):Nat:=if h: ∃j,j<aeX N/\Below N k j then h.choose else(aeX N)
noncomputable def Ap(N:List Nd)(k:Nat):List (Int×Int):=if rM N k<(aeX N)then [((N[k]!).1,(N[rM N k]!).1)]else []
noncomputable def cE(N:List Nd):Nat->List (Int×Int)
 |0=>[]
 |k+1=>cE N k++Ap N k
theorem pG(N:List Nd): ∀k,(cE N k).length<=k
 |0=>IR _
 |k+1=>by
  have:=pG N k;rw[cE,ab0];unfold Ap
  grind
theorem BB{N:List Nd}: ∀{n:Nat} {e:Int×Int},e∈cE N n↔ ∃k,k<n/\rM N k<aeX N/\e=((N[k]!).1,(N[rM N k]!).1)
 |0,e=>by
  constructor
  ·intro h;cases h
  omega
 |n+1,e=>by
  rw[cE,abv,BB];constructor
  ·rintro(⟨k,h1,h2⟩|h)
   ·grind
   unfold Ap at h
   grind
  rintro⟨k,h1,h2,h3⟩
  by_cases q:k=n
  ·subst q
   right;unfold Ap;rw[AC h2,h3];exact abE.2 rfl
  grind
section
variable {f : List Pt} {t : Int × Int} {N : List Nd} {r : Int}
theorem hZ.par(h:hZ f t N r){k:Nat}(hk:k<aeX f):((k:Int)=r->rM N k=aeX N)/\((k:Int)≠r->rM N k<aeX N/\Below N k (rM N k)/\rM N k≠k/\DS f t (rM N k) k)/\ ∀m,m<aeX N->Below N k m->m=rM N k:=by
 have ln:=h.len
 by_cases hr:(k:Int)=r
 ·have none: ¬ ∃j,j<aeX N/\Below N k j:=by
   rintro⟨j,hj,hb⟩;rcases h.lw.kids j (abq _) (by omega) _ hb with e|⟨_,_,_,_,_,_,e⟩
   ·omega
   exact e hr.symm
  have e:rM N k=(aeX N):=by unfold rM;rw[dif_neg none]
  grind
 obtain⟨j,_,j2,j3,j4⟩:=h.lw.up k (abq _) hk hr
 have ex: ∃j,j<aeX N/\Below N k j:=⟨j,by omega,j3⟩;have e:rM N k=j:=by unfold rM;rw[dif_pos ex];have:=ex.choose_spec;exact j4 _ (abq _) (by omega) this.2
 refine⟨λq=>absurd q hr,λ_=>?_,λm hm hb=>by rw[e];exact j4 m (abq _) (by omega) hb⟩;rw[e];refine⟨by omega,j3,?_,?_⟩
 ·rcases h.lw.kids j (abq _) j2 _ j3 with q|⟨i,q,_,_,q2,_⟩
  ·omega
  omega
 rcases h.lw.kids j (abq _) j2 _ j3 with q|⟨i,q,_,_,_,q2,_⟩
 ·omega
 grind
theorem hZ.Rp(aV:aR f)(h:hZ f t N r):mM f (cE N (aeX f))/\(cE N (aeX f)).Nodup/\ ∀e∈cE N (aeX f),leads (bC f e.2) (bC f e.1) t:=by
 have ln:=h.len;have f1:=aV.1;have inf: ∀e∈cE N (aeX f),∃k j,k<aeX f/\j<aeX f/\j≠k/\DS f t j k/\e=((f[k]!).1,(f[j]!).1):=by
  intro e he;obtain⟨k,k1,k2,k3⟩:=BB.1 he;have hp:=h.par k1;have hr:(k:Int)≠r:=λq=>by omega
  obtain⟨p1,p2,p3,p4⟩:=hp.2.1 hr;exact⟨k,rM N k,k1,by omega,p3,p4,by rw[k3,h.ids k k1,h.ids _ (by omega)]⟩
 have hb: ∀e∈cE N (aeX f),kr f e:=λe he=>by obtain⟨k,j,k1,j1,_,_,rfl⟩:=inf e he;exact⟨⟨k,k1,rfl⟩,⟨j,j1,rfl⟩⟩
 refine⟨⟨abr (pG N _) (by omega),λe he=>?_,hb⟩,?_,λe he=>?_⟩
 ·obtain⟨⟨p1,p2⟩,q1,q2⟩:=ae0 (bK aV (hb e he).1) (bK aV (hb e he).2)
  obtain⟨k,j,k1,j1,ne,_,rfl⟩:=inf e he;have:(f[k]!).1≠(f[j]!).1:=λq=>ne (gT aV.2.2 k1 j1 q).symm
  unfold fM at p1 q1;unfold jB;omega
 ·have go: ∀n,n<=aeX f->(cE N n).Nodup:=by
   intro n
   induction n with
   |zero=>exact λ_=>acm
   |succ n ih=>
    intro hn;rw[cE,ad3];refine⟨ih (by omega),?_,λx hx y hy e=>?_⟩
    ·unfold Ap;split
     ·exact abx.2 ⟨aec,acm⟩
     exact acm
    subst e
    obtain⟨k,k1,_,k3⟩:=BB.1 hx;unfold Ap at hy;split at hy
    ·have hy:=abE.1 hy
     rw[k3]at hy;have e1:=(Prod.mk.inj hy).1;rw[h.ids k (by omega),h.ids n (by omega)]at e1;have:=gT aV.2.2 (by omega) (by omega) e1;omega
    cases hy
  grind
 obtain⟨k,j,k1,j1,_,p,rfl⟩:=inf e he
 rw[iO aV.2.2 j1 rfl,iO aV.2.2 k1 rfl];exact p
end
theorem ahk{f:List Pt}(aV:aR f){t:Int×Int}(r:bo t)(dX:jb t){i j:Nat}(hi:i<aeX f)(hj:j<aeX f)(fo:i≠j):df f[i]! f[j]! t=af7 (afe (DS f t i j),0):=by
 have ne:(f[i]!).1≠(f[j]!).1:=λh=>fo (gT aV.2.2 hi hj h)
 rcases lC (aV.2.1 _ (aE hi)) (aV.2.1 _ (aE hj)) dX r with h|⟨h,_⟩
 ·rw[h,Do ne];rfl
 omega
def eI(es:List Nat):List Int:=es.map λe:Nat=>(e:Int)
theorem Vs(E:List Int)(m:Nat)(x:Int)(h:m+1<=aeX E):(gQ E m [x]).length=(aeX E):=by
 unfold gQ
 grind
theorem aaM(es:List Nat):(eI es).length=(aeX es):=PP ..
theorem adx(es:List Nat){j:Nat}(h:j<aeX es):(eI es)[j]! =(es[j]!:Int):=by rw[getElem!_pos _ j (by rw[aaM];exact h),getElem!_pos es j h];exact aed ..
theorem Vt(es:List Nat)(m:Nat):eI (es.take m)=(eI es).take m:=List.map_take ..
def o2(f:List Pt)(t:Int×Int)(e c:Nat)(i:Nat)(lc:Int)(N:List Nd)(E:List Int):=
 (e,c,f,((aeX f):Int),(i:Int),f,t.1,t.2,(0:Int),lc,N,E)
def o1(f:List Pt)(t:Int×Int)(e c:Nat)(i:Nat)(lc:Int)(N:List Nd)(E:List Int)(left:Int):=
 (e,c,(i:Int),f,((aeX f):Int),(i:Int),f,t.1,t.2,(0:Int),lc,N,E,(f[i]!).1,(f[i]!).2.1,(f[i]!).2.2,(f[i]!).1,left,(-1:Int))
def zH(f:List Pt)(N:List Nd)(es:List Nat)(i m:Nat):List Nd:=
 (if m=0 then N else N.set es[m-1]! ((N[es[m-1]!]!).1,(N[es[m-1]!]!).2.1,(i:Int)))++[((f[i]!).1,if m<(aeX es)then(es[m]!:Int)else -1,-1)]
theorem alC{f:List Pt}(aV:aR f){t:Int×Int}(r:bo t)(dX:jb t){i:Nat}(hi:i<aeX f){es:List Nat}(TW: ∀e∈es,e<i){N:List Nd}(hN:(aeX N)=i){lc:Int}{E:List Int}(hE:E.take (aeX es)=eI es)(le:(aeX es)<=aeX E)(lE:(aeX E)<=1000):
 ∀(e:Nat),e<=aeX es->(∀j,e<=j->j<aeX es-> ¬DS f t es[j]! i)->
  ∃(m:Nat) (E':List Int),m<=e/\(0<m->DS f t es[m-1]! i)/\(∀j,m<=j->j<aeX es-> ¬DS f t es[j]! i)/\E'.take (m+1)=eI (es.take m++[i])/\m+1<=aeX E'/\aeX E'<=aeX E+1/\
   aq sF (o1 f t e (aeX E) i lc N E (if e<(aeX es)then(es[e]!:Int)else -1))=af7 (.next (o2 f t (m+1) (aeX E') (i+1) (if m=0 then(i:Int)else lc) (zH f N es i m) E')):=by
 have f1:=aV.1;have sc:=aM (show i<1000000000 by omega);have put: ∀m,m<=aeX es-> ∃E':List Int,E'.take (m+1)=eI (es.take m++[i])/\m+1<=aeX E'/\aeX E'<=aeX E+1/\
  ((m+1<=aeX E->E'=gQ E m [(i:Int)])/\(¬m+1<=aeX E->E'=E.take m++[(i:Int)])):=by
  intro m hm;have tm:E.take m=eI (es.take m):=by rw[Vt,<-hE,aeo,aeg hm]
  have ei:eI (es.take m++[i])=eI (es.take m)++[(i:Int)]:=ad7 ..;have lm:(E.take m++[(i:Int)]).length=m+1:=by rw[ab0,aai,EQ];omega
  by_cases h:m+1<=aeX E
  ·refine⟨gQ E m [(i:Int)],?_,?_,?_,λ_=>rfl,λq=>absurd h q⟩
   ·unfold gQ
    rw[ei,<-tm,List.take_append_of_le_length (by omega),abT (by omega)]
   ·unfold gQ;rw[ab0];omega
   unfold gQ;rw[ab0,lm,abX,EQ];omega
  grind
 have en: ∀(s:Nat),([(i:Int)]:List Int).length=1:=λ_=>rfl
 have aaN: ∀{a b:Nat},a<=b->Nat.ble a b=afb:=λh=>Nat.ble_eq_true_of_le h
 have alD: ∀{a b:Nat},¬a<=b->Nat.ble a b=afd:=λh=>by
  grind[Nat.le_of_ble_eq_true]
 intro e
 induction e with
 |zero=>
  intro _ wN;obtain⟨E',e1,e2,e3,e4,e5⟩:=put 0 (abq _);refine⟨0,E',IR _,λh=>absurd h (aeG _),wN,e1,e2,e3,au ?_⟩;have ap: ∀x:Nd,ba N [x]=af7 (N++[x]):=λx=>bG (by rw[EQ];omega)
  have ap2:ba (E.take 0) [(i:Int)]=af7 (E.take 0++[(i:Int)]):=bG (by rw[EQ,aai];omega);unfold sF o1 o2 zH
  by_cases h:0+1<=aeX E
  ·simp (disch:=omega) only[aK,aA,ww,ap,aj,EQ,aaN h,v6,acF,ae2,sc,e4 h,if_true]
   rw[Vs _ _ _ h]
  grind
 |succ e ih=>
  intro he wN;have tk:E.take (e+1)=eI (es.take (e+1)):=by rw[Vt,<-hE,aeo,aeg he]
  have lt:(eI (es.take (e+1))).length=e+1:=by rw[aaM,aai];omega
  have ge:aF (E.take (e+1)) ((e:Nat):Int)=af7 (es[e]!:Int):=by rw[tk,ar _ e (by omega),adx _ (by rw[aai];omega),xo (by omega)]
  have ew:aa .i64 (((e+1:Nat):Int)-1)=((e:Nat):Int):=by rw[fN ⟨by omega,by omega⟩];omega
  have eb:es[e]!<i:=TW _ (aE (by omega));have gp:=ar f es[e]! (by omega);have ah:=ahk aV r dX (i:=es[e]!) (by omega) hi (by omega);have gn:=ar N es[e]! (by omega);have ahl:((f[i]!).1,(f[i]!).2.1,(f[i]!).2.2)=f[i]!:=rfl
  by_cases c:DS f t es[e]! i
  ·rw[az c]at ah
   obtain⟨E',e1,e2,e3,e4,e5⟩:=put (e+1) he;refine⟨e+1,E',IR _,λ_=>c,wN,e1,e2,e3,au ?_⟩;have ap: ∀(y x:Nd),ba (N.set es[e]! y) [x]=af7 (N.set es[e]! y++[x]):=λy x=>bG (by rw[EQ,abw];omega)
   have ap2:ba (E.take (e+1)) [(i:Int)]=af7 (E.take (e+1)++[(i:Int)]):=bG (by rw[EQ,aai];omega);unfold sF o1 o2 zH;rw[show e+1-1=e from rfl,Do (aef e),Do (aef e)]
   by_cases h:e+1+1<=aeX E
   ·simp (disch:=omega) only[aK,az,v6,ew,ge,aj,gp,ahl,ah,gn,fI,ap,EQ,aaN h,acF,ae2,sc,e4 h]
    rw[Vs _ _ _ h]
   simp (disch:=omega) only[aK,az,v6,ew,ge,aj,gp,ahl,ah,gn,fI,ap,EQ,alD h,ww,ap2,aaN,sc,e5 h]
   rw[show(E.take (e+1)++[(i:Int)]).length=e+1+1 from by rw[ab0,aai,EQ];omega]
  rw[show afe (DS f (t.1,t.2) es[e]! i)=afd from aA c]at ah
  obtain⟨m,E',h1,h2,h3,h4,h5,h6,h7⟩:=ih (by omega) (λj j1 j2=>by
   by_cases q:j=e
   ·rw[q];exact c
   exact wN j (by omega) j2)
  refine⟨m,E',by omega,h2,h3,h4,h5,h6,?_⟩;rw[AC (by omega)]at h7;rw[<-h7];refine aQ ?_;unfold sF o1;simp (disch:=omega) only[aK,az,v6,ew,ge,aj,gp,ahl,ah,ww,ae2,abu]
theorem ady{f:List Pt}{N:List Nd}{es:List Nat}{i m:Nat}(hN:(aeX N)=i)(TW: ∀e∈es,e<i)(hm:m<=aeX es):
 (zH f N es i m).length=i+1/\(zH f N es i m)[i]! =((f[i]!).1,if m<(aeX es)then(es[m]!:Int)else -1,-1)/\
 ∀k,k<i->((zH f N es i m)[k]!).1=(N[k]!).1/\((zH f N es i m)[k]!).2.1=(N[k]!).2.1/\((0<m/\k=es[m-1]!)->((zH f N es i m)[k]!).2.2=(i:Int))/\(¬(0<m/\k=es[m-1]!)->((zH f N es i m)[k]!).2.2=(N[k]!).2.2):=by
 unfold zH
 by_cases m0:m=0
 ·grind
 grind
theorem alE {f:List Pt} (aV:aR f) {t:Int×Int} (r:bo t) (dX:jb t): ∀(d i:Nat) (es:List Nat) (N:List Nd) (lc:Int) (E:List Int),aeX f-i<=d->i<=aeX f->aeX N=i->(∀k,k<i->(N[k]!).1=(f[k]!).1)->
 y4 (DS f t) N 0 i lc es->E.take (aeX es)=eI es->aeX es<=aeX E->aeX E<=i->
 ∃(Rq:Int) (N':List Nd),aq pT (o2 f t (aeX es) (aeX E) i lc N E)=af7 (⟨Rq,N'⟩,0)/\hZ f t N' Rq:=by
 have f1:=aV.1;have fin: ∀(es:List Nat) (N:List Nd) (lc:Int) (E:List Int),aeX N=aeX f->(∀k,k<aeX f->(N[k]!).1=(f[k]!).1)->y4 (DS f t) N 0 (aeX f) lc es->
  ∃(Rq:Int) (N':List Nd),aq pT (o2 f t (aeX es) (aeX E) (aeX f) lc N E)=af7 (⟨Rq,N'⟩,0)/\hZ f t N' Rq:=fun es N lc E h1 h2 h3=>
  ⟨lc,N,au (by unfold pT o2;simp),⟨h1,h2,h3.lw⟩⟩
 intro d
 induction d with
 |zero=>
  intro i es N lc E hd hi h1 h2 h3 _ _ _;have:i=(aeX f):=by omega
  simp_all
 |succ d ih=>
  intro i es N lc E hd hi h1 h2 h3 h4 h5 h6
  by_cases he:i=aeX f
  · grind
  have tY:i<(aeX f):=by omega
  have o:=xh aV.2.2 t;have mem:=h3.mem;have TW:=fun e he=>(mem e he).2
  obtain ⟨m,E',m1,m2,m3,m4,m5,m6,m7⟩:=alC aV r dX tY TW h1 h4 h5 (by omega) (aeX es) (IR _) (fun j j1 j2=>by omega);rw [Do (aeG _)] at m7;have st:pT (o2 f t (aeX es) (aeX E) i lc N E)=af7 (.next (o2 f t (m+1) (aeX E') (i+1) (if m=0 then (i:Int) else lc) (zH f N es i m) E')):=by
   unfold pT
   conv=>lhs;unfold o2
   simp (disch:=omega) only [az,v6,ar f i tY,aj];exact m7
  obtain ⟨a1,a2,a3⟩:=ady h1 TW m1;have sp:=h3.add o m (abq _) tY m1 (fun j hj=>by
   by_cases q:j=m-1
   · grind
   · have hj':=TW _ (aE (show j<(aeX es) by omega))
     have Fv:=TW _ (aE (show m-1<(aeX es) by omega));exact o.tr _ es[m-1]! _ (by omega) (by omega) tY (h3.chain j (m-1) (by omega) (by omega)) (m2 (by omega))) m3
   (by rw [a2]) (by rw [a2]) (fun k _ hk=>by
    grind)
  have le:(es.take m++[i]).length=m+1:=by grind
  rw [aQ st];have:=ih (i+1) (es.take m++[i]) (zH f N es i m) (if m=0 then (i:Int) else lc) E' (by omega) (by omega) a1 (fun k hk=>by
   grind) sp (by rw [le];exact m4) (by omega) (by omega)
  rw [le] at this;exact this
theorem Vu{f:List Pt}(aV:aR f){t:Int×Int}(r:bo t)(dX:jb t): ∃(lc:Int) (N:List Nd),uA ⟨f⟩ t=af7 (⟨lc,N⟩,0)/\hZ f t N lc:=by
 obtain⟨lc,N,h1,h2⟩:=alE aV r dX (aeX f) 0 [] [] _ [] (by omega) (by omega) rfl (λk hk=>by omega) (.nil (IR _)) rfl (IR _) (IR _);refine⟨lc,N,?_,h2⟩;have hc:cU ⟨f⟩=af7 0:=by rw[eW];exact congrArg af7 (dM.2 aV)
 unfold uA Be;rw[hc,aj,bw rfl,ww,cZ dX,AC r,aj,aj,bw rfl,ww];exact h1
theorem ahm{f:List Pt}(aV:aR f){t:Int×Int}(dX:jb t){a b:Nat}(hb:b<=aeX f): ∀(d j C6:Nat),b-j<=d->j<=b->yZ (DS f t) a j C6-> ∃i:Nat,aq lY ((b:Int),(C6:Int),(j:Int),f,t)=af7 (i:Int)/\yZ (DS f t) a b i:=by
 have f1:=aV.1;have o:=xh aV.2.2 t;have fin: ∀C6:Nat,yZ _ a b C6-> ∃i:Nat,aq lY ((b:Int),(C6:Int),(b:Int),f,t)=af7 (i:Int)/\yZ (DS f t) a b i:=λC6 h=>⟨C6,au (by unfold lY;simp),h⟩
 intro d
 induction d with
 |zero=>
  grind
 |succ d ih=>
  intro j C6 hd hj h
  by_cases he:j=b
  ·grind
  have h1:=h.lo;have h2:=h.hi;have sc:=aM (show j<1000000000 by omega);have ld:=CU (aV.2.1 _ (aE (show j<(aeX f) by omega))) (aV.2.1 _ (aE (show C6<(aeX f) by omega))) dX
  by_cases c:DS f t j C6
  ·rw[show afe (leads f[j]! f[C6]! t)=afb from az c]at ld
   rw[aQ (y:=((b:Int),(j:Int),((j+1:Nat):Int),f,t)) (by unfold lY;simp (disch:=omega) only[az,v6,aA,ww,ar,aj,ld,sc])];refine ih _ j (by omega) (by omega) ⟨by omega,by omega,λk k1 k2 k3=>?_⟩
   by_cases q:k=C6
   ·rw[q];exact c
   exact o.tr j C6 k (by omega) (by omega) (by omega) c (h.top k k1 (by omega) q)
  rw[show afe (leads f[j]! f[C6]! t)=afd from aA c]at ld
  rw[aQ (y:=((b:Int),(C6:Int),((j+1:Nat):Int),f,t)) (by unfold lY;simp (disch:=omega) only[az,v6,aA,ww,ar,aj,ld,sc])];refine ih _ C6 (by omega) (by omega) ⟨h1,by omega,λk k1 k2 k3=>?_⟩
  by_cases q:k=j
  ·rw[q];exact o.Xd j C6 (by omega) (by omega) (by omega) c
  exact h.top k k1 (by omega) k3
theorem ahn{f:List Pt}(aV:aR f){t:Int×Int}(dX:jb t){a b:Nat}(Mp:a<b)(hb:b<=aeX f): ∃i:Nat,Ac ⟨f⟩ t (a:Int) (b:Int)=af7 (i:Int)/\yZ (DS f t) a b i:=by have f1:=aV.1;obtain⟨i,h1,h2⟩:=ahm aV dX hb (b- (a+1)) _ a (by omega) (by omega) (show yZ (DS f t) a (a+1) a from⟨by omega,by omega,λk k1 k2 k3=>by omega⟩);refine⟨i,?_,h2⟩;unfold Ac;rw[aQ (y:=((b:Int),(a:Int),((a+1:Nat):Int),f,t)) (by unfold lY;simp (disch:=omega) only[az,v6,aM])];exact h1
theorem Rr(f:List Pt)(t:Int×Int)(a:Nat):Ac ⟨f⟩ t (a:Int) (a:Int)=af7 (-1):=by refine au ?_;unfold lY;simp
theorem adz{f:List Pt}(aV:aR f){t:Int×Int}(dX:jb t): ∀(d m a b:Nat) (N:List Nd),b-a<=d->d<m->a<=b->b<=aeX f->aeX N=aeX f->
 ∃(r:Int) (N':List Nd),kO m (f,t.1,t.2,0,(a:Int),(b:Int),N)=af7 (r,N')/\aeX N'=aeX f/\(∀k:Nat,(N'[k]!).1=(N[k]!).1)/\(∀k:Nat,(k<a\/b<=k)->N'[k]! =N[k]!)/\od (DS f t) N' a b r:=by
 have f1:=aV.1;intro d
 induction d with
 |zero=>
  intro m a b N hd hm Mp hb hN;have:a=b:=by omega
  subst this;cases m with
  |zero=>omega
  |succ m=>refine⟨-1,N,?_,hN,λ_=>rfl,λ_ _=>rfl,.nil (IR _)⟩;show gS _ _=_;unfold gS;simp (disch:=omega) only[show((t.1,t.2):Int×Int)=t from rfl,Rr f t a,aj,aA,ww,beq_self_eq_true,v6]
 |succ d ih=>
  intro m a b N hd hm Mp hb hN;cases m with
  |zero=>omega
  |succ m=>
  by_cases e:a=b
  ·subst e
   refine⟨-1,N,?_,hN,λ_=>rfl,λ_ _=>rfl,.nil (IR _)⟩;show gS _ _=_;unfold gS;simp (disch:=omega) only[show((t.1,t.2):Int×Int)=t from rfl,Rr f t a,aj,aA,ww,beq_self_eq_true,v6]
  obtain⟨i,t1,t2⟩:=ahn aV dX (show a<b by omega) hb;have lo:=t2.lo;have hi:=t2.hi;obtain⟨l,N1,g1,g2,g3,g4,g5⟩:=ih m a i N (by omega) (by omega) lo (by omega) hN;have gi:=ar N1 i (by omega);obtain⟨rr,N2,k1,k2,k3,k4,k5⟩:=ih m (i+1) b (N1.set i ((N1[i]!).1,l,(N1[i]!).2.2)) (by omega) (by omega) (by omega) hb (by grind);have gj:=ar N2 i (by omega);have n2i:N2[i]! =((N1[i]!).1,l,(N1[i]!).2.2):=by rw[k4 i (.inl (by omega)),cw,AC ⟨rfl,by omega⟩]
  have n3i:(N2.set i ((N2[i]!).1,(N2[i]!).2.1,rr))[i]! =((N1[i]!).1,l,rr):=by grind
  have n3: ∀k,k≠i->(N2.set i ((N2[i]!).1,(N2[i]!).2.1,rr))[k]! =N2[k]!:=λk hk=>by rw[cw,Do (λw=>hk w.1)]
  have n1: ∀k,k≠i->(N1.set i ((N1[i]!).1,l,(N1[i]!).2.2))[k]! =N1[k]!:=λk hk=>by rw[cw,Do (λw=>hk w.1)]
  refine⟨(i:Int),N2.set i ((N2[i]!).1,(N2[i]!).2.1,rr),?_,by grind,λk=>?_,λk hk=>?_,?_⟩
  ·show gS _ _=_
   unfold gS;simp (disch:=omega) only[show((t.1,t.2):Int×Int)=t from rfl,t1,aj,az,v6,g1,gi,fI,aM,k1,gj,abw,k2,hN,beq_self_eq_true]
  ·by_cases q:k=i
   ·rw[q,n3i,<-g3 i]
   rw[n3 k q,k3 k,n1 k q,g3 k]
  ·rw[n3 k (by omega),k4 k (by omega),n1 k (by omega),g4 k (by omega)]
  refine .node t2 ?_ ?_
  ·rw[n3i]
   refine g5.frame λk h1 h2=>?_
   rw[n3 k (by omega),k4 k (.inl (by omega)),n1 k (by omega)]
  rw[n3i]
  refine k5.frame λk h1 h2=>?_
  rw[n3 k (by omega)]
theorem Xi{f:List Pt}(aV:aR f){t:Int×Int}(dX:jb t): ∃(lc:Int) (N:List Nd),Bm ⟨f⟩ t=af7 ⟨lc,N⟩/\hZ f t N lc:=by
 have f1:=aV.1
 let ini:Nat->List Nd:=λi=>(f.take i).map λp=>(p.1,0,0)
 have il: ∀i,i<=aeX f->(ini i).length=i:=λi hi=>by show(aeq _ _).length=_;rw[PP,aai];omega
 have key:=bz (body:=qu) (λi=>((i:Int),f,t.1,t.2,0,0,ini i)) (aeX f) (λi hi=>by
  have nx:ini (i+1)=ini i++[((f[i]!).1,0,0)]:=by show aeq _ _=aeq _ _++_;rw[da hi,ad7];rfl
  unfold qu;simp (disch:=omega) only[aK,az,v6,ar f i hi,aj,aM,nx];rw[bG (by rw[il i (by omega),EQ];omega),aj])
 obtain⟨r,N,g1,g2,g3,_,g5⟩:=adz aV dX (aeX f) 1000000 0 (aeX f) _ (by omega) (by omega) (by omega) (IR _) (il _ (IR _));refine⟨r,N,?_,⟨g2,λk hk=>?_,g5⟩⟩
 ·unfold Bm EV
  rw[show aq qu (0,f,t.1,t.2,0,0,[])=_ from key];rw[au (r:=(⟨r,N⟩:Tree)) (by unfold qu;have g1':uD (f,t.1,t.2,0,0,((aeX f):Int),ini (aeX f))=af7 _:=g1;simp (disch:=omega) only[aK,aA,ww,g1',aj]),aj]
 grind
def note(U:List Int)(c:Int)(i:Nat):List Int:=if 0<=c then U.set c.toNat (i:Int)else U
def TX(N:List Nd)(U:List Int):Nat->List Int
 |0=>U
 |i+1=>note (note (TX N U i) (N[i]!).2.1 i) (N[i]!).2.2 i
theorem C7(U:List Int)(c:Int)(i:Nat):(note U c i).length=(aeX U):=by unfold note;split<;>simp
theorem BC(N:List Nd)(U:List Int): ∀i,(TX N U i).length=aeX U
 |0=>rfl
 |i+1=>by rw[TX,C7,C7,BC N U i]
theorem Nc(U:List Int)(c:Int)(i k:Nat)(hk:k<aeX U):(note U c i)[k]! =if c=(k:Int)then(i:Int)else U[k]!:=by
 unfold note
 grind
theorem Xj{α:Type}[Inhabited α]{n i:Nat}(a:α)(h:i<n):(If n a)[i]! =a:=by
 grind
section
variable {f : List Pt} {t : Int × Int} {N : List Nd} {r : Int}
theorem hZ.link(h:hZ f t N r){j:Nat}(hj:j<aeX f){c:Int}(hc:(N[j]!).2.1=c\/(N[j]!).2.2=c):c= -1\/(0<=c/\c<aeX N):=by
 have ln:=h.len;rcases h.lw.kids j (abq _) hj c hc with e|⟨k,e,_,k2,_⟩
 ·exact .inl e
 omega
theorem hZ.aho(h:hZ f t N r){U:List Int}(hU:(aeX U)=aeX N): ∀i,i<=aeX N-> ∀k,k<aeX N->(TX N U i)[k]! =if rM N k<i then(rM N k:Int)else U[k]!
 |0,_,k,_=>by rfl
 |i+1,hi,k,hk=>by
  have ln:=h.len;have ih:=h.aho hU i (by omega) k hk;have p:=h.par (k:=k) (by omega);rw[TX,Nc _ _ _ _ (by rw[C7,BC];omega),Nc _ _ _ _ (by rw[BC];omega),ih]
  by_cases hb:Below N k i
  ·have e:=p.2.2 i (by omega) hb
   rw[AC (show rM N k<i+1 by omega),<-e];rcases hb with q|q
   ·omega
   rw[AC q]
  have n1:=λq=>hb (.inl q)
  have n2:=λq=>hb (.inr q)
  grind
def m1S(N:List Nd)(r:Int)(i:Nat)(j:Int)(U:List Int):=((i:Int),N,((aeX N):Int),(i:Int),(N[i]!).2.1,(N[i]!).2.2,j,(0:Int),r,N,U)
def m3S(N:List Nd)(r:Int)(i:Nat)(U:List Int):=(N,((aeX N):Int),(i:Int),(0:Int),r,N,U)
theorem I7{U:List Int}{c:Int}(h0:0<=c)(h:c<aeX U): ∃x,aF U c=af7 x:=⟨_,kT h0 h⟩
theorem I8{U:List Int}{c:Int}(h0:0<=c)(x:Int):cQ U c x=U.set c.toNat x:=by rfl
theorem adA(h:hZ f t N r)(hN:(aeX N)<=1000){i:Nat}(hi:i<aeX N){U:List Int}(hU:(aeX U)=aeX N):aq kM (m1S N r i 0 U)=af7 (.next (m3S N r (i+1) (note (note U (N[i]!).2.1 i) (N[i]!).2.2 i))):=by
 have ln:=h.len;have l1:=h.link (j:=i) (by omega) (.inl rfl);have l2:=h.link (j:=i) (by omega) (.inr rfl);have s1:kM (m1S N r i 0 U)=af7 (.next (m1S N r i 1 (note U (N[i]!).2.1 i))):=by
  unfold kM m1S note;simp (disch:=omega) only[az,v6,beq_self_eq_true,show aa .i64 (0+1)=1 from fN ⟨by omega,by omega⟩]
  by_cases q:0<=(N[i]!).2.1
  ·obtain⟨x,hx⟩:=I7 (U:=U) q (by omega)
   rw[az q,v6,hx,aj,I8 q,AC q]
  grind
 have s2: ∀V:List Int,aeX V=aeX N->kM (m1S N r i 1 V)=af7 (.next (m1S N r i 2 (note V (N[i]!).2.2 i))):=by
  intro V hV;unfold kM m1S note;simp (disch:=omega) only[az,v6,show((1:Int)==0)=afd from rfl,ww,beq_self_eq_true,show aa .i64 (1+1)=2 from fN ⟨by omega,by omega⟩]
  by_cases q:0<=(N[i]!).2.2
  ·obtain⟨x,hx⟩:=I7 (U:=V) q (by omega)
   rw[az q,v6,hx,aj,I8 q,AC q]
  grind
 rw[aQ s1,aQ (s2 _ (by rw[C7];exact hU))];refine au ?_;unfold kM m1S m3S;simp (disch:=omega) only[aA,ww,aM]
theorem TY(h:hZ f t N r)(hN:(aeX N)<=1000):aq na (((aeX N):Int),0,0,r,N,If (aeX N) 0)=af7 (⟨r,N⟩,cE N (aeX N)):=by
 have ln:=h.len;have k4:=bz (body:=na) (λi=>(((aeX N):Int),(i:Int),(0:Int),r,N,If i (-1)++If (aeX N-i) 0)) (aeX N) (λi hi=>by
  have ll:(If i (-1:Int)++If (aeX N-i) 0).length=(aeX N):=by grind
  have e:(If i (-1:Int)++If (aeX N-i) 0).set i (-1)=If (i+1) (-1)++If (aeX N- (i+1)) 0:=by rw[show(aeX N)-i=(aeX N- (i+1))+1 by omega,List.replicate_succ,List.set_append_right _ _ (by simp),aaQ,Nat.sub_self,List.set_cons_zero,List.replicate_succ',List.append_assoc];rfl
  unfold na;simp (disch:=omega) only[az,v6,ar,aj,fI,e,aM])
 have e0:If 0 (-1:Int)++If (aeX N-0) 0=If (aeX N) 0:=rfl;have e1:If (aeX N) (-1:Int)++If (aeX N-(aeX N)) 0=If (aeX N) (-1):=by simp
 rw[e0,e1]at k4;rw[show aq na (((aeX N):Int),0,0,r,N,If (aeX N) 0)=_ from k4];have lU:(If (aeX N) (-1:Int)).length=(aeX N):=aaQ ..;have k3:=bz (body:=m9) (λi=>m3S N r i (TX N (If (aeX N) (-1)) i)) (aeX N) (λi hi=>by
  have g:=ar N i hi;unfold m9
  conv=>lhs;unfold m3S
  simp (disch:=omega) only[az,g,aj];exact adA h hN hi (by rw[BC,lU]))
 have up:=h.aho lU (aeX N) (IR _);have k2:=bz (body:=m8) (λi=>(N,((aeX N):Int),(i:Int),(0:Int),r,N,TX N (If (aeX N) (-1)) (aeX N),cE N i)) (aeX N) (λi hi=>by
  have g:=ar N i hi;have gu:=ar (TX N (If (aeX N) (-1)) (aeX N)) i (by rw[BC,lU];exact hi);have el:=pG N i;rw[up i hi]at gu;unfold m8;rw[show cE N (i+1)=cE N i++Ap N i from rfl];unfold Ap
  by_cases q:rM N i<aeX N
  ·rw[AC q]at gu
   simp (disch:=omega) only[az,v6,g,gu,aj,ar N (rM N i) q,aM,AC q]
   grind[bG,EQ,aj]
  rw[Do q,Xj (-1) hi]at gu
  simp (disch:=omega) only[az,v6,g,gu,aj,aA,ww,aM,Do q,aby])
 have f2:aq m8 (N,((aeX N):Int),0,0,r,N,TX N (If (aeX N) (-1)) (aeX N),[])=af7 (.done (.done (⟨r,N⟩,cE N (aeX N)))):=by rw[show aq m8 (N,((aeX N):Int),0,0,r,N,TX N (If (aeX N) (-1)) (aeX N),[])=_ from k2];refine au ?_;unfold m8;simp
 have f3:aq m9 (m3S N r 0 (If (aeX N) (-1)))=af7 (.done (⟨r,N⟩,cE N (aeX N))):=by
  rw[show aq m9 (m3S N r 0 (If (aeX N) (-1)))=_ from k3];refine au ?_;unfold m9 m3S
  grind
 refine au ?_;unfold na;simp (disch:=omega) only[aK,aA,ww];exact f3
def q1S(N:List Nd)(r:Int)(i:Nat)(j:Int)(U:List Int):=((i:Int),N,((aeX N):Int),(i:Int),(N[i]!).2.1,(N[i]!).2.2,j,r,N,U)
def q3S(N:List Nd)(r:Int)(i:Nat)(U:List Int):=(N,((aeX N):Int),(i:Int),r,N,U)
theorem adB(h:hZ f t N r)(hN:(aeX N)<=1000){i:Nat}(hi:i<aeX N){U:List Int}(hU:(aeX U)=aeX N):aq kS (q1S N r i 0 U)=af7 (.next (q3S N r (i+1) (note (note U (N[i]!).2.1 i) (N[i]!).2.2 i))):=by
 have ln:=h.len;have l1:=h.link (j:=i) (by omega) (.inl rfl);have l2:=h.link (j:=i) (by omega) (.inr rfl);have s1:kS (q1S N r i 0 U)=af7 (.next (q1S N r i 1 (note U (N[i]!).2.1 i))):=by
  unfold kS q1S note;simp (disch:=omega) only[az,v6,beq_self_eq_true,show aa .i64 (0+1)=1 from fN ⟨by omega,by omega⟩]
  by_cases q:0<=(N[i]!).2.1
  ·obtain⟨x,hx⟩:=I7 (U:=U) q (by omega)
   rw[az q,v6,hx,aj,I8 q,AC q]
  grind
 have s2: ∀V:List Int,aeX V=aeX N->kS (q1S N r i 1 V)=af7 (.next (q1S N r i 2 (note V (N[i]!).2.2 i))):=by
  intro V hV;unfold kS q1S note;simp (disch:=omega) only[az,v6,show((1:Int)==0)=afd from rfl,ww,beq_self_eq_true,show aa .i64 (1+1)=2 from fN ⟨by omega,by omega⟩]
  by_cases q:0<=(N[i]!).2.2
  ·obtain⟨x,hx⟩:=I7 (U:=V) q (by omega)
   rw[az q,v6,hx,aj,I8 q,AC q]
  grind
 rw[aQ s1,aQ (s2 _ (by rw[C7];exact hU))];refine au ?_;unfold kS q1S q3S;simp (disch:=omega) only[aA,ww,aM]
theorem TZ(h:hZ f t N r)(hN:(aeX N)<=1000):rE ⟨r,N⟩=af7 (cE N (aeX N)):=by
 have ln:=h.len;have lU:(If (aeX N) (0:Int)).length=(aeX N):=aaQ ..;have mk:oE ((aeX N):Int) (0:Int)=af7 (If (aeX N) 0):=by unfold oE;rw[AC ⟨by omega,by omega⟩,abu]
 have k3:=bz (body:=px) (λi=>q3S N r i (TX N (If (aeX N) 0) i)) (aeX N) (λi hi=>by
  have g:=ar N i hi;unfold px
  conv=>lhs;unfold q3S
  simp (disch:=omega) only[az,g,];exact adB h hN hi (by rw[BC,lU]))
 have up:=h.aho lU (aeX N) (IR _);have k2:=bz (body:=nq) (λi=>(N,((aeX N):Int),(i:Int),r,N,TX N (If (aeX N) 0) (aeX N),cE N i)) (aeX N) (λi hi=>by
  have g:=ar N i hi;have gu:=ar (TX N (If (aeX N) 0) (aeX N)) i (by rw[BC,lU];exact hi);have el:=pG N i;have p:=h.par (k:=i) (by omega);rw[up i hi]at gu;unfold nq;rw[show cE N (i+1)=cE N i++Ap N i from rfl];unfold Ap
  by_cases q:(i:Int)=r
  ·have e:=p.1 q
   simp (disch:=omega) only[az,v6,g,aj,bw q,ww,aM,Do,aby]
  have e:=(p.2.1 q).1
  simp (disch:=omega) only[az,v6,g,aj,dV q,gu,ar N _ e,aM,AC e];rw[bG (by rw[EQ];omega),aj])
 have f2:aq nq (N,((aeX N):Int),0,r,N,TX N (If (aeX N) 0) (aeX N),[])=af7 (.done (cE N (aeX N))):=by rw[show aq nq (N,((aeX N):Int),0,r,N,TX N (If (aeX N) 0) (aeX N),[])=_ from k2];refine au ?_;unfold nq;simp (disch:=omega) only[aA,ww]
 unfold rE;simp[mk,];rw[show aq px (N,((aeX N):Int),0,r,N,If (aeX N) 0)=_ from k3];refine au ?_;unfold px q3S
 grind
theorem adC(h:hZ f t N r)(hN:(aeX N)<=1000){i:Nat}(hi:i<aeX N):aq rA ((i:Int),0,r,N,cE N i)=af7 (.next (((i+1:Nat):Int),r,N,cE N (i+1))):=by
 have ln:=h.len;have p:=h.par (k:=i) (by omega);have el:=pG N i;have g:=ar N i hi;have key:=bz (body:=rA) (λj=>((i:Int),(j:Int),r,N,cE N i++(if rM N i<j then [((N[i]!).1,(N[rM N i]!).1)]else []))) (aeX N) (λj hj=>by
  have gj:=ar N j hj;unfold rA
  by_cases hb:Below N i j
  ·have e:=p.2.2 j hj hb
   rw[Do (by omega),AC (by omega),aby];have ap:ba (cE N i) [((N[i]!).1,(N[j]!).1)]=af7 (cE N i++[((N[i]!).1,(N[j]!).1)]):=bG (by grind)
   by_cases q:(N[j]!).2.1=(i:Int)
   ·simp (disch:=omega) only[aK,az,v6,gj,g,aj,lZ q,ap,aM,<-e]
   have q2:=hb.resolve_left q
   simp (disch:=omega) only[aK,az,v6,gj,g,aj,jA q,ww,lZ q2,ap,aM,<-e]
  have ne:rM N i≠j:=λq=>by
   grind
  have n1:=λq=>hb (.inl q)
  have n2:=λq=>hb (.inr q)
  have e:(if rM N i<j+1 then [((N[i]!).1,(N[rM N i]!).1)]else [])=(if rM N i<j then [((N[i]!).1,(N[rM N i]!).1)]else []):=by
   grind
  simp (disch:=omega) only[aK,az,v6,gj,aj,jA n1,jA n2,ww,aM,e])
 have e0:(if rM N i<0 then [((N[i]!).1,(N[rM N i]!).1)]else [])=[]:=Do (Nat.not_lt_zero _);rw[e0,aby]at key;rw[show aq rA ((i:Int),0,r,N,cE N i)=_ from key];refine au ?_;unfold rA;simp (disch:=omega) only[aK,aA,ww,aM];rfl
theorem adD(h:hZ f t N r)(hN:(aeX N)<=1000):F3 ⟨r,N⟩=af7 (cE N (aeX N)):=by have k:=bz (body:=vN) (λi=>((i:Int),r,N,cE N i)) (aeX N) (λi hi=>by unfold vN;simp (disch:=omega) only[aK,az,];exact adC h hN hi);unfold F3;rw[show aq vN (0,r,N,[])=_ from k];refine au ?_;unfold vN;simp
end
theorem OW{f:List Pt}(aV:aR f){t:Int×Int}(r:bo t)(dX:jb t): ∃(lc:Int) (N:List Nd),rq ⟨f⟩ t=af7 (⟨lc,N⟩,cE N (aeX f))/\hZ f t N lc:=by
 have f1:=aV.1;obtain⟨lc,N,h1,h2⟩:=Vu aV r dX;have ln:=h2.len;have mk:oE ((aeX N):Int) (0:Int)=af7 (If (aeX N) 0):=by unfold oE;rw[AC ⟨by omega,by omega⟩,abu]
 unfold rq
 grind[TY]
theorem T0:sM=kJ:=rfl
theorem adE(r r':Int)(a b:List Nd)(hl:(aeX a)<=1000000):yO ⟨r,a⟩ ⟨r',b⟩=af7 (afe (r=r'/\a=b)):=by
 unfold yO;simp only[aK]
 by_cases h0:r=r'
 case neg=>grind
 rw[bw h0,ww]
 by_cases h:(aeX a)=aeX b
 case neg=>rw[dV (by omega),v6,aA (λq=>h (by rw[q.2]))]
 rw[bw (by omega),ww];have key:=kV (body:=sY) (λi=>((i:Int),r,a,r',b)) (aeX a) (λi=>a[i]! =b[i]!) (r:=afd) (e:=afb) (λi hi=>by
  unfold sY;simp (disch:=omega) only[ar,aM]
  grind) (by
  unfold sY;simp)
 refine(key).trans ?_
 by_cases q:a=b
 ·grind
 rw[Do (λw=>q (ny h w)),aA (λw=>q w.2)]
theorem Vv(c:aH)(es:List (Int×Int))(h1:(aeX es)<=1000000)(_:(aeX c.af.ce)<=1000000):
 rz c es=af7 (afe (aeX es=aeX c.af.ce/\ ∀i,i<aeX c.af.ce->(c.af.ce[i]!).2∈es)):=by
 unfold rz fy fZ;simp only[aK]
 by_cases h0:(aeX es)=aeX c.af.ce
 case neg=>rw[jA (by omega),ww,aA (λq=>h0 q.1)]
 rw[lZ (by omega),v6];have key:=pz (body:=cj) (λi=>(c.af.ce,es,((aeX c.af.ce):Int),(i:Int))) (aeX c.af.ce) (λi=>(c.af.ce[i]!).2∉es) (λi=>(i:Int)) (e:= -1) (λi hi=>by
  unfold cj zt;simp only[az (show(i:Int)<((aeX c.af.ce):Int) by omega),v6,ar c.af.ce i hi,aj,ie es _ h1,aM (show i<1000000000 by omega)];refine⟨λq=>?_,λq=>?_⟩
  ·rw[aA q];rfl
  ·rw[az (WF.1 q)];rfl) (by
  unfold cj;simp only[aA (show¬((aeX c.af.ce):Int)<((aeX c.af.ce):Int) by omega),ww])
 by_cases hx: ∀i,i<aeX c.af.ce->(c.af.ce[i]!).2∈es
 ·rw[show aq cj (c.af.ce,es,((aeX c.af.ce):Int),0)=_ from key.2 (λi hi=>WF.2 (hx i hi)),aj,aj,aA (by omega),az ⟨h0,hx⟩]
  rfl
 obtain⟨i,hi⟩:=abN.1 hx
 obtain⟨hi,hn⟩:=abS.1 hi;obtain⟨m,m1,m2,m3⟩:=least (c:=λi=>(c.af.ce[i]!).2∉es) ⟨i,hi,hn⟩;rw[show aq cj (c.af.ce,es,((aeX c.af.ce):Int),0)=_ from key.1 m m1 m2 m3,aj,aj,az (by omega),aA (λw=>hx w.2)];rfl
structure jm(k:cf):Prop where
 iG:aT k.jp
 lw:hZ k.jp.ii.am k.jp.ci k.lw.ls k.lw.lc
 cert:(k.jp.af.ce.map λx=>x.2).Perm (cE k.lw.ls (aeX k.jp.ii.am))
theorem IN{c:aH}(ok:aT c){N:List Nd}{r:Int}(_:hZ c.ii.am c.ci N r):
 ((cE N (aeX c.ii.am)).length=aeX c.af.ce/\ ∀i,i<aeX c.af.ce->(c.af.ce[i]!).2∈cE N (aeX c.ii.am))↔(c.af.ce.map λx=>x.2).Perm (cE N (aeX c.ii.am)):=by
 have cl:(c.af.ce.map λx=>x.2).length=(aeX c.af.ce):=PP ..;constructor
 ·rintro⟨h1,h2⟩
  refine gd (ma ok.wF) (λx hx=>?_) (by omega);obtain⟨i,hi,rfl⟩:=dW.2 hx;exact h2 i hi
 intro h
 exact⟨by rw[<-h.length_eq,cl],λi hi=>h.mem_iff.1 (dW.1 ⟨i,hi,rfl⟩)⟩
theorem OX{c:aH}(ok:aT c){N:List Nd}{r:Int}(tr:hZ c.ii.am c.ci N r):
 (aeX c.af.ce=(cE N (aeX c.ii.am)).length/\ ∀i,i<(cE N (aeX c.ii.am)).length->qy c.af.ce (cE N (aeX c.ii.am))[i]!/\leads (bC c.ii.am ((cE N (aeX c.ii.am))[i]!).2) (bC c.ii.am ((cE N (aeX c.ii.am))[i]!).1) c.ci)↔(c.af.ce.map λx=>x.2).Perm (cE N (aeX c.ii.am)):=by
 have cl:(c.af.ce.map λx=>x.2).length=(aeX c.af.ce):=PP ..;obtain⟨_,nd,ld⟩:=tr.Rp ok.dI;constructor
 ·rintro⟨h1,h2⟩
  refine(gd nd (λx hx=>?_) (by omega)).symm;obtain⟨i,hi,rfl⟩:=aN.1 hx;exact dW.1 (h2 i hi).1
 intro h
 exact⟨by rw[<-h.length_eq,cl],λi hi=>⟨dW.2 (h.mem_iff.2 (aE hi)),ld _ (aE hi)⟩⟩
theorem oe{k:cf}(fit:oc k.jp):lV k=af7 (if jm k then 0 else 8):=by
 unfold lV;rw[iF fit,aj]
 by_cases ok:aT k.jp
 case neg=>rw[Do ok,Do (λh=>ok h.iG)];rfl
 rw[AC ok,bw rfl,ww];have bd:=ok.bd;obtain⟨r,N,h1,h2⟩:=OW ok.dI ok.gZ ok.dP;have same: ∀h:jm k,N=k.lw.ls/\r=k.lw.lc:=λh=>h2.same ok.dI.2.2 h.lw
 rw[h1,aj]
 by_cases hr:r=k.lw.lc
 case neg=>grind
 have ln:=h2.len;rw[bw hr,ww,T0,tD N k.lw.ls (by omega),aj]
 by_cases hn:N=k.lw.ls
 case neg=>grind
 have el:=pG N (aeX k.jp.ii.am);rw[az hn,abA,ww];show(rz k.jp (cE N (aeX k.jp.ii.am))).bind _=_;rw[Vv k.jp _ (by omega) (by omega),aj];have iff:=IN ok h2
 by_cases hj:(cE N (aeX k.jp.ii.am)).length=aeX k.jp.af.ce/\ ∀i,i<aeX k.jp.af.ce->(k.jp.af.ce[i]!).2∈cE N (aeX k.jp.ii.am)
 ·rw[az hj,AC (⟨ok,by grind,by grind⟩)];rfl
 rw[aA hj,Do (λh:jm k=>hj (iff.2 (by rw[hn];exact h.cert)))];rfl
theorem K0{k:cf}(fit:oc k.jp):pg k=af7 (if jm k then 0 else 8):=by
 unfold pg;rw[tz fit,aj]
 by_cases ok:aT k.jp
 case neg=>rw[Do ok,Do (λh=>ok h.iG)];rfl
 rw[AC ok,bw rfl,ww];have bd:=ok.bd;obtain⟨r,N,h1,h2⟩:=Xi ok.dI ok.dP;have same: ∀h:jm k,N=k.lw.ls/\r=k.lw.lc:=λh=>h2.same ok.dI.2.2 h.lw
 have ln:=h2.len;have asB:k.lw=⟨k.lw.lc,k.lw.ls⟩:=rfl;rw[h1,aj,asB,adE _ _ _ _ (by omega),aj]
 by_cases hn:r=k.lw.lc/\N=k.lw.ls
 case neg=>grind
 obtain⟨oL,_,_⟩:=h2.Rp ok.dI;rw[az hn,abA,ww,adD h2 (by omega),aj,ln,I6 ok _ oL.kn,aj];have iff:=OX ok h2
 by_cases hj:(aeX k.jp.af.ce)=(cE N (aeX k.jp.ii.am)).length/\ ∀i,i<(cE N (aeX k.jp.ii.am)).length->qy k.jp.af.ce (cE N (aeX k.jp.ii.am))[i]!/\leads (bC k.jp.ii.am ((cE N (aeX k.jp.ii.am))[i]!).2) (bC k.jp.ii.am ((cE N (aeX k.jp.ii.am))[i]!).1) k.jp.ci
 ·rw[az hj,AC (⟨ok,by grind,by grind⟩)];rfl
 rw[aA hj,Do (λh:jm k=>hj (iff.2 (by rw[hn.2];exact h.cert)))];rfl
theorem K1{α:Type}[BEq α][LawfulBEq α]: ∀{a b:List α},a.Nodup->(∀x∈a,x∈b)->aeX a<=aeX b
 | [],_,_,_=>abq _
 |x::a,b,hd,h=>by
  rw[abx]at hd;have:=K1 (b:=b.erase x) hd.2 (λy hy=>by rw[adu (λe=>hd.1 (by rw[<-e];exact hy))];exact h y (NE _ hy))
  grind
theorem y5{α:Type}[BEq α][LawfulBEq α]{a b:List α}(ha:a.Nodup)(hb:b.Nodup)(h1: ∀x∈a,x∈b)(h2: ∀x∈b,x∈a):a.Perm b:=gd ha h1 (K1 hb h2)
theorem K2{c:aH}(ok:aT c){es:List _}(oL:mM c.ii.am es)(pm:(c.af.ce.map λx=>x.2).Perm es):gX c c.ii es=af7 (c,0):=by
 have bd:=ok.bd;have el:=oL.len;have k1:=bz (body:=bL) (λi=>kP c c.ii.am es i c) (aeX c.af.ce) (λi hi=>by have AN:=pm.mem_iff.1 (dW.1 ⟨i,hi,rfl⟩);unfold bL kP;simp (disch:=omega) only[az,v6,ar c.af.ce i hi,aj,ie _ _ oL.len,abA,ww,aM]);refine(k1).trans (au ?_);unfold bL kP;simp (disch:=omega) only[aA,tD,];have k2:=bz (body:=cB) (λi=>eP es i c) (aeX es) (λi hi=>by have AN:=dW.2 (pm.mem_iff.2 (aE hi));unfold cB eP;simp (disch:=omega) only[az,v6,ar es i hi,aj,xp,Gb,aM]);refine(k2).trans (au ?_);unfold cB eP;simp
structure Hy(R:cf)(F:List Pt)(t:Int×Int):Prop where
 ok:jm R
 dI:R.jp.ii.am=F
 ci:R.jp.ci=t
abbrev noH:cf:=⟨eQ,⟨0,[]⟩⟩
theorem I9{f:List Pt}{m:Nat}{p q:Pt}:q∈qz f m p↔q=p\/q∈f:=by
 unfold qz
 grind[abL,abM,ado]
theorem DT{f:List Pt}(hs:eu f){q:Nat}(hq:q<aeX f){p:Pt}:p∈f.eraseIdx q↔p∈f/\p.1≠(f[q]!).1:=by
 rw[List.mem_eraseIdx_iff_getElem];constructor
 ·rintro⟨i,hi,fo,rfl⟩
  refine⟨List.getElem_mem _,λe=>?_⟩;rw[<-getElem!_pos f i hi]at e;rcases UV i q with c|c|c
  ·have:=fD hs c hq;omega
  ·exact fo c
  have:=fD hs c hi;omega
 rintro⟨hp,fo⟩
 obtain⟨i,hi,rfl⟩:=aN.1 hp
 grind
theorem tI{f:List Pt}(hs:eu f){q:Pt}(h:q∈f):bC f q.1=q:=by obtain⟨i,hi,rfl⟩:=aN.1 h;exact iO hs hi rfl
theorem vv{f:List Pt}(hs:eu f){x:Int}(h:dY f x):bC f x∈f/\(bC f x).1=x:=by
 obtain⟨i,hi,rfl⟩:=h
 grind[tI,aE]
theorem Nf{f g:List Pt}(hf:eu f)(hg:eu g){x:Int}(h:dY f x)(hm:bC f x∈g):bC g x=bC f x:=by
 grind[tI,vv]
theorem nS{f:List Pt}(hs:eu f)(t:Int×Int):SO (λa b=>leads (bC f a) (bC f b) t) (dY f) where
 X0:=λa _ h=>eN h h
 tr:=λ_ _ _ _ _ _ h k=>pE h k
 Xd:=λa b ha hb fo=>by
  grind[fJ,vv]
abbrev iZ(f:List Pt)(t:Int×Int)(a b:Int):Prop:=leads (bC f a) (bC f b) t
theorem Ng{f:List Pt}(hs:eu f){t:Int×Int}{l:List Int}(hp: ∀x∈l,dY f x)(nd:l.Nodup):(∀e∈dN l,leads (bC f e.2) (bC f e.1) t)↔Hp (iZ f t) l:=by
 constructor
 ·intro h j h1 h2 c
  have hm:(l[j]!,l[par j]!)∈dN l:=by
   refine aN.2 ⟨j-1,by rw[gU];omega,?_⟩
   grind[vQ]
  exact eN c (h _ hm)
 intro h e he
 obtain⟨i,hi,rfl⟩:=aN.1 he;rw[gU]at hi;rw[vQ l hi];have:=h (i+1) (by omega) (by omega);have pe:par (i+1)=i / 2:=by rfl
 rw[pe]at this;refine fJ t ?_ this;rw[(vv hs (hp _ (aE (by omega)))).2,(vv hs (hp _ (aE (by omega)))).2];exact λe=>bJ.1 nd (i / 2) (i+1) (by omega) (by omega) e.symm
structure Gj(R:bX)(F:List Pt)(t:Int×Int):Prop where
 ok:kW R
 dI:R.jp.ii.am=F
 ci:R.jp.ci=t
theorem kW.len{k:bX}(h:kW k):(aeX k.bv)=(aeX k.jp.ii.am):=by rw[<-h.perm.length_eq];exact PP ..
theorem kW.bd{k:bX}(h:kW k):(aeX k.bv)<=64:=by have:=h.len;have:=h.iG.dI.1;omega
theorem kW.has{k:bX}(h:kW k): ∀x∈k.bv,dY k.jp.ii.am x:=λ_ hx=>cz.1 (h.perm.mem_iff.2 hx)
theorem kW.nd{k:bX}(h:kW k):k.bv.Nodup:=h.perm.nodup_iff.1 (db h.iG.dI.2.2)
theorem kW.hp{k:bX}(h:kW k):Hp (iZ k.jp.ii.am k.jp.ci) k.bv:=(Ng h.iG.dI.2.2 h.has h.nd).1 h.lead
abbrev noK:bX:=⟨eQ,[]⟩
theorem Rs{c:aH}(ok:aT c){f:List Pt}(aV:aR f){l:List Int}(pm:(cq f).Perm l):
 ∃R:bX×Int,bY c ⟨f⟩ l=af7 R/\(R=(noK,18)\/R.2=0/\R.1.bv=l/\yY c f (dN l) R.1.jp)/\(f=c.ii.am->(c.af.ce.map λx=>x.2).Perm (dN l)->R=(⟨c,l⟩,0)):=by
 have f1:=aV.1;have ln:(aeX l)=(aeX f):=by rw[<-pm.length_eq];exact PP ..
 have oL:=Bx aV pm;have nd:=pm.nodup_iff.1 (db aV.2.2);obtain⟨r,r1,r3⟩:=Gf ok aV oL;have ee:mb f (dN l)=0:=by unfold mb;rw[Do (WF.2 oL.cv),Do (WF.2 (vR nd)),Do (λh=>h oL.kn)]
 have rn:=yb ok aV (es:=dN l) (by rw[gU];omega) (λ_=>r1);rw[AC ee]at rn;rcases r3 with⟨q0,q⟩|he
 ·refine⟨(⟨r.1,l⟩,0),?_,.inr ⟨rfl,rfl,q⟩,λhf hc=>?_⟩
  ·unfold bY
   rw[yc l (by omega),aj,rn,aj,q0];rfl
  subst hf
  have:=K2 ok oL hc;have e:r=(c,0):=adc (r1.symm.trans this);rw[e]
 refine⟨(noK,18),?_,.inl rfl,λhf hc=>?_⟩
 ·unfold bY
  rw[yc l (by omega),aj,rn,aj,he];rfl
 subst hf
 have:=K2 ok oL hc;have e:r=(c,0):=adc (r1.symm.trans this);rw[he]at e;cases e
theorem yY.bv{c:aH}{f:List Pt}(aV:aR f){l:List Int}(pm:(cq f).Perm l){R:bX}(e:R.bv=l)(q:yY c f (dN l) R.jp)(h:Hp (iZ f c.ci) l):Gj R f c.ci:=by
 have nd:=pm.nodup_iff.1 (db aV.2.2);refine⟨⟨q.ok,by rw[q.dI,e];exact pm,?_,?_⟩,q.dI,q.ci⟩
 ·rw[e]
  exact y5 (ma q.ok.wF) (vR nd) (λx hx=>by obtain⟨y,hy,rfl⟩:=abt.1 hx;exact q.sub y hy) (λx hx=>dW.1 (q.has x hx))
 rw[e,q.dI,q.ci]
 exact(Ng aV.2.2 (λx hx=>cz.1 (pm.mem_iff.2 hx)) nd).2 h
noncomputable def FW(c:aH)(f:List Pt)(l:List Int):bX×Int:=(bY c ⟨f⟩ l).getD (noK,0)
theorem OY{c:aH}(ok:aT c){f:List Pt}(aV:aR f){l:List Int}(pm:(cq f).Perm l):bY c ⟨f⟩ l=af7 (FW c f l):=by obtain⟨R,h,_⟩:=Rs ok aV pm;unfold FW;rw[h];rfl
theorem aaO{k:bX}(ok:kW k)(p:Pt):(∃e:Int,e≠0/\dv k.jp.ii p=af7 (⟨[]⟩,e)/\rC k p=af7 (noK,e))\/
 ∃m,Ro k.jp.ii.am p m/\ ¬dY k.jp.ii.am p.1/\fM p/\aeX k.jp.ii.am<64/\dv k.jp.ii p=af7 (⟨qz k.jp.ii.am m p⟩,0)/\
  ∃l,(cq (qz k.jp.ii.am m p)).Perm l/\Hp (iZ (qz k.jp.ii.am m p) k.jp.ci) l/\rC k p=af7 (FW k.jp (qz k.jp.ii.am m p) l):=by
 have c1:=pD ok.iG.fit (by have:=ok.bd;omega);rw[AC ok]at c1;have aV:=ok.iG.dI;rcases tH aV p with⟨e,e0,t1⟩|⟨m,hm,hp,po,iL,t1⟩
 ·have t1:dv k.jp.ii p=af7 (⟨[]⟩,e):=t1
  refine .inl ⟨e,e0,t1,?_⟩;unfold rC;grind
 have tO:=Gi aV po hm iL;have oth: ∀x,dY k.jp.ii.am x->bC (qz k.jp.ii.am m p) x=bC k.jp.ii.am x:=λx hx=>Nf aV.2.2 tO.2.2 hx (I9.2 (.inr (vv aV.2.2 hx).1))
 have hn:=ok.len;have pm:(cq (qz k.jp.ii.am m p)).Perm (k.bv++[p.1]):=by
  have e1:cq (qz k.jp.ii.am m p)=(cq k.jp.ii.am).take m++p.1::(cq k.jp.ii.am).drop m:=by unfold qz cq;simp
  rw[e1];refine List.perm_middle.trans ?_;rw[ado];exact(aer _ ok.perm).trans (List.perm_append_singleton _ _).symm
 have ll:(k.bv++[p.1]).length=aeX k.bv+1:=by simp
 have lo:wm (qz k.jp.ii.am m p) (aeX k.bv+1) (k.bv++[p.1]):=⟨ll,by omega,λy hy=>cz.1 (pm.mem_iff.2 hy),pm.nodup_iff.1 (db tO.2.2)⟩;have go:=alB (P:=p) (c0:=p) ⟨ok.iG,tO⟩ ll (λl hl=>OY ok.iG tO (pm.trans hl.symm)) (aeX k.bv) (k.bv++[p.1]) (by omega) lo (acG _);have pr:=By (qz k.jp.ii.am m p) k.jp.ci (aeX k.bv) (k.bv++[p.1]) (by omega);have ew:aa .i64 (((aeX k.bv+1:Nat):Int)-1)=((aeX k.bv):Int):=by grind[fN]
 have ap:ba k.bv [p.1]=af7 (k.bv++[p.1]):=bG (by grind);have hh:Hp (iZ (qz k.jp.ii.am m p) k.jp.ci) (nC (qz k.jp.ii.am m p) k.jp.ci (aeX k.bv) (k.bv++[p.1])):=by
  refine Hx (nS tO.2.2 k.jp.ci) (λ_ _=>Iff.rfl) _ _ lo.hp ⟨by omega,λj j1 j2 j3=>?_,λj j1 j2 j3 j4=>by grind⟩;have b1:(k.bv++[p.1])[j]! =k.bv[j]!:=by grind
  have b2:(k.bv++[p.1])[par j]! =k.bv[par j]!:=by grind
  rw[b1,b2];have hj:=ok.has _ (aE (show j<(aeX k.bv) by omega));have hq:=ok.has _ (aE (show par j<(aeX k.bv) by grind));show¬leads _ _ _;rw[oth _ hj,oth _ hq];exact ok.hp j j1 (by omega)
 refine .inr ⟨m,hm,hp,po,iL,t1,_,pm.trans pr.symm,hh,?_⟩;unfold rC;simp (disch:=omega) only[c1,aj,t1,cM,ap,beq_self_eq_true,aK,ll,ew];exact go
theorem Xk{k:bX}(ok:kW k)(id:Int):(¬dY k.jp.ii.am id/\cO k.jp.ii id=af7 (⟨[]⟩,6)/\mq k id=af7 (noK,6))\/
 ∃q,q<aeX k.jp.ii.am/\(k.jp.ii.am[q]!).1=id/\cO k.jp.ii id=af7 (⟨k.jp.ii.am.eraseIdx q⟩,0)/\
  ∃l,(cq (k.jp.ii.am.eraseIdx q)).Perm l/\Hp (iZ (k.jp.ii.am.eraseIdx q) k.jp.ci) l/\mq k id=af7 (FW k.jp (k.jp.ii.am.eraseIdx q) l):=by
 have c1:=pD ok.iG.fit (by have:=ok.bd;omega);rw[AC ok]at c1;have hl:=ok.bd;have aV:=ok.iG.dI;have f1:=aV.1
 by_cases Ps:dY k.jp.ii.am id
 case neg=>have t1:=xg aV Ps;have t1:cO k.jp.ii id=af7 (⟨[]⟩,6):=t1;refine .inl ⟨Ps,t1,?_⟩;unfold mq;grind
 have asC:=ok.perm.mem_iff.1 (cz.2 Ps);obtain⟨q,hq,rfl⟩:=Ps;have t1:=Bz aV hq;have t1:cO k.jp.ii (k.jp.ii.am[q]!).1=af7 (⟨k.jp.ii.am.eraseIdx q⟩,0):=t1;have tO:=C5 aV q;have fl:(k.jp.ii.am.eraseIdx q).length=aeX k.jp.ii.am-1:=Gc hq;have hn:=ok.len;have nd:=ok.nd;have oth: ∀x,dY k.jp.ii.am x->x≠(k.jp.ii.am[q]!).1->bC (k.jp.ii.am.eraseIdx q) x=bC k.jp.ii.am x:=λx hx fo=>by
  obtain⟨y1,y2⟩:=vv aV.2.2 hx;exact Nf aV.2.2 tO.2.2 hx ((DT aV.2.2 hq).2 ⟨y1,by omega⟩)
 obtain⟨a,a1,a2,a3⟩:=DR (by omega) asC;have lst:(aeX k.bv)-1<(aeX k.bv):=by omega
 have ew:aa .i64 (((aeX k.bv):Int)-1)=((aeX k.bv-1:Nat):Int):=vt (by omega) (by omega);have ga:=ar k.bv a a1;have gl:=ar k.bv (aeX k.bv-1) lst;have nea: ∀j,j<aeX k.bv->j≠a->k.bv[j]!≠(k.jp.ii.am[q]!).1:=λj hj fo e=>by
  rcases UV j a with c|c|c
  ·exact bJ.1 ok.nd j a c a1 (e.trans a2.symm)
  ·exact fo c
  exact bJ.1 ok.nd a j c hj (a2.trans e.symm)
 generalize hL:k.bv.set a k.bv[aeX k.bv-1]! =L;have Ll:(aeX L)=(aeX k.bv):=by grind
 generalize hm:(aeX k.bv)-1=m at*;have em:L=L.take m++[L[m]!]:=by
  grind[aak,ad5]
 have ll:(L.take m).length=m:=by grind
 have bl: ∀j,j<m->(L.take m)[j]! =if j=a then k.bv[m]! else k.bv[j]!:=λj hj=>by
  grind
 have ps:(L.take m++[(k.jp.ii.am[q]!).1]).Perm k.bv:=by
  have e:fO k.bv a m=L.take m++[(k.jp.ii.am[q]!).1]:=by unfold fO;rw[hL,a2,List.set_eq_take_append_cons_drop,AC (by omega),ad5 (by omega)]
  grind[kv]
 have pm:(cq (k.jp.ii.am.eraseIdx q)).Perm (L.take m):=by
  refine gd (db tO.2.2) (λy hy=>?_) (by rw[ll];show m<=(aeq _ _).length;rw[PP];omega);obtain⟨p,hp,rfl⟩:=abt.1 hy;obtain⟨h1,h2⟩:=(DT aV.2.2 hq).1 hp;have:=ps.mem_iff.2 (ok.perm.mem_iff.1 (abt.2 ⟨p,h1,rfl⟩))
  grind
 have lo:wm (k.jp.ii.am.eraseIdx q) m (L.take m):=⟨ll,by omega,λy hy=>cz.1 (pm.mem_iff.2 hy),pm.nodup_iff.1 (db tO.2.2)⟩;have tok:BA k (k.jp.ii.am.eraseIdx q):=⟨ok.iG,tO⟩;have s1:jE L 0 (m:Int)=af7 (L.take m):=rG L m (by omega);have cl:cN k.bv=af7 k.bv:=cM (by omega)
 by_cases ha:a<m
 ·have go:=alA (k:=k) (n0:=aeX k.bv) (x:=L[m]!) tok (c0:=k.bv) (c1:=a) (c2:=k.bv[m]!) (by omega) (R:=FW k.jp (k.jp.ii.am.eraseIdx q)) (l0:=L.take m) (λl hl=>OY ok.iG tO (pm.trans hl.symm)) a (L.take m) ha lo (acG _)
  rw[<-em]at go;have pr:=By (k.jp.ii.am.eraseIdx q) k.jp.ci a (L.take m) (by omega);have ri:=(Rk (k.jp.ii.am.eraseIdx q) k.jp.ci a (L.take m) (by omega)).1;have pk:=(TS (k.jp.ii.am.eraseIdx q) k.jp.ci _ (nC (k.jp.ii.am.eraseIdx q) k.jp.ci a (L.take m)) (Al (k.jp.ii.am.eraseIdx q) k.jp.ci a (L.take m)) (IR _) (by rw[pr.length_eq];exact ri)).trans pr;have hh:=Rm (nS tO.2.2 k.jp.ci) (P:=iZ (k.jp.ii.am.eraseIdx q) k.jp.ci) (l:=L.take m) (a:=a) (λ_ _=>Iff.rfl) lo.hp (by omega) (λj j1 j2 j3 j4=>by
   rw[ll]at j2;have q2:par j<m:=by simp only[par];omega
   rw[bl j j2,bl _ q2,Do j3,Do j4];show¬leads _ _ _;rw[oth _ (ok.has _ (aE (by omega))) (nea j (by omega) j3),oth _ (ok.has _ (aE (by omega))) (nea _ (by omega) j4)];exact ok.hp j j1 (by omega)) (λj j1 j2 j3 j4=>by
   rw[ll]at j2;have q2:par a<m:=by simp only[par];omega
   have n1:j≠a:=by simp only[par]at j3;omega
   have n2:par a≠a:=by simp only[par];omega
   rw[bl j j2,bl _ q2,Do n1,Do n2];show¬leads _ _ _;rw[oth _ (ok.has _ (aE (by omega))) (nea j (by omega) n1),oth _ (ok.has _ (aE (by omega))) (nea _ (by omega) n2)];have h1:=ok.hp j j1 (by omega);rw[j3]at h1;exact(nS aV.2.2 k.jp.ci).ntr (ok.has _ (aE (by omega))) (ok.has _ (aE a1)) (ok.has _ (aE (by omega))) h1 (ok.hp a j4 a1))
  refine .inr ⟨q,hq,rfl,t1,_,(pm.trans pk.symm),hh,?_⟩;unfold mq;rw[c1,aj,bw rfl,ww,t1,aj,bw rfl,ww,cl,aj,a3,aj];simp (disch:=omega) only[aK,ew,gl,aj,ga,fI,hL,s1,az,v6,beq_self_eq_true];rw[show((m:Nat):Int).toNat=m from abu m,Ll];exact go
 have hh:Hp (iZ (k.jp.ii.am.eraseIdx q) k.jp.ci) (L.take m):=λj j1 j2=>by
  rw[ll]at j2;have q2:par j<m:=by simp only[par];omega
  rw[bl j j2,bl _ q2,Do (by omega),Do (by omega)];show¬leads _ _ _;rw[oth _ (ok.has _ (aE (by omega))) (nea j (by omega) (by omega)),oth _ (ok.has _ (aE (by omega))) (nea _ (by omega) (by omega))];exact ok.hp j j1 (by omega)
 refine .inr ⟨q,hq,rfl,t1,_,pm,hh,?_⟩;unfold mq;rw[c1,aj,bw rfl,ww,t1,aj,bw rfl,ww,cl,aj,a3,aj];simp (disch:=omega) only[aK,ew,gl,aj,ga,fI,hL,s1,aA,ww];rw[show((m:Nat):Int).toNat=m from abu m,OY ok.iG tO pm,aj]
def E4(c:aH)(to:Int×Int):Prop:=0<aeX c.ae.bv/\gY (Ev.at c.ae.bv[0]!) to<=0
theorem E4.late{c:aH}{to:Int×Int}(io:E4 c to): ¬gY to (Ev.at c.ae.bv[0]!)<0:=λh=>by have h2:=io.2;rw[oH]at h;unfold gY at h2;rcases dU ((Ev.at c.ae.bv[0]!).1*to.2) (to.1*(Ev.at c.ae.bv[0]!).2)with⟨a,b⟩|⟨a,b⟩|⟨a,b⟩<;>omega
theorem Gk{c:aH}(ok:aT c){to:Int×Int}(rt:bo to)(dX:jb to)(le: ¬gY to c.ci<0):vO c to=af7 (afe (E4 c to),0):=by
 unfold vO;rw[iF ok.fit,AC ok,aj,cZ dX,AC rt,aj,bw (by decide),ww,CT dX ok.dP,AC ⟨rt,ok.gZ⟩,aj,aA le,ww];unfold EX;rw[lA _ ok.fit.ag,AC ok.nB,aj,bw rfl,ww]
 by_cases h:0<aeX c.ae.bv
 ·have ev:=ok.nB.ev 0 h
  have g:=ar c.ae.bv 0 h;rw[show((0:Nat):Int)=0 from rfl]at g;rw[jA (by grind),ww,g,aj,aj,bw rfl,ww,CT ev.2.1 dX,AC ⟨ev.1,rt⟩,aj]
  by_cases h2:gY (Ev.at c.ae.bv[0]!) to<=0
  ·rw[az (show E4 c to from⟨h,h2⟩),az h2]
  rw[aA (λk:E4 c to=>h2 k.2),aA h2]
 rw[lZ (by grind),v6,aj,aA (λk:E4 c to=>h k.1)]
 rfl
abbrev Vw(c:aH)(t:Int×Int):aH:=⟨t,c.ii,c.af,c.ae,c.io⟩
theorem Gl{c:aH}(ok:aT c){to:Int×Int}(rt:bo to)(dX:jb to)(le: ¬gY to c.ci<0)(io: ¬E4 c to):kQ c to=af7 (eQ,(0,0,0,0,0),(0,0),6):=by unfold kQ;rw[Gk ok rt dX le,aj,lZ rfl,v6,aA io];rfl
theorem I'{c:aH}(ok:aT c){to:Int×Int}(rt:bo to)(dX:jb to)(le: ¬gY to c.ci<0)(io: ¬E4 c to):qO c to=af7 (Vw c to,0):=by unfold qO;rw[Gk ok rt dX le,aj,lZ rfl,v6,aA io,ww,bw rfl,ww,jc ok,aj]
theorem Xl{c:aH}(ok:aT c)(l:List Int){to:Int×Int}(rt:bo to)(dX:jb to)(le: ¬gY to c.ci<0)(io: ¬E4 c to):nJ ⟨c,l⟩ to=af7 (⟨eQ,[]⟩,(0,0),6):=by
 unfold nJ
 grind[Gl,aj]
def aP(c:aH)(l:List Int)(to:Int×Int)(out:List (Int×Int)):=
 (c.ci.1,c.ci.2,c.ii.am,c.af.aW,c.af.ce,c.ae.ai.ay,c.ae.ai.be,c.ae.ai.bi,c.ae.bv,c.ae.aC,c.io,l,to.1,to.2,(0:Int),(0:Int),(0:Int),out)
structure eR(c:aH)(m k:Nat):Prop where
 l:(aeX c.af.ce)<=m
 n:c.af.aW<=k
 u: ∀j,j<aeX c.ae.ai.ay->c.ae.ai.ay[j]!<=k
theorem eR.KW{c:aH}(ok:aT c){m k:Nat}(h:eR c m k)(hm:m<=199)(hk:k<=999999): ¬(Ip c.af\/ ¬CW c.ae.ai):=by
 obtain⟨h1,h2,h3⟩:=h;have fl:=ok.AA.len;have hd:=ok.hd;have hl:=ok.nB.hl;have wl:=ok.nB.wl;have w2:=ok.Hu;rintro(h|h)
 ·rcases h with h|h<;>omega
 refine h ⟨by omega,?_⟩
 have:=h3 _ (DK ok.nB.so (by omega)).1;omega
theorem eR.more{c c':aH}{m k:Nat}(h:eR c m k){x:Int×Int}(hc:c'.af=tq c.af x)(hs:c'.ae.ai=c.ae.ai\/c'.ae.ai=pB c.ae.ai):eR c' (m+1) (k+1):=by
 obtain⟨h1,h2,h3⟩:=h;refine⟨?_,?_,λj hj=>?_⟩
 ·rw[hc]
  show(c.af.ce++[(c.af.aW,x)]).length<=_
  grind
 ·rw[hc]
  show c.af.aW+1<=_;omega
 rcases hs with e|e
 ·grind
 rw[e]at hj ⊢
 change j<(c.ae.ai.ay.set _ _).length at hj;show(c.ae.ai.ay.set _ _)[j]!<=_
 grind
theorem C8{c:aH}(ok:aT c){i:Nat}(hi:i<aeX c.af.ce){c':aH}{x:Int×Int}(h:jF c (c.af.ce[i]!).1=af7 (c',x,0)):c'.ae.ai.ay=c.ae.ai.ay:=by
 have bd:=ok.bd;have rm:=C2 ok.wF hi rfl;have fe:=ok.AA.erase hi;have pd:=Hv ok.KT (by omega) (c.af.ce[i]!).1;cases hf:(bP c.ii.am _ c.ci).2 with
 |false=>
  have no: ∀k,k<aeX c.io->(c.io[k]!).1≠(c.af.ce[i]!).1:=by
   intro k hk he;obtain⟨x,hx,h1,h2,_⟩:=ok.AA.io _ (aE hk);obtain⟨j,hj,rfl⟩:=aN.1 hx;have ub:=xf.1 ok.tB;have:j=i:=by
    rcases UV j i with h|h|h
    ·have:=ub j i h hi;omega
    ·exact h
    have:=ub i j h hj;omega
   rw[this,hf]at h2;cases h2
  unfold jF at h;simp[jc ok,]at h
  grind
 |true=>
  obtain⟨k,hk,k1,k2,k3⟩:=fe.2 hf;obtain⟨w,hw,me⟩:=aN.1 k2;have hh:(c.ae.bv[w]!).2.2.2=(c.io[k]!).2:=by rw[me]
  obtain⟨L,d1,d2⟩:=yX c.io k hk;unfold jF at h;simp (disch:=omega) only[rm,aj,jc ok,pd.1 k hk k1,ar c.io k hk,uG ok.nB hw ok.nB.fit hh,aM,KN,d1,]at h;injection h with h;injection h with h _;rw[<-h];have h3:(fu c.ae w).ai=qj c.ae.ai (c.ae.bv[w]!).2.2.2:=by unfold fu;split<;>rfl
  rw[h3];rfl
theorem Vx{c0:aH}(ok0:aT c0){f:List Pt}{es:List (Int×Int)}(oL:mM f es){k:Nat}:
 ∀(d i:Nat) (c:aH),aeX c0.af.ce-i<=d->i<=aeX c0.af.ce->aT c->(∀x∈c0.af.ce.drop i,x∈c.af.ce)->(∀x∈c.af.ce,x∈c0.af.ce.drop i\/x.2∈es)->eR c (aeX es) k\/eR c 100 k->
  c.ii=c0.ii->c.ci=c0.ci->eR c 100 k->
  ∃c':aH,aq bL (kP c0 f es i c)=aq bL (kP c0 f es (aeX c0.af.ce) c')/\aT c'/\(∀x∈c'.af.ce,x.2∈es)/\c'.ii=c0.ii/\eR c' 100 k/\c'.ci=c0.ci:=by
 have bd:=ok0.bd;intro d
 induction d with
 |zero=>
  grind
 |succ d ih=>
  intro i c hd hi ok h1 h2 _ hf hn hr
  by_cases he:i=aeX c0.af.ce
  ·grind
  have tY:i<(aeX c0.af.ce):=by omega
  have e1:afe ((i:Int)<((aeX c0.af.ce):Int))=afb:=az (by omega);have sc:=aM (show i<1000000000 by omega);have cg:=ar c0.af.ce i tY;have dr:=uH tY;have B5:(aH.mk (c.ci.1,c.ci.2) (Field.mk c.ii.am) (cm.mk c.af.aW c.af.ce) (aS.mk (bF.mk c.ae.ai.ay c.ae.ai.be c.ae.ai.bi) c.ae.bv c.ae.aC) c.io)=c:=rfl
  by_cases AN:(c0.af.ce[i]!).2∈es
  ·have s1:bL (kP c0 f es i c)=af7 (.next (kP c0 f es (i+1) c)):=by
    unfold bL kP;simp only[e1,v6,cg,aj,ie _ _ oL.len,az AN,abA,ww,sc]
   rw[aQ s1]
   grind
  have hm:=h1 (c0.af.ce[i]!) (by rw[dr];exact aaP)
  obtain⟨m,Wz,V1⟩:=aN.1 hm;obtain⟨c',r1,r3,r4,r5,r6⟩:=TP ok Wz;have ru:=C8 ok Wz r1;have rt:=BS ok Wz r1;rw[V1]at rt;have s1:bL (kP c0 f es i c)=af7 (.next (kP c0 f es (i+1) c')):=by unfold bL kP;simp only[e1,v6,cg,aj,ie _ _ oL.len,aA AN,acF,sc,B5,rt]
  rw[aQ s1];have cl:c'.af.ce=c.af.ce.eraseIdx m:=by rw[r6];rfl
  have Yh:eR c' 100 k:=⟨by rw[cl,abP Wz];have:=hr.l;omega,by rw[r6];exact hr.n,by rw[ru];exact hr.u⟩;refine ih (i+1) c' (by omega) (by omega) r3 (λx hx=>?_) (λx hx=>?_) (.inr Yh) (r4.trans hf) (r5.trans hn) Yh
  ·rw[cl]
   refine Na (h1 x (by rw[dr];exact NE _ hx)) ?_;rw[V1];exact Bu ok0 hx tY
  rw[cl]at hx
  obtain⟨a1,a2⟩:=tC ok.tB Wz hx;rw[V1]at a2;rcases h2 x a1 with h|h
  ·rw[dr]at h
   rcases abz.1 h with rfl|h
   ·exact absurd rfl a2
   exact .inl h
  exact .inr h
theorem OZ{f:List Pt}{es:List _}(oL:mM f es)(TW:(aeX es)<=90):
 ∀(d i:Nat) (c:aH) (k:Nat),aeX es-i<=d->i<=aeX es->aT c->c.ii.am=f->eR c (100+i) k->k+(aeX es-i)<=999999->
  ∃r:aH,aq cB (eP es i c)=af7 (.done (r,0))/\ ∃k',k'<=k+(aeX es-i)/\eR r 190 k':=by
 intro d
 induction d with
 |zero=>
  intro i c k hd hi ok hf hr hk;have:i=(aeX es):=by omega
  subst this;refine⟨c,au ?_,k,by omega,⟨by have:=hr.l;omega,hr.n,hr.u⟩⟩;unfold cB eP;simp
 |succ d ih=>
  intro i c k hd hi ok hf hr hk
  by_cases he:i=aeX es
  ·grind
  have bd:=ok.bd;have tY:i<(aeX es):=by omega
  have e1:afe ((i:Int)<((aeX es):Int))=afb:=az (by omega);have sc:=aM (show i<1000000000 by omega);have cg:=ar es i tY;have hc:=Gb c.af.ce es[i]! (by omega)
  by_cases AN:qy c.af.ce es[i]!
  ·have s1:cB (eP es i c)=af7 (.next (eP es (i+1) c)):=by
    unfold cB eP;simp only[e1,v6,cg,aj,xp,hc,az AN,sc]
   rw[aQ s1];obtain⟨r,q1,k',q2,q3⟩:=ih (i+1) c k (by omega) (by omega) ok hf ⟨by have:=hr.l;omega,hr.n,hr.u⟩ (by omega)
   grind
  have hb:kr c.ii.am es[i]!:=by rw[hf];exact oL.kn _ (aE tY)
  rcases Vl ok (oL.cv _ (aE tY)) hb AN with⟨_,full⟩|⟨c',r1,r3,r4,r5,r6,r7⟩
  ·exact absurd full (hr.KW ok (by omega) (by omega))
  have s1:cB (eP es i c)=af7 (.next (eP es (i+1) c')):=by
   unfold cB eP;simp only[e1,v6,cg,aj,xp,hc,aA AN,ww,r1,show((0:Int) !=0)=afd from rfl,sc]
  rw[aQ s1];obtain⟨r,q1,k',q2,q3⟩:=ih (i+1) c' _ (by omega) (by omega) r3 (by rw[r4,hf]) ((hr.more r6 r7)) (by omega)
  grind
theorem K3{c:aH}(ok:aT c){es:List _}(oL:mM c.ii.am es)(TW:(aeX es)<=90){k:Nat}(hr:eR c 100 k)(hk:k+aeX es<=999999):
 ∃r:aH,gX c c.ii es=af7 (r,0)/\ ∃k',k'<=k+aeX es/\eR r 190 k':=by
 have f1:=ok.dI.1;obtain⟨c',g1,g2,g3,g4,g5,_⟩:=Vx ok oL (aeX c.af.ce) 0 c (by omega) (by omega) ok (λx hx=>by rwa [acI]at hx) (λx hx=> .inl (by rwa [acI])) (.inr hr) rfl rfl hr;obtain⟨r,q1,k',q2,q3⟩:=OZ oL TW (aeX es) 0 c' k (by omega) (by omega) g2 (by rw[g4]) g5 (by omega);refine⟨r,?_,k',by omega,q3⟩;refine(g1).trans (au ?_);unfold bL kP;simp (disch:=omega) only[g4,tD,];unfold eP at q1
 grind
theorem Nh{c:aH}(ok:aT c){to:Int×Int}(rt:bo to)(io: ¬E4 c to){y:wk}(hy:y∈c.af.ce)(is:(bP c.ii.am y.2 c.ci).2=afb):
 to.1*(bP c.ii.am y.2 c.ci).1.2<(bP c.ii.am y.2 c.ci).1.1*to.2:=by
 obtain⟨d,hd,_,ev⟩:=ok.AA.has _ hy is;obtain⟨v,hv,he⟩:=aN.1 ev;have tl:=Aj ok.nB v hv;have h0:0<(aeX c.ae.bv):=by omega
 have e0:=(ok.nB.ev 0 h0).1.1;have ev':=(ok.nB.ev v hv).1.1;rw[he]at tl ev';have n1:=λq=>tl (.inl q)
 rw[oH]at n1;have n2: ¬gY (Ev.at c.ae.bv[0]!) to<=0:=λq=>io ⟨h0,q⟩
 have n3:to.1*(Ev.at c.ae.bv[0]!).2<(Ev.at c.ae.bv[0]!).1*to.2:=by unfold gY at n2;rcases dU ((Ev.at c.ae.bv[0]!).1*to.2) (to.1*(Ev.at c.ae.bv[0]!).2)with⟨a,b⟩|⟨a,b⟩|⟨a,b⟩<;>omega
 exact qx rt.1 e0 ev' n3 (aeE.1 n1)
theorem Gm{c:aH}(ok:aT c){to:Int×Int}(rt:bo to)(dX:jb to)(le: ¬gY to c.ci<0)(io: ¬E4 c to):aT (Vw c to):=by
 have pt:=λ(x:Int×Int) (hb:kr c.ii.am x)=>ae0 (bK ok.dI hb.2).1 (bK ok.dI hb.1).1
 refine⟨rt,dX,ok.dI,ok.wF,ok.nB,ok.Hu,ok.hd,ok.known,?_⟩;refine bk.time (λy hy=>?_) ok.AA;obtain⟨j,hj,rfl⟩:=aN.1 hy;have hb:=ok.known j hj;refine E3 (pt _ hb).1 (pt _ hb).2 ok.gZ rt (by simp_all[oH]) (λis=>?_);exact aea (Nh ok rt io hy is)
theorem aaR{h l:Pt}{t t':Int×Int}(hh:fM h)(hl:fM l)(r:bo t)(r':bo t')(le:t.1*t'.2<=t'.1*t.2)(nf:(jl h l t).2=afb->t'.1*(jl h l t).1.2<(jl h l t).1.1*t'.2): ¬leads l h t':=by
 have mv:=E3 hh hl r r' le (λis=>aea (nf is));intro hn;have e:jl h l t'=(t',afb):=by unfold jl;rw[AC hn]
 grind
structure aaS(c:aH)(l:List Int):Prop where
 ok:aT c
 pm:(cq c.ii.am).Perm l
 ct:(c.af.ce.map λx=>x.2).Perm (dN l)
noncomputable abbrev adF(to:Int×Int)(c:aH)(l:List Int)(out:List _):=aq pX (aP c l to out)
theorem adG{c c2:aH}{l l2:List Int}{to x:Int×Int}{out:List _}(ev:nJ ⟨c,l⟩ to=af7 (⟨c2,l2⟩,x,0))(ol:(aeX out)+1<=1048576):adF to c l out=adF to c2 l2 (out++[x]):=by have ap:ba out [x]=af7 _:=bG (by rw[EQ];omega);refine aQ ?_;unfold pX aP;simp_all
theorem step_end{c:aH}(ok:aT c){l:List Int}(hl:(aeX l)<=1000){to:Int×Int}(rt:bo to)(dX:jb to)(le: ¬gY to c.ci<0)(io: ¬E4 c to)(out:List _):adF to c l out=af7 (⟨Vw c to,l⟩,out,0):=by refine au ?_;unfold pX aP;simp (disch:=omega) only[Xl ok l rt dX le io,aj,show((6:Int)==6)=afb from rfl,v6,I' ok rt dX le io,cM]
theorem Vy{a b:Int×Int}: ¬gY a b<0↔b.1*a.2<=a.1*b.2:=by rw[oH];omega
theorem adH{a b:Int×Int}:gY a b<=0↔a.1*b.2<=b.1*a.2:=by unfold gY;rcases dU (a.1*b.2) (b.1*a.2)with⟨x,y⟩|⟨x,y⟩|⟨x,y⟩<;>omega
theorem O0{p q:Pt}(t:Int×Int)(h:p.1≠q.1)(hn: ¬leads p q t):leads q p t:=by
 unfold leads at*
 grind[Bv,Int.sub_mul]
section
variable {s t : Int × Int}
theorem adI{c:aH}{l:List Int}(h:aaS c l)(rs:bo s)(s64:jb s)(le: ¬gY s c.ci<0)(io: ¬E4 c s):kW ⟨Vw c s,l⟩:=by
 have ok:=h.ok;have nd:=h.pm.nodup_iff.1 (db ok.dI.2.2);refine⟨Gm ok rs s64 le io,h.pm,h.ct,λe he=>?_⟩;obtain⟨j,hj,hx⟩:=dW.2 (h.ct.mem_iff.2 he);have hb:=ok.known j hj;rw[hx]at hb;have p2:=bK ok.dI hb.2;have p1:=bK ok.dI hb.1;have nl: ¬leads (bC c.ii.am e.1) (bC c.ii.am e.2) s:=by
  refine aaR p2.1 p1.1 ok.gZ rs (by rw[Vy]at le;exact le) λis=>?_
  have:=Nh ok rs io (aE hj);rw[hx]at this;exact this is
 grind[O0,Ri]
end
section
variable (f : List Pt)
end
section
variable {f : List Pt}
end
def iI:Nat->(Nat->Nat)->Nat
 |0,_=>0
 |n+1,F=>iI n F+F n
theorem Gn: ∀{n:Nat} {F G:Nat->Nat},(∀i,i<n->F i<=G i)->iI n F<=iI n G
 |0,_,_,_=>IR _
 |n+1,F,G,h=>Nat.add_le_add (Gn λi hi=>h i (by omega)) (h n (by omega))
theorem BD: ∀{n:Nat} {F G:Nat->Nat},(∀i,i<n->F i=G i)->iI n F=iI n G
 |0,_,_,_=>rfl
 |n+1,F,G,h=>by show iI n F+F n=iI n G+G n;rw[BD λi hi=>h i (by omega),h n (by omega)]
theorem Aq: ∀(n:Nat) (F G:Nat->Nat),iI n (λi=>F i+G i)=iI n F+iI n G
 |0,_,_=>rfl
 |n+1,F,G=>by show iI n _+(F n+G n)=(iI n F+F n)+(iI n G+G n);rw[Aq n F G];omega
theorem Gp: ∀(n:Nat) (a:Nat) (F:Nat->Nat),iI n (λi=>a*F i)=a*iI n F
 |0,_,_=>rfl
 |n+1,a,F=>by show iI n _+a*F n=a*(iI n F+F n);rw[Gp n a F,Nat.mul_add]
theorem Ni: ∀(n:Nat),iI n (λ_=>0)=0
 |0=>rfl
 |n+1=>Ni n
theorem Nj(m:Nat): ∀(n:Nat) (A:Nat->Nat->Nat),iI n (λi=>iI m (λj=>A i j))=iI m (λj=>iI n (λi=>A i j))
 |0,A=>(Ni m).symm
 |n+1,A=>by show iI n _+iI m _=iI m (λj=>iI n (λi=>A i j)+A n j);rw[Nj m n A,Aq]
theorem T1{n:Nat}{A B:Nat->Nat->Nat}(h: ∀i j,i<n->j<n->A i j+A j i<=B i j+B j i):iI n (λi=>iI n (λj=>A i j))<=iI n (λi=>iI n (λj=>B i j)):=by
 have e: ∀C:Nat->Nat->Nat,iI n (λi=>iI n (λj=>C i j+C j i))=2*iI n (λi=>iI n (λj=>C i j)):=λC=>by rw[BD (G:=λi=>iI n (λj=>C i j)+iI n (λj=>C j i)) (λi _=>Aq n _ _),Aq,Nj n n (λi j=>C j i)];omega
 have:=Gn (n:=n) (F:=λi=>iI n (λj=>A i j+A j i)) (G:=λi=>iI n (λj=>B i j+B j i)) (λi hi=>Gn λj hj=>h i j hi hj);rw[e A,e B]at this;omega
theorem O1{n:Nat}{F G:Nat->Nat}(h: ∀i,i<n->F i<=G i){a:Nat}(ha:a<n)(hs:F a+1<=G a):iI n F+1<=iI n G:=by
 induction n with
 |zero=>omega
 |succ n ih=>
  show iI n F+F n+1<=iI n G+G n
  by_cases c:a=n
  ·subst c
   have:=Gn (n:=a) λi hi=>h i (by omega)
   omega
  have:=ih (λi hi=>h i (by omega)) (by omega)
  have:=h n (by omega);omega
theorem aaT{n:Nat}{F G:Nat->Nat}{a b:Nat}(ha:a<n)(hb:b<n)(fo:a≠b)(h: ∀i,i<n->i≠a->i≠b->F i=G i):iI n F+G a+G b=iI n G+F a+F b:=by
 have one: ∀(n:Nat) (F G:Nat->Nat) (a:Nat),a<n->(∀i,i<n->i≠a->F i=G i)->iI n F+G a=iI n G+F a:=by
  intro n
  induction n with
  |zero=>intro F G a ha;omega
  |succ n ih=>
   intro F G a ha h;show iI n F+F n+G a=iI n G+G n+F a
   by_cases c:a=n
   ·subst c
    rw[BD (F:=F) (G:=G) λi hi=>h i (by omega) (by omega)];omega
   have:=ih F G a (by omega) (λi hi=>h i (by omega))
   have:=h n (by omega) (λe=>c e.symm);omega
 have h1:=one n F (λi=>if i=a then F a else G i) b hb (λi hi hib=>by
  by_cases c:i=a
  ·rw[AC c,c]
  rw[Do c];exact h i hi c hib)
 have h2:=one n (λi=>if i=a then F a else G i) G a ha (λi hi hia=>by rw[Do hia]);simp only[if_true]at h2;rw[Do (show¬b=a from λe=>fo e.symm)]at h1;omega
theorem DU{n m:Nat}{F:Nat->Nat}(h: ∀i,i<n->F i<=m):iI n F<=n*m:=by
 induction n with
 |zero=>exact abq _
 |succ n ih=>
  show iI n F+F n<=_;have:=ih λi hi=>h i (by omega)
  have:=h n (by omega);rw[aeb];omega
def O2:Nat->Nat
 |0=>0
 |i+1=>O2 (i / 2)+1
decreasing_by omega
theorem adJ{i:Nat}(h:0<i):O2 i=O2 (par i)+1:=by
 cases i with
 |zero=>omega
 |succ i=>
  have pe:par (i+1)=i / 2:=by simp only[par];omega
  rw[pe]
  conv=>lhs;unfold O2
theorem T2: ∀i,O2 i<=i:=by
 intro i
 induction i using abK with
 |ind i ih=>
  cases i with
  |zero=>unfold O2;exact IR _
  |succ i=>unfold O2;have:=ih (i / 2) (by omega);omega
noncomputable def pos(l:List Int)(x:Int):Nat:=if h: ∃k,k<aeX l/\l[k]! =x then h.choose else 0
theorem Hz{l:List Int}(nd:l.Nodup){k:Nat}(hk:k<aeX l):pos l l[k]! =k:=by
 have h: ∃j,j<aeX l/\l[j]! =l[k]!:=⟨k,hk,rfl⟩;unfold pos;rw[dif_pos h];obtain⟨h1,h2⟩:=h.choose_spec;rcases UV h.choose k with c|c|c
 ·exact absurd h2 (bJ.1 nd _ _ c hk)
 ·exact c
 exact absurd h2.symm (bJ.1 nd _ _ c h1)
theorem T3(l:List Int)(x:Int):pos l x<=(aeX l):=by
 unfold pos;split
 ·rename_i h;exact ad6 h.choose_spec.1
 exact abq _
section
variable (f : List Pt)
noncomputable def wgt(t:Int×Int)(p:Nat):Nat:=iI (aeX f) λq=>if leads f[p]! f[q]! t then 1 else 0
noncomputable def psi(l:List Int)(t:Int×Int):Nat:=iI (aeX f) λp=>O2 (pos l (f[p]!).1)*wgt f t p
noncomputable def R9(t:Int×Int):Nat:=iI (aeX f) λp=>iI (aeX f) λq=>if(f[q]!).2.2<(f[p]!).2.2/\ ¬leads f[p]! f[q]! t then 1 else 0
noncomputable def BT(l:List Int)(t:Int×Int):Nat:=psi f l t+aeX f*R9 f t
end
section
variable {f : List Pt}
theorem aaU{l:List Int}{t:Int×Int}(hl:(aeX l)=aeX f)(h10:(aeX f)<=12):BT f l t<=4000:=by
 have w: ∀p,wgt f t p<=aeX f*1:=λp=>DU λq _=>by split<;>omega
 have a:psi f l t<=aeX f*144:=DU λp _=>by have h1:=T2 (pos l (f[p]!).1);have h2:=T3 l (f[p]!).1;have h3:=w p;exact abr (adw (show O2 (pos l (f[p]!).1)<=12 by omega) (show wgt f t p<=12 by omega)) (by decide)
 have b:R9 f t<=aeX f*12:=DU λp _=>abr (DU (m:=1) λq _=>by split<;>omega) (by omega)
 unfold BT;have c:(aeX f)*R9 f t<=12*144:=adw h10 (by omega);omega
theorem O3{p q:Pt}{t t':Int×Int}(d:1<=t.2)(d':1<=t'.2)(le:t.1*t'.2<=t'.1*t.2)(h: ¬leads p q t)(h':leads p q t'):q.2.2<p.2.2:=by
 refine abB λc=>?_
 exact C4 d d' le c h h'
theorem T4(hs:eu f){l:List Int}(hl:(aeX l)=aeX f){t t':Int×Int}(d:1<=t.2)(d':1<=t'.2)(le:t.1*t'.2<=t'.1*t.2):BT f l t'<=BT f l t:=by
 have form: ∀u,BT f l u=iI (aeX f) (λp=>iI (aeX f) (λq=>O2 (pos l (f[p]!).1)*(if leads f[p]! f[q]! u then 1 else 0)+aeX f*(if(f[q]!).2.2<(f[p]!).2.2/\ ¬leads f[p]! f[q]! u then 1 else 0))):=λu=>by
  unfold BT psi R9 wgt;rw[BD (F:=λp=>iI (aeX f) (λq=>O2 (pos l (f[p]!).1)*(if leads f[p]! f[q]! u then 1 else 0)+aeX f*(if(f[q]!).2.2<(f[p]!).2.2/\ ¬leads f[p]! f[q]! u then 1 else 0)))
   (G:=λp=>O2 (pos l (f[p]!).1)*iI (aeX f) (λq=>if leads f[p]! f[q]! u then 1 else 0)+aeX f*iI (aeX f) (λq=>if(f[q]!).2.2<(f[p]!).2.2/\ ¬leads f[p]! f[q]! u then 1 else 0))
   (λp _=>by rw[Aq,Gp,Gp]),Aq,Gp]
 rw[form,form];refine T1 λp q hp hq=>?_
 by_cases e:p=q
 ·subst e
  rw[Do (λh=>eN h h),Do (λh=>eN h h),Do (λh=>by omega),Do (λh=>by omega)];exact IR _
 have ne:(f[p]!).1≠(f[q]!).1:=λh=>e (gT hs hp hq h)
 have dp:O2 (pos l (f[p]!).1)<=(aeX f):=abr (T2 _) (by rw[<-hl];exact T3 _ _);have dq:O2 (pos l (f[q]!).1)<=(aeX f):=abr (T2 _) (by rw[<-hl];exact T3 _ _);generalize O2 (pos l (f[p]!).1)=a at*;generalize O2 (pos l (f[q]!).1)=b at*
 by_cases h1:leads f[p]! f[q]! t<;>by_cases h2:leads f[p]! f[q]! t'
 ·have n1:=eN h1
  have n2:=eN h2;simp only[h1,h2,n1,n2,if_true,if_false,not_true,not_false_iff,and_true,and_false];exact IR _
 ·have n1:=eN h1
  have n2:=fJ t' ne h2;have fa:=O3 d d' le n1 n2;have nf: ¬(f[q]!).2.2<(f[p]!).2.2:=by omega
  simp only[h1,h2,n1,n2,fa,nf,if_true,if_false,not_true,not_false_iff,and_true,and_false,false_and];omega
 ·have n2:=eN h2
  have n1:=fJ t ne h1;have fa:=O3 d d' le h1 h2;have nf: ¬(f[p]!).2.2<(f[q]!).2.2:=by omega
  simp only[h1,h2,n1,n2,fa,nf,if_true,if_false,not_true,not_false_iff,and_true,and_false,false_and];omega
 have n1:=fJ t ne h1
 have n2:=fJ t' ne h2;simp only[h1,h2,n1,n2,if_true,if_false,not_true,not_false_iff,and_true,and_false];exact IR _
theorem T5(hs:eu f){l:List Int}(pm:(cq f).Perm l){t:Int×Int}{i:Nat}(h0:0<i)(hi:i<aeX l)(ah:leads (bC f l[i]!) (bC f l[par i]!) t):BT f (fO l i (par i)) t+1<=BT f l t:=by
 have nd:=pm.nodup_iff.1 (db hs);have hj:par i<(aeX l):=by simp only[par];omega
 have fo:i≠par i:=by simp only[par];omega
 have nd':=(kv hi hj).nodup_iff.2 nd;have sl:=iJ l i (par i);obtain⟨a,ha,ea⟩:=cz.1 (pm.mem_iff.2 (aE hi));obtain⟨b,hb,eb⟩:=cz.1 (pm.mem_iff.2 (aE hj));have Mp:a≠b:=λe=>by subst e;exact bJ.1 nd (par i) i (by simp only[par];omega) hi (eb.symm.trans ea)
 rw[<-ea,<-eb,iO hs ha rfl,iO hs hb rfl]at ah;have p1:pos l (f[a]!).1=i:=by rw[ea];exact Hz nd hi
 have p2:pos l (f[b]!).1=par i:=by rw[eb];exact Hz nd hj
 have q1:pos (fO l i (par i)) (f[a]!).1=par i:=by
  have:(fO l i (par i))[par i]! =l[i]!:=by rw[kX l hi hj,AC rfl]
  rw[ea,<-this];exact Hz nd' (by rw[sl];exact hj)
 have q2:pos (fO l i (par i)) (f[b]!).1=i:=by
  have:(fO l i (par i))[i]! =l[par i]!:=by rw[kX l hi hj,Do fo,AC rfl]
  rw[eb,<-this];exact Hz nd' (by rw[sl];exact hi)
 have oth: ∀p,p<aeX f->p≠a->p≠b->pos (fO l i (par i)) (f[p]!).1=pos l (f[p]!).1:=λp hp h1 h2=>by
  have hm:(f[p]!).1∈l:=pm.mem_iff.1 (cz.2 ⟨p,hp,rfl⟩);obtain⟨k,hk,ek⟩:=aN.1 hm;have k1:k≠i:=λe=>by subst e;exact h1 (gT hs hp ha (ek.symm.trans ea.symm))
  have k2:k≠par i:=λe=>by rw[e]at ek;exact h2 (gT hs hp hb (ek.symm.trans eb.symm))
  have e1:pos l (f[p]!).1=k:=by rw[<-ek];exact Hz nd hk
  have:(fO l i (par i))[k]! =l[k]!:=by rw[kX l hi hj,Do k2,Do k1]
  rw[e1,<-ek,<-this];exact Hz nd' (by rw[sl];exact hk)
 have two:=aaT (n:=aeX f) (F:=λp=>O2 (pos (fO l i (par i)) (f[p]!).1)*wgt f t p) (G:=λp=>O2 (pos l (f[p]!).1)*wgt f t p) ha hb Mp (λp hp h1 h2=>by rw[oth p hp h1 h2]);have wl:wgt f t b+1<=wgt f t a:=by
  refine O1 (λq _=>?_) (a:=b) hb ?_
  ·by_cases c:leads f[b]! f[q]! t
   ·rw[AC c,AC (pE ah c)];exact IR _
   rw[Do c];exact abq _
  rw[Do (λh=>eN h h),AC ah];exact IR _
 simp only[p1,p2,q1,q2,adJ h0]at two;unfold BT;have:psi f (fO l i (par i)) t+1<=psi f l t:=by unfold psi;generalize O2 (par i)=D at two;generalize wgt f t a=A at two wl;generalize wgt f t b=B at two wl;rw[aeb,aeb]at two;omega
 omega
theorem It{h l:Pt}{t:Int×Int}(hh:fM h)(hl:fM l)(is:(jl h l t).2=afb):leads l h (jl h l t).1:=by
 unfold jl at*
 by_cases h1:leads l h t
 ·rw[AC h1];exact h1
 rw[Do h1]at is ⊢
 by_cases h2:h.2.2<l.2.2
 ·rw[AC h2]
  obtain⟨_,m1,m2,m3⟩:=EZ hh hl (show h.2.2≠l.2.2 by omega);refine .inr ⟨?_,.inl h2⟩;show LC l h (met h l)=0;rw[Bv];have e1:(l.2.1-h.2.1)*(met h l).2= -((h.2.1-l.2.1)*(met h l).2):=by rw[<-Int.neg_mul];congr 1;omega
  rw[e1,<-m3,Int.mul_comm (l.2.2-h.2.2)];omega
 rw[Do h2]at is;cases is
end
theorem K4{c:aH}{l:List Int}(h:aaS c l)(h10:(aeX l)<=12){k:Nat}(hr:eR c 100 k)(hk:k+11<=999999){to:Int×Int}(rt:bo to)(dX:jb to)(le: ¬gY to c.ci<0)(io:E4 c to):
 ∃x c2 l2 k2,nJ ⟨c,l⟩ to=af7 (⟨c2,l2⟩,x,0)/\aaS c2 l2/\aeX l2=aeX l/\c2.ii=c.ii/\ ¬gY to c2.ci<0/\k2<=k+11/\eR c2 100 k2/\BT c.ii.am l2 c2.ci+1<=BT c.ii.am l c.ci:=by
 have ok:=h.ok;have pm:=h.pm;have ln:(aeX l)=(aeX c.ii.am):=by rw[<-pm.length_eq];exact PP ..
 obtain⟨i0,c',HX,num,r1,Eh,hf,hc,ge⟩:=KY ok io.1;have g:=ar c.ae.bv 0 io.1;rw[show((0:Nat):Int)=0 from rfl]at g;have hb:=ok.known i0 HX;obtain⟨d,hd,hn⟩:=ok.C0 _ (aE io.1);obtain⟨y,hy,y1,y2,y3⟩:=ok.AA.io d hd;have hye:=Up.inj ok.tB hy (aE HX) (by rw[<-y1,hn,num]);subst hye;have tm:Ev.at c.ae.bv[0]! =(bP c.ii.am (c.af.ce[i0]!).2 c.ci).1:=by
  obtain⟨w,hw,he⟩:=aN.1 y3;have hw0:w=0:=abB λhx=>by refine ok.nB.nd 0 w (by omega) hw ?_;rw[he,<-hn,y1]
  subst hw0;rw[he]
 obtain⟨x,hx⟩: ∃x,x=(c.af.ce[i0]!).2:=⟨_,rfl⟩;rw[<-hx]at r1 hb tm y2;have xe:=h.ct.mem_iff.1 (abt.2 ⟨_,aE HX,hx.symm⟩);obtain⟨a,ha,ea⟩:=aN.1 xe;rw[gU]at ha;rw[vQ l ha]at ea;have hi:a+1<(aeX l):=by omega
 have hj:a / 2<(aeX l):=by omega
 have pe:par (a+1)=a / 2:=by simp only[par];omega
 have nd:=pm.nodup_iff.1 (db ok.dI.2.2);obtain⟨i,i1,i2,i3⟩:=DR (by omega) (pm.mem_iff.1 (cz.2 hb.1));obtain⟨j,j1,j2,j3⟩:=DR (by omega) (pm.mem_iff.1 (cz.2 hb.2));have ei:i=a+1:=by
  have:l[i]! =l[a+1]!:=by rw[i2,<-ea]
  rcases UV i (a+1)with q|q|q
  ·exact absurd this (bJ.1 nd _ _ q hi)
  ·exact q
  exact absurd this.symm (bJ.1 nd _ _ q i1)
 have ej:j=a / 2:=by
  have:l[j]! =l[a / 2]!:=by rw[j2,<-ea]
  rcases UV j (a / 2)with q|q|q
  ·exact absurd this (bJ.1 nd _ _ q hj)
  ·exact q
  exact absurd this.symm (bJ.1 nd _ _ q j1)
 obtain⟨c1,GQ⟩: ∃c1,c1=Vw c' (Ev.at c.ae.bv[0]!):=⟨_,rfl⟩;have Eh:aT c1:=by rw[GQ];exact Eh
 have f1:kQ c to=af7 (c1,c.ae.bv[0]!,x,0):=by unfold kQ;rw[Gk ok rt dX le,aj,lZ rfl,v6,az io,abA,ww,bw rfl,ww,g,aj,r1,aj,bw rfl,ww,GQ]
 have hfc:c1.ii=c.ii:=by rw[GQ];exact hf
 have asF:c1.ci=Ev.at c.ae.bv[0]!:=by rw[GQ]
 have ru:c'.ae.ai.ay=c.ae.ai.ay:=by refine C8 ok HX (x:=x) ?_;rw[num];exact r1
 have N5:eR c1 100 k:=by
  rw[GQ];refine⟨?_,?_,?_⟩
  ·show(aeX c'.af.ce)<=100
   rw[hc];show(c.af.ce.eraseIdx i0).length<=100;rw[abP HX];have:=hr.l;omega
  ·show c'.af.aW<=_
   rw[hc];exact hr.n
  show∀j,j<aeX c'.ae.ai.ay->c'.ae.ai.ay[j]!<=_
  rw[ru];exact hr.u
 have pm':=pm.trans (kv i1 j1).symm;have sl:=(kv i1 j1).length_eq;have aV:=Eh.dI;have oL:=Bx aV (l:=fO l i j) (by rw[hfc];exact pm');have el:(dN (fO l i j)).length<=11:=by rw[gU];omega
 obtain⟨r,g1,k',g2,g3⟩:=K3 Eh oL (by omega) N5 (by omega);obtain⟨S,s1,s3⟩:=Gf Eh aV oL;have es:=adc (s1.symm.trans g1);rw[es]at s3;rcases s3 with⟨_,q⟩|q
 case inr=>cases q
 have ev:nJ ⟨c,l⟩ to=af7 (⟨r,fO l i j⟩,x,0):=by unfold nJ;rw[f1,aj,bw rfl,ww,cM (show(aeX l)<=1048576 by omega),aj,i3,aj,j3,aj,ar l j j1,aj,ar l i i1,aj,aj];rw[fI,ar _ j (by rw[abw];exact j1),aj,fI];show(oU (fO l i j)).bind _=_;rw[Gg _ (by omega),aj];show(gX c1 c1.ii (dN (fO l i j))).bind _=_;rw[g1,aj];rfl
 have ndE:=pm'.nodup_iff.1 (db ok.dI.2.2);have ct':(r.af.ce.map λx=>x.2).Perm (dN (fO l i j)):=y5 (ma q.ok.wF) (vR ndE) (λz hz=>by obtain⟨y,hy,rfl⟩:=abt.1 hz;exact q.sub y hy) (λz hz=>dW.1 (q.has z hz));have rf:r.ii=c.ii:=by have:=q.dI;rw[hfc]at this;cases h1:r.ii;cases h2:c.ii;rw[h1,h2]at this;simpa using this
 have rn:=q.ci.trans asF;have hpt:=bK ok.dI hb.2;have ahr:=bK ok.dI hb.1;have ah:leads (bC c.ii.am l[a+1]!) (bC c.ii.am l[par (a+1)]!) r.ci:=by rw[rn,tm,pe];have:=It hpt.1 ahr.1 y2;rw[<-ea]at this ⊢;exact this
 have t2:=q.ok.gZ;have th1:=T5 ok.dI.2.2 pm (by omega) hi ah;have th2:=T4 ok.dI.2.2 ln ok.gZ.1 t2.1 (by rw[rn];exact ge);refine⟨x,r,fO l i j,k',ev,⟨q.ok,by rw[rf];exact pm',ct'⟩,sl,rf,λhx=>?_,by omega,⟨?_,g3.n,g3.u⟩,?_⟩
 ·have h2:=io.2
  rw[rn,oH]at hx;have: ¬0<gY (Ev.at c.ae.bv[0]!) to:=by omega
  unfold gY at this;rcases dU ((Ev.at c.ae.bv[0]!).1*to.2) (to.1*(Ev.at c.ae.bv[0]!).2)with⟨a,b⟩|⟨a,b⟩|⟨a,b⟩<;>omega
 ·have:=ct'.length_eq
  rw[PP]at this;omega
 grind
theorem aaV{to:Int×Int}(rt:bo to)(dX:jb to): ∀(d:Nat) (c:aH) (l:List Int) (out:List _) (k:Nat),BT c.ii.am l c.ci<=d->aaS c l->aeX l<=12->eR c 100 k->k+11*(d+1)<=999999->aeX out+d<=1048000-> ¬gY to c.ci<0->
 ∃c2 l2 asI k2,adF to c l out=af7 (⟨Vw c2 to,l2⟩,asI,0)/\aaS c2 l2/\c2.ii=c.ii/\ ¬gY to c2.ci<0/\ ¬E4 c2 to/\eR c2 100 k2/\k2<=k+11*d:=by
 intro d
 induction d with
 |zero=>
  intro c l out k ht h h10 hr hk ho le
  by_cases io:E4 c to
  ·grind[K4]
  exact⟨c,l,out,k,step_end h.ok (by omega) rt dX le io out,h,rfl,le,io,hr,by omega⟩
 |succ d ih=>
  intro c l out k ht h h10 hr hk ho le
  by_cases io:E4 c to
  ·obtain⟨x,c2,l2,k2,e1,h2,h3,h4,h5,h6,h7,h8⟩:=K4 h h10 hr (by omega) rt dX le io
   rw[adG e1 (by omega)];obtain⟨c3,l3,ayx,k3,a1,a2,a3,a4,a5,a6,a7⟩:=ih c2 l2 (out++[x]) k2 (by rw[h4];omega) h2 (by omega) h7 (by omega) (by rw[ab0,EQ];omega) h5
   grind
  exact⟨c,l,out,k,step_end h.ok (by omega) rt dX le io out,h,rfl,le,io,hr,by omega⟩
section
variable {f : List Pt}
theorem ahs(hs:eu f){t t':Int×Int}(d:1<=t.2)(d':1<=t'.2)(le:t.1*t'.2<=t'.1*t.2){p q:Nat}(hp:p<aeX f)(hq:q<aeX f)(h:(f[q]!).2.2<(f[p]!).2.2)(h': ¬leads f[p]! f[q]! t'): ¬leads f[p]! f[q]! t:=λh1=>by
 have ne:(f[p]!).1≠(f[q]!).1:=λe=>by have:=gT hs hp hq e;subst this;omega
 have:=O3 d d' le (eN h1) (fJ t' ne h');omega
theorem aaW(hs:eu f){t t':Int×Int}(d:1<=t.2)(d':1<=t'.2)(le:t.1*t'.2<=t'.1*t.2){p q:Nat}(hp:p<aeX f)(hq:q<aeX f)(h: ¬leads f[p]! f[q]! t)(h':leads f[p]! f[q]! t'):R9 f t'+1<=R9 f t:=by
 have fa:=O3 d d' le h h';have one: ∀i j,i<aeX f->j<aeX f->(if(f[j]!).2.2<(f[i]!).2.2/\ ¬leads f[i]! f[j]! t' then 1 else 0)<=(if(f[j]!).2.2<(f[i]!).2.2/\ ¬leads f[i]! f[j]! t then 1 else 0):=λi j hi hj=>by
  by_cases g:(f[j]!).2.2<(f[i]!).2.2/\ ¬leads f[i]! f[j]! t'
  ·rw[AC g,AC ⟨g.1,ahs hs d d' le hi hj g.1 g.2⟩];exact IR _
  rw[Do g];exact abq _
 refine O1 (λi hi=>Gn λj hj=>one i j hi hj) hp (O1 (λj hj=>one p j hp hj) hq ?_);rw[Do (λg=>g.2 h'),AC ⟨fa,h⟩];exact IR _
theorem T6{t:Int×Int}(h:(aeX f)<=12):R9 f t<=144:=by
 have h1:R9 f t<=aeX f*(aeX f):=DU λi _=>by refine abr (DU (m:=1) λj _=>?_) (by omega);split<;>omega
 have:=adw h h;omega
end
theorem xq{c:aH}(ok:aT c)(ld: ∀x∈c.af.ce,leads (bC c.ii.am x.2.2) (bC c.ii.am x.2.1) c.ci){k:Nat}(hr:eR c 100 k){to:Int×Int}(rt:bo to)(dX:jb to)(le: ¬gY to c.ci<0)(io:E4 c to):
 ∃x c1,kQ c to=af7 (c1,c.ae.bv[0]!,x,0)/\aT c1/\c1.ii=c.ii/\c1.ci=Ev.at c.ae.bv[0]!/\eR c1 100 k/\R9 c.ii.am c1.ci+1<=R9 c.ii.am c.ci:=by
 obtain⟨i0,c',HX,num,r1,Eh,hf,hc,ge⟩:=KY ok io.1;have g:=ar c.ae.bv 0 io.1;rw[show((0:Nat):Int)=0 from rfl]at g;have hb:=ok.known i0 HX;obtain⟨d,hd,hn⟩:=ok.C0 _ (aE io.1);obtain⟨y,hy,y1,y2,y3⟩:=ok.AA.io d hd;have hye:y=c.af.ce[i0]!:=Up.inj ok.tB hy (aE HX) (by rw[<-y1,hn,num]);subst hye;have tm:Ev.at c.ae.bv[0]! =(bP c.ii.am (c.af.ce[i0]!).2 c.ci).1:=by
  obtain⟨w,hw,he⟩:=aN.1 y3;have hw0:w=0:=abB λhx=>by refine ok.nB.nd 0 w (by omega) hw ?_;rw[he,<-hn,y1]
  subst hw0;rw[he]
 have l0:=ld _ (aE HX);obtain⟨x,hx⟩: ∃x,x=(c.af.ce[i0]!).2:=⟨_,rfl⟩;rw[<-hx]at r1 hb tm y2 l0;have ru:c'.ae.ai.ay=c.ae.ai.ay:=by refine C8 ok HX (c':=c') (x:=x) ?_;rw[num];exact r1
 have hpt:=bK ok.dI hb.2;have ahr:=bK ok.dI hb.1;have ah:leads (bC c.ii.am x.1) (bC c.ii.am x.2) (Ev.at c.ae.bv[0]!):=by rw[tm];exact It hpt.1 ahr.1 (t:=c.ci) y2
 refine⟨x,Vw c' (Ev.at c.ae.bv[0]!),?_,Eh,hf,rfl,⟨?_,?_,?_⟩,?_⟩
 ·unfold kQ
  rw[Gk ok rt dX le,aj,lZ rfl,v6,az io,abA,ww,bw rfl,ww,g,aj,r1,aj,bw rfl,ww]
 ·show(aeX c'.af.ce)<=100
  rw[hc];show(c.af.ce.eraseIdx i0).length<=100;rw[abP HX];have:=hr.l;omega
 ·show c'.af.aW<=_
  rw[hc];exact hr.n
 ·show∀j,j<aeX c'.ae.ai.ay->c'.ae.ai.ay[j]!<=_
  rw[ru];exact hr.u
 obtain⟨p,hp,ep⟩:=aN.1 (vv ok.dI.2.2 hb.1).1
 obtain⟨q,hq,eq⟩:=aN.1 (vv ok.dI.2.2 hb.2).1;refine aaW ok.dI.2.2 ok.gZ.1 (Eh.gZ.1:1<=(Ev.at c.ae.bv[0]!).2) ge hp hq ?_ ?_
 ·rw[ep,eq];exact eN l0
 rw[ep,eq];exact ah
theorem Rt{c:aH}(ok:aT c){f:List Pt}(aV:aR f){es:List (Int×Int)}(oL:mM f es)(TW:(aeX es)<=90){k:Nat}(hr:eR c 100 k)(hk:k+100+aeX es<=999999):
 ∃r:aH,gX c ⟨f⟩ es=af7 (r,0)/\ ∃k',k'<=k+100+aeX es/\eR r 190 k':=by
 have bd:=ok.bd;have f1:=aV.1;obtain⟨c',g1,g2,g3,g4,g5,_⟩:=Vx (f:=f) ok oL (k:=k) (aeX c.af.ce) 0 c (by omega) (by omega) ok (λx hx=>by rwa [acI]at hx) (λx hx=> .inl (by rwa [acI])) (.inr hr) rfl rfl hr;have bd':=g2.bd;have e1:afe (((aeX c.af.ce):Int)<((aeX c.af.ce):Int))=afd:=aA (by omega);have B5:(aH.mk (c'.ci.1,c'.ci.2) (Field.mk c'.ii.am) (cm.mk c'.af.aW c'.af.ce) (aS.mk (bF.mk c'.ae.ai.ay c'.ae.ai.be c'.ae.ai.bi) c'.ae.bv c'.ae.aC) c'.io)=c':=rfl;have TQ:gX c ⟨f⟩ es=aq bL (kP c f es 0 c):=rfl;have eq1:=tD c'.ii.am f (by omega);rw[TQ,g1]
 by_cases hf:c'.ii.am=f
 ·obtain⟨r,q1,k',q2,q3⟩:=OZ (f:=f) oL TW (aeX es) 0 c' k (by omega) (by omega) g2 hf g5 (by omega)
  refine⟨r,au ?_,k',by omega,q3⟩;unfold bL kP;simp only[e1,ww,eq1,az hf,aj,abA];exact q1
 have kn: ∀i,i<aeX c'.af.ce->kr f (c'.af.ce[i]!).2:=λi hi=>oL.kn _ (g3 _ (aE hi))
 have hl:=g5.l;rcases aeW g2 aV kn with⟨_,a2⟩|⟨c2,a1,a3,a4,a5,a6,a7⟩
 ·have:=a2 k g5.u (by omega);omega
 obtain⟨r,q1,k',q2,q3⟩:=OZ (f:=f) oL TW (aeX es) 0 c2 (k+100) (by omega) (by omega) a3 a4 ⟨by rw[a6];exact hl,by rw[a6];have:=g5.n;omega,λj hj=>by have:=a7 k g5.u j hj;omega⟩ (by omega)
 refine⟨r,au ?_,k',by omega,q3⟩;unfold bL kP;simp only[e1,ww,eq1,aA hf,aj,acF,v6,B5,a1,show((0:Int) !=0)=afd from rfl];exact q1
theorem uK{c:aH}(ok:aT c){f:List Pt}(aV:aR f){es:List (Int×Int)}(oL:mM f es)(nd:es.Nodup)(TW:(aeX es)<=90){k:Nat}(hr:eR c 100 k)(hk:k+100+aeX es<=999999):
 ∃r:aH,gq c ⟨f⟩ es=af7 (r,0)/\yY c f es r/\(r.af.ce.map λx=>x.2).Perm es/\ ∃k',k'<=k+190/\eR r 100 k':=by
 obtain⟨r,r1,k',r2,r3⟩:=Rt ok aV oL TW hr hk;obtain⟨S,s1,s2⟩:=Gf ok aV oL;obtain⟨T,t1,t2⟩:=Xh ok aV oL nd (by omega);rw[r1]at s1;injection s1 with s1;have ee:mb f es=0:=by unfold mb;rw[Do (WF.2 oL.cv),Do (WF.2 nd),Do (λh=>h oL.kn)]
 have rn:=yb ok aV (show(aeX es)<=1000 by omega) (λ_=>r1);rw[AC ee]at rn;subst s1;rcases s2 with⟨_,q⟩|q
 ·have pm:=y5 (ma q.ok.wF) nd (λx hx=>by obtain⟨y,hy,rfl⟩:=abt.1 hx;exact q.sub y hy) (λx hx=>dW.1 (q.has x hx))
  refine⟨r,rn,q,pm,k',by omega,⟨?_,r3.n,r3.u⟩⟩;have e:(aeX r.af.ce)=(aeX es):=(PP ..).symm.trans pm.length_eq;omega
 cases q
section
variable {α : Type} [Inhabited α] {P : α -> α -> Prop} {S : α -> Prop}
end
section
variable {f : List Pt} {t : Int × Int}
end
theorem O4{h l:Pt}{t t':Int×Int}(hh:fM h)(hl:fM l)(r:bo t)(r':bo t')(le:t.1*t'.2<=t'.1*t.2)(nf:(jl h l t).2=afb->t'.1*(jl h l t).1.2<(jl h l t).1.1*t'.2): ¬leads l h t':=by
 unfold jl at nf
 by_cases h1:leads l h t
 ·grind
 rw[Do h1]at nf
 by_cases h2:h.2.2<l.2.2
 ·rw[AC h2]at nf
  obtain⟨_,m1,m2,m3⟩:=EZ hh hl (show h.2.2≠l.2.2 by omega);have up:=nf rfl;dsimp only at up;intro h3;have g:0<=LC l h t':=by rcases h3 with k|k<;>omega
  rw[Bv]at g;generalize met h l=m at*;have d:=m1.1;have hB:0<l.2.2-h.2.2:=by omega
  generalize l.2.2-h.2.2=B at*;generalize hA:h.2.1-l.2.1=A at*;have g2:A*t'.2<=B*t'.1:=by
   have:(l.2.1-h.2.1)*t'.2= -(A*t'.2):=by grind
   omega
  have g3:m.1*t'.2*B<=t'.1*m.2*B:=by
   have e1:m.1*t'.2*B=A*t'.2*m.2:=by grind
   have e2:t'.1*m.2*B=B*t'.1*m.2:=by grind
   rw[e1,e2];exact Int.mul_le_mul_of_nonneg_right g2 (by omega)
  have g4:=Int.le_of_mul_le_mul_right g3 hB;omega
 exact C4 r.1 r'.1 le h2 h1
theorem T7{c:aH}(ok:aT c){N:List Nd}{r:Int}(tr:hZ c.ii.am c.ci N r)(ct: ∀e∈cE N (aeX c.ii.am),qy c.af.ce e){to:Int×Int}(rt:bo to)(le: ¬gY to c.ci<0)(io: ¬E4 c to):hZ c.ii.am to N r:=by
 have ln:=tr.len;refine⟨tr.len,tr.ids,tr.lw.other (xh ok.dI.2.2 to) (IR _) λk j _ hk _ hj hb=>?_⟩;have hbl:Below N j k:=hb;have hp:=tr.par hj;have hr:(j:Int)≠r:=λq=>by
  grind
 obtain⟨p1,p2,p3,_⟩:=hp.2.1 hr;have ek:=hp.2.2 k (by omega) hbl;have mem:=BB.2 ⟨j,hj,p1,by rw[<-ek,tr.ids j hj,tr.ids k hk]⟩;obtain⟨w,w1,w2⟩:=ct _ mem;have LS:=ok.dI.2.1 _ (aE hk);have hj':=ok.dI.2.1 _ (aE hj);have wn:bP c.ii.am (c.af.ce[w]!).2 c.ci=jl c.ii.am[k]! c.ii.am[j]! c.ci:=by unfold bP;rw[w2,iO ok.dI.2.2 hk rfl,iO ok.dI.2.2 hj rfl]
 have nl: ¬leads c.ii.am[j]! c.ii.am[k]! to:=by
  refine O4 LS hj' ok.gZ rt (by rw[oH]at le;omega) λis=>?_
  rw[<-wn]at is;obtain⟨d,hd,_,ev⟩:=ok.AA.has _ (aE w1) is;obtain⟨v,hv,he⟩:=aN.1 ev;have tl:=Aj ok.nB v hv;have h0:0<(aeX c.ae.bv):=by omega
  have e0:=(ok.nB.ev 0 h0).1.1;have ev':=(ok.nB.ev v hv).1.1;rw[he]at tl ev';rw[<-wn];have n1:=λq=>tl (.inl q)
  rw[oH]at n1;have n2: ¬gY (Ev.at c.ae.bv[0]!) to<=0:=λq=>io ⟨h0,q⟩
  have n3:to.1*(Ev.at c.ae.bv[0]!).2<(Ev.at c.ae.bv[0]!).1*to.2:=by unfold gY at n2;rcases dU ((Ev.at c.ae.bv[0]!).1*to.2) (to.1*(Ev.at c.ae.bv[0]!).2)with⟨a,b⟩|⟨a,b⟩|⟨a,b⟩<;>omega
  exact qx rt.1 e0 ev' n3 (aeE.1 n1)
 exact fJ to (λe=>p3 (by rw[<-ek];exact gT ok.dI.2.2 hk hj e.symm)) nl
def hP(c:aH)(r:Int)(N:List Nd)(to:Int×Int)(out:List (Int×Int)):=
 (c.ci.1,c.ci.2,c.ii.am,c.af.aW,c.af.ce,c.ae.ai.ay,c.ae.ai.be,c.ae.ai.bi,c.ae.bv,c.ae.aC,c.io,r,N,to.1,to.2,(0:Int),(0:Int),(0:Int),(0:Int),out)
noncomputable def O5(f:List Pt)(t:Int×Int)(k:Nat):Nat->Nat
 |0=>0
 |j+1=>O5 f t k j+(if j≠k/\DS f t j k then 1 else 0)
theorem HA(f:List Pt)(t:Int×Int)(k:Nat): ∀j,O5 f t k j<=j/\(k<j->O5 f t k j+1<=j)
 |0=>⟨IR _,λh=>by omega⟩
 |j+1=>by
  obtain⟨h1,h2⟩:=HA f t k j;rw[O5]
  grind
theorem Xm{f:List Pt}(aV:aR f){t:Int×Int}(dX:jb t){k:Nat}(hk:k<aeX f):w9 ⟨f⟩ f[k]! t=af7 (O5 f t k (aeX f):Int):=by
 have f1:=aV.1;have key:=bz (body:=ob) (λj=>((O5 f t k j:Int),(j:Int),f,(f[k]!).1,(f[k]!).2.1,(f[k]!).2.2,t)) (aeX f) (λj hj=>by
  have g:=ar f j hj;have le:=(HA f t k j).1;have ld:=CU (aV.2.1 _ (aE hj)) (aV.2.1 _ (aE hk)) dX;unfold ob;rw[O5]
  by_cases q:j=k
  ·subst q
   simp only[aK,az (show(j:Int)<((aeX f):Int) by omega),v6,g,aj,bw rfl,ww,aM (show j<1000000000 by omega),Do (show¬(j≠j/\DS f t j j)from λw=>w.1 rfl),aeR]
  have ne:=λh=>q (gT aV.2.2 hj hk h)
  by_cases c:DS f t j k
  ·rw[show afe (leads f[j]! f[k]! t)=afb from az c]at ld
   simp only[aK,az (show(j:Int)<((aeX f):Int) by omega),v6,g,aj,dV ne,ld,aM (show j<1000000000 by omega),aM (show O5 f t k j<1000000000 by omega),AC (show j≠k/\DS f t j k from⟨q,c⟩)]
  rw[show afe (leads f[j]! f[k]! t)=afd from aA c]at ld
  simp only[aK,az (show(j:Int)<((aeX f):Int) by omega),v6,g,aj,dV ne,ld,ww,aM (show j<1000000000 by omega),Do (show¬(j≠k/\DS f t j k)from λw=>c w.2),aeR])
 unfold w9;rw[show aq ob (0,0,f,(f[k]!).1,(f[k]!).2.1,(f[k]!).2.2,t)=_ from key];refine au ?_;unfold ob;simp
noncomputable def Gq(f:List Pt)(t:Int×Int):Nat->List Int
 |0=>If (aeX f) 0
 |i+1=>(Gq f t i).set (O5 f t i (aeX f)) (f[i]!).1
theorem vT(f:List Pt)(t:Int×Int): ∀i,(Gq f t i).length=aeX f
 |0=>aaQ ..
 |i+1=>by rw[Gq,abw,vT f t i]
theorem T8{f:List Pt}(aV:aR f){t:Int×Int}(dX:jb t):vg ⟨f⟩ t=af7 (Gq f t (aeX f)):=by
 have f1:=aV.1;have mk:oE ((aeX f):Int) (0:Int)=af7 (If (aeX f) 0):=by unfold oE;rw[AC ⟨by omega,by omega⟩,abu]
 have key:=bz (body:=nm) (λi=>((i:Int),f,t.1,t.2,Gq f t i)) (aeX f) (λi hi=>by have g:=ar f i hi;have le:=(HA f t i (aeX f)).2 hi;have go:=ar (Gq f t i) (O5 f t i (aeX f)) (by rw[vT];omega);unfold nm;simp only[aK,az (show(i:Int)<((aeX f):Int) by omega),g,aj,Xm aV dX hi,go,aM (show i<1000000000 by omega)];rfl);unfold vg;simp[aK,beq_self_eq_true,mk,aj];rw[show aq nm (0,f,t.1,t.2,If (aeX f) 0)=_ from key];refine au ?_;unfold nm;simp
noncomputable def jT(P:Int->Int->Prop):List Int->Int
 | []=>0
 |x::r=>r.foldl (λt y=>if P y t then y else t) x
noncomputable def mB(bit:Int->Nat->Nat)(l:List Int)(top:Int)(d b:Nat):List Int:=l.filter λx=>decide (x≠top/\bit x d=b)
noncomputable def kY(P:Int->Int->Prop)(bit:Int->Nat->Nat):Nat->List Int->Int->Nat->List (Int×Int)
 |0,_,_,_=>[]
 |_+1,[],_,_=>[]
 |n+1,x::r,u,d=>(jT P (x::r),u)::(kY P bit n (mB bit (x::r) (jT P (x::r)) d 0) (jT P (x::r)) (d+1)++kY P bit n (mB bit (x::r) (jT P (x::r)) d 1) (jT P (x::r)) (d+1))
section
variable {P : Int -> Int -> Prop} {S : Int -> Prop} {bit : Int -> Nat -> Nat}
theorem K5 (o : SO P S) : ∀ (r : List Int) (x : Int), S x -> (∀ y ∈ r, S y) -> (r.foldl (fun t y => if P y t then y else t) x = x \/ r.foldl (fun t y => if P y t then y else t) x ∈ r) /\
    ¬ P x (r.foldl (fun t y => if P y t then y else t) x) /\ ∀ y ∈ r, ¬ P y (r.foldl (fun t y => if P y t then y else t) x)
  | [], x, hx, _ => ⟨.inl rfl, o.X0 x hx, fun y h => by cases h⟩
  | z :: r, x, hx, hr => by
    rw [aei]
    have hz := hr z aaP
    have Yh := fun y hy => hr y (NE _ hy)
    by_cases c : P z x
    · rw [AC c]
      obtain ⟨a1, a2, a3⟩ := K5 o r z hz Yh
      have hT : S (r.foldl (fun t y => if P y t then y else t) z) := by
        rcases a1 with e | e
        · rw [e]; exact hz
        exact Yh _ e
      refine ⟨.inr (by rcases a1 with e | e; · rw [e]; exact aaP
                       exact NE _ e), ?_, fun y hy => ?_⟩
      · exact o.ntr hx hz hT (o.asym hz hx c) a2
      grind
    rw [Do c]
    obtain ⟨a1, a2, a3⟩ := K5 o r x hx Yh
    have hT : S (r.foldl (fun t y => if P y t then y else t) x) := by
      grind
    refine ⟨a1.imp id (NE _), a2, fun y hy => ?_⟩
    rcases abz.1 hy with rfl | hy
    · exact o.ntr hz hx hT c a2
    exact a3 y hy
theorem ou(o:SO P S){l:List Int}(h0:l≠[])(hS: ∀x∈l,S x):jT P l∈l/\ ∀y∈l,¬P y (jT P l):=by
 cases l with
 |nil=>grind
 |cons x r=>
  obtain⟨a1,a2,a3⟩:=K5 o r x (hS x aaP) (λy hy=>hS y (NE _ hy));refine⟨?_,λy hy=>?_⟩
  ·rcases a1 with e|e
   ·show r.foldl _ x∈_;grind
   exact NE _ e
  rcases abz.1 hy with rfl|hy
  ·exact a2
  exact a3 y hy
theorem K6(o:SO P S){l:List Int}(hS: ∀x∈l,S x){a:Int}(ha:a∈l)(h: ∀y∈l,¬P y a):jT P l=a:=by
 obtain⟨b1,b2⟩:=ou o (ae6 ha) hS;rcases aeQ _ with e|e
 ·exact e
 rcases o.Xd _ _ (hS _ b1) (hS _ ha) e with k|k
 ·exact absurd k (h _ b1)
 grind
theorem Xn(o:SO P S){l l':List Int}(hS: ∀x∈l,S x)(p:l.Perm l'):jT P l=jT P l':=by
 by_cases h0:l=[]
 ·subst h0;rw[List.nil_perm.1 p]
 grind[ou,K6]
theorem gA{l:List Int}{top:Int}{d b:Nat}{x:Int}:x∈mB bit l top d b↔x∈l/\x≠top/\bit x d=b:=by unfold mB;simp
theorem uL{l:List Int}{top:Int}(h:top∈l)(d b:Nat):(mB bit l top d b).length<(aeX l):=by refine List.length_filter_lt_length_iff_exists.2 ⟨top,h,?_⟩;simp
theorem pH{l:List Int}(h:l.Nodup)(top:Int)(d b:Nat):(mB bit l top d b).Nodup:=h.filter _
theorem E5(o:SO P S): ∀(n:Nat) (l l':List Int) (u:Int) (d:Nat),(∀x∈l,S x)->l.Perm l'->kY P bit n l u d=kY P bit n l' u d
 |0,_,_,_,_,_,_=>by rfl
 |n+1,[],l',u,d,_,p=>by simp_all
 |n+1,x::r,[],u,d,_,p=>by simp_all
 |n+1,x::r,y::q,u,d,hS,p=>by
  have e:=Xn o hS p;simp only[kY];rw[<-e];have sp: ∀b,(mB bit _ _ d b).Perm (mB bit (y::q) (jT P (x::r)) d b):=λb=>p.filter _
  rw[E5 o n _ _ _ _ (λz hz=>hS z (gA.1 hz).1) (sp 0),E5 o n _ _ _ _ (λz hz=>hS z (gA.1 hz).1) (sp 1)]
theorem K7{α:Type}[BEq α][LawfulBEq α]: ∀{a b:List α},a.Nodup->(∀x∈a,x∈b)->aeX a<=aeX b
 | [],_,_,_=>abq _
 |x::a,b,hd,h=>by
  rw[abx]at hd;have:=K7 (b:=b.erase x) hd.2 (λy hy=>by rw[adu (λe=>hd.1 (by rw[<-e];exact hy))];exact h y (NE _ hy))
  grind
theorem yd(o:SO P S)(hb: ∀x d,bit x d<2): ∀(n:Nat) (l:List Int) (u:Int) (d:Nat),(∀x∈l,S x)->l.Nodup->aeX l<=n->((kY P bit n l u d).map λe=>e.1).Perm l/\ ∀e∈kY P bit n l u d,e.2=u\/(e.2∈l/\P e.2 e.1)
 |0,l,u,d,_,_,h=>by have:l=[]:=ad4.1 (by omega);subst this;exact⟨acG _,λe he=>by cases he⟩
 |n+1,[],u,d,_,_,_=>⟨acG _,λe he=>by cases he⟩
 |n+1,x::r,u,d,hS,nd,h=>by
  obtain⟨t1,t2⟩:=ou o (ac3 x r) hS;have ih:=λb=>yd o hb n (mB bit (x::r) (jT P (x::r)) d b) (jT P (x::r)) (d+1) (λz hz=>hS z (gA.1 hz).1) (pH nd _ d b) (by have:=uL (bit:=bit) t1 d b;omega)
  have pb: ∀b,∀e∈kY P bit n _ _ _,e.2∈x::r/\P e.2 e.1:=λb e he=>by
   have k:=(ih b).1.mem_iff.1 (abt.2 ⟨e,he,rfl⟩);rcases(ih b).2 e he with q|⟨q1,q2⟩
   ·rw[q]
    refine⟨t1,?_⟩;obtain⟨k1,k2,_⟩:=gA.1 k;rcases o.Xd _ _ (hS _ t1) (hS _ k1) (λe=>k2 e.symm)with w|w
    ·exact w
    grind
   exact⟨(gA.1 q1).1,q2⟩
  refine⟨?_,λe he=>?_⟩
  ·simp[kY,]
   refine(aer _ ((ih 0).1.append (ih 1).1)).trans ?_;refine gd (abx.2 ⟨λhm=>?_,ad3.2 ⟨pH nd _ d 0,pH nd _ d 1,λa ha b HP e=>?_⟩⟩) (λy hy=>?_) ?_
   ·grind
   ·have w1:=(gA.1 ha).2.2
    have w2:=(gA.1 HP).2.2
    grind
   ·rcases abz.1 hy with rfl|hy
    ·exact t1
    rcases abv.1 hy with hy|hy<;>exact(gA.1 hy).1
   have sub:(x::r).length<=(jT P (x::r)::(mB bit _ _ d 0++mB bit _ _ d 1)).length:=K7 nd λy hy=>by
    by_cases c:y=jT P (x::r)
    ·grind
    refine NE _ (abv.2 ?_)
    have:=hb y d
    by_cases z:bit y d=0
    ·exact .inl (gA.2 ⟨hy,c,z⟩)
    exact .inr (gA.2 ⟨hy,c,by omega⟩)
   exact sub
  simp[kY]at he
  grind
theorem Iu{Q : Int -> Int -> Prop}(o : SO P S)(q : SO Q S)(hb : ∀ x d, bit x d < 2) : ∀ (n : Nat) (l : List Int) (u : Int) (d : Nat), (∀ x ∈ l, S x) -> l.Nodup -> (aeX l) <= n ->
    (∀ e ∈ kY P bit n l u d, e.2 = u \/ Q e.2 e.1) -> u ∉ l -> kY Q bit n l u d = kY P bit n l u d /\ ∀ y ∈ l, y = jT P l \/ Q (jT P l) y
  | 0, l, u, d, _, _, h, _, _ => by
    have : l = [] := ad4.1 (by omega)
    subst this
    exact⟨by rfl, λy hy => by cases hy⟩
  | n + 1, [], u, d, _, _, _, _, _ => ⟨by rfl, λy hy => by cases hy⟩
  | n + 1, x :: r, u, d, hS, nd, h, hQ, hu => by
    obtain⟨t1, t2⟩ := ou o (ac3 x r) hS
    have ne : ∀ b, ∀ e ∈ kY P bit n _ _ _, e.2 ≠ u := λb e he w => by
      obtain⟨_, k2⟩ := yd o hb n (mB bit (x :: r) (jT P (x :: r)) d b) _ (d + 1) (λz hz => hS z (gA.1 hz).1) (pH nd _ d b) (by have := uL (bit := bit) t1 d b; omega)
      rcases k2 e he with k | ⟨k, _⟩
      ·exact hu (by rw[<-w, k]; exact t1)
      exact hu (by rw[<-w]; exact(gA.1 k).1)
    have ih : ∀ b, b = 0 \/ b = 1 -> _ := λb Sn => Iu o q hb n (mB bit (x :: r) (jT P (x :: r)) d b) _ _ (λz hz => hS z (gA.1 hz).1) (pH nd _ d b) (by have := uL (bit := bit) t1 d b; omega)
      (λe he => by
        have := hQ e (NE _ (abv.2 (by rcases Sn with rfl | rfl; exact .inl he; exact .inr he)))
        exact .inr (this.resolve_left (ne b e he))) (λhm => (gA.1 hm).2.1 rfl)
    have ahead : ∀ y ∈ x :: r, y = jT P _ \/ Q _ y := λy hy => by
      by_cases c : y = jT P (x :: r)
      ·exact .inl c
      right
      have hbd := hb y d
      have Sn : bit y d = 0 \/ bit y d = 1 := by omega
      have ym : y ∈ mB bit _ _ d _ := gA.2 ⟨hy, c, rfl⟩
      have sm : ∀ z ∈ mB bit _ (jT P (x :: r)) d (bit y d), S z := λz hz => hS z (gA.1 hz).1
      have st := (ou o (ae6 ym) sm).1
      have alI : Q (jT P (x :: r)) (jT P (mB bit (x :: r) (jT P (x :: r)) d (bit y d))) := by
        have hm : (jT P (mB bit (x :: r) (jT P (x :: r)) d (bit y d)), jT P (x :: r)) ∈ kY P bit n (mB bit (x :: r) (jT P (x :: r)) d (bit y d)) (jT P (x :: r)) (d + 1) := by
          have hl := uL (bit := bit) t1 d (bit y d)
          generalize hs : mB bit _ _ d _ = s at *
          cases s with
          | nil => cases ym
          | cons a s =>
            cases n with
            | zero => simp at h hl; subst h; simp at hl
            | succ n => exact aaP
        have Fv : (jT P (mB bit (x :: r) (jT P (x :: r)) d (bit y d)), jT P (x :: r)) ∈ kY P bit n (mB bit (x :: r) (jT P (x :: r)) d 0) (jT P (x :: r)) (d + 1) ++ kY P bit n (mB bit (x :: r) (jT P (x :: r)) d 1) (jT P (x :: r)) (d + 1) := by
          refine abv.2 ?_
          rcases Sn with e | e
          ·rw[e]at hm ⊢; exact .inl hm
          rw[e]at hm ⊢; exact .inr hm
        have := hQ _ (NE _ Fv)
        exact this.resolve_left (λw => hu (by rw[<-w]; exact t1))
      rcases(ih _ Sn).2 y ym with e | e
      ·rw[e]; exact alI
      exact q.tr _ _ _ (hS _ t1) (sm _ st) (hS _ hy) alI e
    have te := K6 q hS t1 λy hy w => by
      rcases ahead y hy with e | e
      ·rw[e]at w; exact q.X0 _ (hS _ t1) w
      exact q.asym (hS _ t1) (hS _ hy) e w
    simp[kY]
    grind
end
theorem Gr{α:Type}(z:α): ∀(l:List _) (k:Int) (a:α) (j:Int),j8 z (mz l k a) j=if j=k then a else j8 z l j
 | [],k,a,j=>by simp only[mz,j8];simp
 |p::l,k,a,j=>by
  simp[mz]
  by_cases h:k=p.1
  ·rw[lZ h,v6]
   simp[j8]
   grind
  rw[jA h,ww]
  simp[j8];rw[Gr z l k a j]
  grind
def tK(m:List (Int×Int))(l:List (Int×Int)):List (Int×Int):=l.foldl (λm e=>mz m e.1 e.2) m
theorem Iv(m l l':List _):tK m (l++l')=tK (tK m l) l':=List.foldl_append ..
theorem Ru: ∀(l m:List _) (j:Int),(l.map λe=>e.1).Nodup->j8 0 (tK m l) j=if j∈l.map λe=>e.1 then j8 0 l j else j8 0 m j
 | [],m,j,_=>by rfl
 |e::l,m,j,nd=>by
  obtain⟨h1,h2⟩:=abx.1 (by simpa using nd:(e.1::l.map λe=>e.1).Nodup);show j8 0 (tK (mz m e.1 e.2) l) j=_;rw[Ru l _ j h2,Gr];simp[j8]
  grind
theorem C9: ∀{l:List _} {j v:Int},(l.map λe=>e.1).Nodup->(j,v)∈l->j8 0 l j=v
 |e::l,j,v,nd,h=>by
  obtain⟨h1,h2⟩:=abx.1 (by simpa using nd:(e.1::l.map λe=>e.1).Nodup);simp[j8];rcases abz.1 h with rfl|h
  ·simp
  have:j≠e.1:=λc=>h1 (by grind)
  rw[jA this,ww];exact C9 h2 h
def xi(x:Int)(d:Nat):Nat:=x.toNat / 2^(min d 64)%2
theorem DV(x:Int)(d:Nat):xi x d<2:=Nat.mod_lt _ (by omega)
noncomputable def tQ(f:List Pt)(t:Int×Int):List (Int×Int):=kY (iZ f t) xi (aeX f) (cq f) (-1) 0
noncomputable def rN(f:List Pt)(t:Int×Int):List Int:=f.map λp=>j8 0 (tQ f t) p.1
def gg(f:List Pt)(U:List Int):Nat->List (Int×Int)
 |0=>[]
 |i+1=>gg f U i++(if 0<=U[i]! then [((f[i]!).1,U[i]!)]else [])
section
variable {f : List Pt} {t : Int × Int}
theorem vU(aV:aR f):((tQ f t).map λe=>e.1).Perm (cq f)/\ ∀e∈tQ f t,e.2= -1\/(e.2∈cq f/\iZ f t e.2 e.1):=
 yd (nS aV.2.2 t) DV (aeX f) _ _ 0 (λx hx=>cz.1 hx) (db aV.2.2) (by unfold cq;simp)
theorem Gs(f:List Pt)(t:Int×Int):(rN f t).length=(aeX f):=PP ..
theorem K8{i:Nat}(hi:i<aeX f):(rN f t)[i]! =j8 0 (tQ f t) (f[i]!).1:=by
 unfold rN
 grind
theorem Vz(aV:aR f){i:Nat}(hi:i<aeX f):((f[i]!).1,(rN f t)[i]!)∈tQ f t:=by
 obtain⟨h1,_⟩:=vU (t:=t) aV;obtain⟨e,he,h2⟩:=abt.1 (h1.mem_iff.2 (cz.2 ⟨i,hi,rfl⟩));have nd:=h1.nodup_iff.2 (db aV.2.2)
 grind[K8,C9]
theorem aaX(aV:aR f){i:Nat}(hi:i<aeX f):(rN f t)[i]! = -1\/(0<=(rN f t)[i]!/\dY f (rN f t)[i]!/\(rN f t)[i]!≠(f[i]!).1/\leads (bC f (rN f t)[i]!) f[i]! t):=by
 rcases(vU aV).2 _ (Vz aV hi)with h|⟨h1,h2⟩
 ·exact .inl h
 have hp:=cz.1 h1
 have pk:=bK aV hp;have h2:leads _ _ t:=h2;rw[iO aV.2.2 hi rfl]at h2;refine .inr ⟨?_,hp,λe=>?_,h2⟩
 ·have:=pk.1.1
  rw[pk.2]at this;exact this
 grind[iO,eN]
theorem BE{U:List Int}: ∀{n:Nat} {e:Int×Int},e∈gg f U n↔ ∃i,i<n/\0<=U[i]!/\e=((f[i]!).1,U[i]!)
 |0,e=>by
  constructor
  ·intro h;cases h
  omega
 |n+1,e=>by
  rw[gg,abv,BE]
  grind
theorem pI(U:List Int): ∀n,(gg f U n).length<=n
 |0=>IR _
 |n+1=>by
  have:=pI U n;rw[gg,ab0]
  grind
theorem Gt(hs:eu f)(U:List Int): ∀n,n<=aeX f->(gg f U n).Nodup
 |0,_=>acm
 |n+1,h=>by
  refine ad3.2 ⟨Gt hs U n (by omega),by split<;>simp,λa ha b hb e=>?_⟩;obtain⟨i,h1,_,h3⟩:=BE.1 ha;split at hb
  ·have hb:=abE.1 hb
   rw[hb]at e;rw[h3]at e;have:(f[i]!).1=(f[n]!).1:=by injection e
   have:=fD hs h1 h;omega
  cases hb
theorem xt(aV:aR f):mM f (gg f (rN f t) (aeX f))/\(gg f (rN f t) (aeX f)).Nodup/\ ∀e∈gg f (rN f t) (aeX f),leads (bC f e.2) (bC f e.1) t:=by
 have f1:=aV.1;have el:=pI (f:=f) (rN f t) (aeX f);have key: ∀e∈gg f (rN f t) (aeX f),kr f e/\e.1≠e.2/\leads (bC f e.2) (bC f e.1) t:=λe he=>by
  obtain⟨i,hi,h0,rfl⟩:=BE.1 he;rcases aaX (t:=t) aV hi with h|⟨_,h2,h3,h4⟩
  ·omega
  exact⟨⟨⟨i,hi,rfl⟩,h2⟩,λe=>h3 e.symm,by rw[iO aV.2.2 hi rfl];exact h4⟩
 refine⟨⟨by omega,λe he=>?_,λe he=>(key e he).1⟩,Gt aV.2.2 _ _ (IR _),λe he=>(key e he).2.2⟩;obtain⟨hb,ne,_⟩:=key e he;obtain⟨⟨p1,p2⟩,q1,q2⟩:=ae0 (bK aV hb.1) (bK aV hb.2);unfold fM at p1 q1;unfold jB;omega
theorem Xo(aV:aR f){t':Int×Int}(h: ∀e∈gg f (rN f t) (aeX f),leads (bC f e.2) (bC f e.1) t'):rN f t'=rN f t:=by
 have so:=nS aV.2.2 t;have so':=nS aV.2.2 t';have hS: ∀x∈cq f,dY f x:=λx hx=>cz.1 hx
 have e:=(Iu so so' DV (aeX f) _ _ 0 hS (db aV.2.2) (by unfold cq;simp) (λe he=>by
  rcases(vU aV).2 e he with k|⟨k1,k2⟩
  ·exact .inl k
  ·right
   have hk:=(vU aV).1.mem_iff.1 (abt.2 ⟨e,he,rfl⟩);obtain⟨i,hi,ei⟩:=cz.1 hk;have nd:=(vU (t:=t) aV).1.nodup_iff.2 (db aV.2.2);have ui:(rN f t)[i]! =e.2:=by rw[K8 hi,ei];exact C9 nd he
   have p0:=bK aV (hS _ k1);have p1:=p0.1.1;rw[p0.2]at p1;have:=h _ (BE.2 ⟨i,hi,by rw[ui];exact p1,rfl⟩);rw[ui,ei]at this;exact this) (λhm=>by
  have p0:=bK aV (hS _ hm);have p1:=p0.1.1;rw[p0.2]at p1;exact absurd p1 (by decide))).1
 unfold rN;rw[show tQ f t'=tQ f t from e]
end
theorem aaY{x:Int}(h0:0<=x)(d:Nat):fQ .i64 x (d:Int)=((x.toNat / 2^(min d 64):Nat):Int):=by
 unfold fQ;rw[show(IntKind.bits .i64)=64 from rfl,abu,Int.fdiv_eq_ediv_of_nonneg _ (aea (Int.pow_pos (by decide)))]
 grind
theorem adK{n:Nat}(h:n<9223372036854775808):rJ .i64 (n:Int) 1=((n%2:Nat):Int):=by
 unfold rJ;have e:(BitVec.ofInt _ (n:Int)&&&BitVec.ofInt (IntKind.bits .i64) 1).toNat=n%2:=by
  rw[BitVec.toNat_and,BitVec.toNat_ofInt,BitVec.toNat_ofInt];rw[show(IntKind.bits .i64)=64 from rfl]
  grind
 rw[e];have c:n%2=0\/n%2=1:=by omega
 rcases c with c|c<;>rw[c]<;>rfl
theorem VA{x:Int}(h0:0<=x)(h1:x<=65535)(d:Nat):rJ .i64 (fQ .i64 x (d:Int)) 1=(xi x d:Int):=by
 rw[aaY h0,adK]
 ·rfl
 have:=aej x.toNat (2^(min d 64));omega
theorem adL{x:Int}(h0:0<=x)(d:Nat):Int.tmod (fQ .i64 x (d:Int)) 2=(xi x d:Int):=by rw[aaY h0];rfl
section
variable {f : List Pt} {t : Int × Int}
noncomputable def kZ(t:Int×Int)(r:List Pt)(x:Pt):Pt:=r.foldl (λa p=>if leads p a t then p else a) x
theorem Ja(aV:aR f): ∀(r:List Pt) (x:Pt),x∈f->(∀p∈r,p∈f)->(kZ t r x).1=(r.map λp=>p.1).foldl (λa y=>if iZ f t y a then y else a) x.1/\kZ t r x∈f
 | [],x,hx,_=>⟨rfl,hx⟩
 |p::r,x,hx,hr=>by
  have hp:=hr p aaP;have e:iZ f t p.1 x.1↔leads p x t:=by show leads _ _ t↔_;rw[tI aV.2.2 hp,tI aV.2.2 hx]
  show(kZ t r (if leads p x t then p else x)).1=_/\kZ t r (if leads p x t then p else x)∈f;rw[List.map_cons,aei]
  by_cases c:leads p x t
  ·rw[AC c,AC (e.2 c)];exact Ja aV r p hp λq hq=>hr q (NE _ hq)
  rw[Do c,Do (λk=>c (e.1 k))];exact Ja aV r x hx λq hq=>hr q (NE _ hq)
def gM(l:List Pt)(top:Int)(d b:Nat):List Pt:=l.filter λp=>decide (p.1≠top)&&afe (xi p.1 d=b)
theorem uM(l:List Pt)(top:Int)(d b:Nat):(gM l top d b).map (λp=>p.1)=mB xi (l.map λp=>p.1) top d b:=by
 unfold gM mB
 induction l with
 |nil=>rfl
 |cons p l ih=>
  grind
theorem Xp{l:List Pt}{top:Int}{d b:Nat}{p:Pt}(h:p∈gM l top d b):p∈l:=(aek.1 h).1
theorem Ar(l:List Pt)(top:Int)(d b:Nat):(gM l top d b).length<=(aeX l):=abV ..
theorem BF(l:List Pt)(p:Pt)(top:Int)(d b:Nat):gM (l++[p]) top d b=gM l top d b++(if p.1≠top/\xi p.1 d=b then [p]else []):=by
 unfold gM
 grind
theorem aaZ(aV:aR f)(r:bo t)(dX:jb t){p q:Pt}(hp:p∈f)(hq:q∈f)(fo:p.1≠q.1):df p q (t.1,t.2)=af7 (afe (leads p q t),0):=by
 rcases lC (aV.2.1 _ hp) (aV.2.1 _ hq) dX r with h|⟨h,_⟩
 ·rw[show((t.1,t.2):Int×Int)=t from rfl,h,Do fo]
 omega
theorem Rv{l:List Pt}{x:Pt}(i:Nat)(hi:i<aeX l):kZ t (l.take (i+1)) x=if leads l[i]! (kZ t (l.take i) x) t then l[i]! else kZ t (l.take i) x:=by rw[da hi];unfold kZ;simp
structure VB(f:List Pt)(l:List Pt):Prop where
 sub: ∀p∈l,p∈f
 nd:(l.map λp=>p.1).Nodup
 len:(aeX l)<=64
theorem VB.side{l:List Pt}(h:VB f l)(top:Int)(d b:Nat):VB f (gM l top d b) where
 sub:=λp hp=>h.sub p (Xp hp)
 nd:=by rw[uM];exact pH h.nd _ _ _
 len:=abr (Ar ..) h.len
theorem VB.bits(aV:aR f){l:List Pt}(h:VB f l){p:Pt}(hp:p∈l):0<=p.1/\p.1<=65535:=by have:=aV.2.1 p (h.sub p hp);unfold fM at this;omega
theorem VB.ne{l:List Pt}(h:VB f l){i j:Nat}(hi:i<aeX l)(hj:j<aeX l)(fo:i≠j):(l[i]!).1≠(l[j]!).1:=by
 have ll:(l.map λp=>p.1).length=(aeX l):=PP ..;intro e;rcases UV i j with c|c|c
 ·exact bJ.1 h.nd i j c (by omega) (by grind)
 ·exact fo c
 exact bJ.1 h.nd j i c (by omega) (by grind)
theorem C'(t:Int×Int): ∀(r:List Pt) (x:Pt),kZ t r x=x\/kZ t r x∈r
 | [],_=> .inl rfl
 |p::r,x=>by
  show kZ t r (if leads p x t then p else x)=x\/kZ t r (if leads p x t then p else x)∈_
  by_cases c:leads p x t
  ·rw[AC c]
   rcases C' t r p with e|e
   ·rw[e];exact .inr aaP
   grind
  rw[Do c]
  exact(C' t r x).imp id (NE _)
theorem aa0{l:List Pt}(h:VB f l){i:Nat}(hi:i+1<aeX l):(l[i+1]!).1≠(kZ t ((l.drop 1).take i) l[0]!).1:=by
 rcases C' t _ l[0]! with e|e
 ·rw[e];exact h.ne hi (by omega) (by omega)
 obtain⟨j,hj,ej⟩:=aN.1 e
 rw[aai,abX]at hj;have:((l.drop 1).take i)[j]! =l[1+j]!:=by
  grind
 rw[<-ej,this];exact h.ne hi (by omega) (by omega)
theorem Rw{l:List Pt}{i:Nat}(_:i+1<aeX l):(l.drop 1)[i]! =l[i+1]!:=by simp
def g1S(t:Int×Int)(l:List Pt)(M:List (Int×Int))(d:Nat)(top:Pt)(s0 s1:List Pt)(i:Nat):=
 ((d:Int),((aeX l):Int),(i:Int),l,M,t.1,t.2,top.1,top.2.1,top.2.2,s0,s1)
def g2S(t:Int×Int)(l:List Pt)(M:List (Int×Int))(u:Int)(d:Nat)(top:Pt)(i:Nat):=
 (u,(d:Int),(1:Nat),aeX l-1,aeX l-1,((aeX l-1:Nat):Int),(i:Int),l,M,t.1,t.2,top)
theorem aht(aV:aR f){l:List Pt}(h:VB f l){d:Nat}(hd:d<=1000){top:Pt}{M:List _}{u:Int}{c0:_}{c1:_}(hc:(aeX c1.2.2.2.2.1)=aeX l)
 {M2 M3:List _} (r1:c0 (t.1,t.2,top.1,((d+1:Nat):Int),gM l top.1 d 0,M)=af7 (gM l top.1 d 0,M2)) (r2:c0 (t.1,t.2,top.1,((d+1:Nat):Int),gM l top.1 d 1,M2)=af7 (gM l top.1 d 1,M3)):
 aq (jh c0 c1) (g1S t l M d top [] [] 0)=af7 (.done (l,M3)):=by
 have hl:=h.len;have st:=bz (body:=jh c0 c1) (λi=>g1S t l M d top (gM (l.take i) top.1 d 0) (gM (l.take i) top.1 d 1) i) (aeX l) (λi hi=>by
  have pm:=aE hi;obtain⟨b0,b1⟩:=h.bits aV pm;have bt:=VA b0 b1 d;have lt:=DV (l[i]!).1 d;have s0:=BF (l.take i) l[i]! top.1 d 0;have s1:=BF (l.take i) l[i]! top.1 d 1;rw[<-da hi]at s0 s1;have l0:(gM (l.take i) top.1 d 0).length<=64:=abr (Ar ..) (by rw[aai];omega);have l1:(gM (l.take i) top.1 d 1).length<=64:=abr (Ar ..) (by rw[aai];omega);have a0:ba (gM (l.take i) top.1 d 0) [l[i]!]=af7 (gM (l.take i) top.1 d 0++[l[i]!]):=bG (by rw[EQ];omega);have a1:ba (gM (l.take i) top.1 d 1) [l[i]!]=af7 (gM (l.take i) top.1 d 1++[l[i]!]):=bG (by rw[EQ];omega);unfold jh g1S;simp (disch:=omega) only[ar l i hi,aM,]
  grind)
 rw[ac6]at st;refine(st).trans (au ?_);unfold jh g1S;simp (disch:=omega) only[aA,ww,aM,r1,r2,aj,hc,beq_self_eq_true,v6]
theorem ae3{l:List Pt}(h0:l≠[]):aF l 0=af7 l[0]!:=ar l 0 (aci.2 h0)
theorem alJ(aV:aR f)(r:bo t)(dX:jb t){l:List Pt}(h:VB f l)(h0:l≠[]){d:Nat}(hd:d<=1000){M:List (Int×Int)}{u:Int}{c0:_}
 {M2 M3:List (Int×Int)} (r1:c0 (t.1,t.2,(kZ t (l.drop 1) l[0]!).1,((d+1:Nat):Int),gM l (kZ t (l.drop 1) l[0]!).1 d 0,mz M (kZ t (l.drop 1) l[0]!).1 u)=af7 (gM l (kZ t (l.drop 1) l[0]!).1 d 0,M2))
 (r2:c0 (t.1,t.2,(kZ t (l.drop 1) l[0]!).1,((d+1:Nat):Int),gM l (kZ t (l.drop 1) l[0]!).1 d 1,M2)=af7 (gM l (kZ t (l.drop 1) l[0]!).1 d 1,M3)):
 qh c0 (t.1,t.2,u,(d:Int),l,M)=af7 (l,M3):=by
 have hl:=h.len;have hp:=aci.2 h0;have ld:(l.drop 1).length=aeX l-1:=abX;have st:=bz (body:=lS c0 (t.1,t.2,u,(d:Int),l,M)) (λi=>g2S t l M u d (kZ t ((l.drop 1).take i) l[0]!) i) (aeX l-1) (λi hi=>by
  have q:=ar (l.drop 1) i (by omega);rw[Rw (by omega)]at q;have ne:=aa0 (t:=t) h (i:=i) (by omega);have m1:=h.sub _ (aE (i:=i+1) (by omega));have m2:kZ t ((l.drop 1).take i) l[0]!∈f:=by
   rcases C' t ((l.drop 1).take i) l[0]! with e|e
   ·rw[e];exact h.sub _ (aE hp)
   exact h.sub _ (abM (abL e))
  have A:=aaZ aV r dX m1 m2 ne;have tt:=Rv (t:=t) (l:=l.drop 1) (x:=l[0]!) i (by omega);rw[Rw (by omega)]at tt;rw[tt];unfold lS g2S;simp (disch:=omega) only[aM]
  grind)
 rw[abT (i:=aeX l-1) (by omega)]at st;have ol:=aht aV h hd (c1:=(t.1,t.2,u,(d:Int),l,M)) rfl (u:=u) r1 r2;unfold qh;have en:((ack (aeX l))==0)=afd:=jA (by grind);have e2:(((afe ((0:Nat)<=1))&&(afe ((1:Int)<=(ack (aeX l)))))&&(afe ((ack (aeX l))<=(ack (aeX l)))))=afb:=by
  grind
 simp only[en,ae3 h0,aj];rw[e2,v6];refine(st).trans (au ?_);unfold lS g2S;simp only[aA (aeJ _),];exact ol
theorem VD(aV:aR f)(r:bo t)(dX:jb t): ∀(k n:Nat) (l:List Pt) (u:Int) (d:Nat) (M:List _),VB f l->aeX l<=k->k+1<=n->d+k<=1000->
 jP n (t.1,t.2,u,(d:Int),l,M)=af7 (l,tK M (kY (iZ f t) xi k (l.map λp=>p.1) u d))
 |k,0,l,u,d,M,_,_,hn,_=>absurd hn (by omega)
 |k,n+1,[],u,d,M,_,_,_,_=>by cases k<;>rfl
 |0,n+1,x::l,u,d,M,_,hk,_,_=>absurd hk (by simp)
 |k+1,n+1,x::l,u,d,M,h,hk,hn,hd=>by
  have ti:=Ja (t:=t) aV l x (h.sub x aaP) (λp hp=>h.sub p (NE _ hp));have tl:jT _ ((x::l).map λp=>p.1)=(kZ t l x).1:=ti.1.symm;have so:=nS aV.2.2 t;have sl: ∀b,(gM (x::l) (kZ t l x).1 d b).length<=k:=λb=>by
   have hS: ∀y∈((x::l).map λp=>p.1),dY f y:=λy hy=>by obtain⟨p,hp,e⟩:=abt.1 hy;exact cz.1 (abt.2 ⟨p,h.sub p hp,e⟩)
   have t1:=(ou so (by simp) hS).1;have:=uL (bit:=xi) t1 d b
   grind[uM,PP]
  have A:=VD aV r dX k n _ (kZ t l x).1 (d+1) (mz M (kZ t l x).1 u) (h.side _ _ _) (sl 0) (by omega) (by omega);have B:=VD aV r dX k n _ (kZ t l x).1 (d+1) (tK (mz M (kZ t l x).1 u) (kY (iZ f t) xi k ((gM (x::l) (kZ t l x).1 d 0).map λp=>p.1) (kZ t l x).1 (d+1))) (h.side _ _ _) (sl 1) (by omega) (by omega);have C:=alJ aV r dX h (ac3 x l) (by omega) A B;refine(C).trans ?_;rw[uM,uM,<-Iv];refine congrArg af7 (aem rfl ?_);simp;rw[<-tl];rfl
end
section
variable {f : List Pt} {t : Int × Int}
def h1S(t:Int×Int)(l:List Pt)(M:List (Int×Int))(d:Nat)(top:Pt)(s0 s1:List Pt)(i:Nat):=
 ((d:Int),l,((aeX l):Int),(i:Int),M,t.1,t.2,top.1,top.2.1,top.2.2,s0,s1)
def h2S(t:Int×Int)(l:List Pt)(M:List (Int×Int))(u:Int)(d:Nat)(top:Pt)(i:Nat):=
 (l,u,(d:Int),l.drop 1,((l.drop 1).length:Int),(i:Int),M,t.1,t.2,top)
theorem ahu(aV:aR f){l:List Pt}(h:VB f l){d:Nat}(hd:d<=1000){top:Pt}{M:List _}
 {M2 M3:List _} (r1:iB (t.1,t.2,top.1,((d+1:Nat):Int),gM l top.1 d 0,M)=af7 (gM l top.1 d 0,M2)) (r2:iB (t.1,t.2,top.1,((d+1:Nat):Int),gM l top.1 d 1,M2)=af7 (gM l top.1 d 1,M3)):
 aq ji (h1S t l M d top [] [] 0)=af7 (.done M3):=by
 have hl:=h.len;have st:=bz (body:=ji) (λi=>h1S t l M d top (gM (l.take i) top.1 d 0) (gM (l.take i) top.1 d 1) i) (aeX l) (λi hi=>by
  have pm:=aE hi;obtain⟨b0,b1⟩:=h.bits aV pm;have bt:=VA b0 b1 d;have lt:=DV (l[i]!).1 d;have s0:=BF (l.take i) l[i]! top.1 d 0;have s1:=BF (l.take i) l[i]! top.1 d 1;rw[<-da hi]at s0 s1;have l0:(gM (l.take i) top.1 d 0).length<=64:=abr (Ar ..) (by rw[aai];omega);have l1:(gM (l.take i) top.1 d 1).length<=64:=abr (Ar ..) (by rw[aai];omega);have a0:ba _ [l[i]!]=af7 (gM (l.take i) top.1 d 0++[l[i]!]):=bG (by rw[EQ];omega);have a1:ba _ [l[i]!]=af7 (gM (l.take i) top.1 d 1++[l[i]!]):=bG (by rw[EQ];omega);unfold ji h1S;simp (disch:=omega) only[ar l i hi,aM,]
  grind)
 rw[ac6]at st;refine(st).trans (au ?_);unfold ji h1S;simp (disch:=omega) only[aA,ww,aM,r1,r2,aj]
theorem alK(aV:aR f)(r:bo t)(dX:jb t){l:List Pt}(h:VB f l)(h0:l≠[]){d:Nat}(hd:d<=1000){M:List _}{u:Int}{c0:_}
 {M2 M3:List _} (r1:iB (t.1,t.2,(kZ t (l.drop 1) l[0]!).1,((d+1:Nat):Int),gM l (kZ t (l.drop 1) l[0]!).1 d 0,mz M (kZ t (l.drop 1) l[0]!).1 u)=af7 (gM l (kZ t (l.drop 1) l[0]!).1 d 0,M2))
 (r2:iB (t.1,t.2,(kZ t (l.drop 1) l[0]!).1,((d+1:Nat):Int),gM l (kZ t (l.drop 1) l[0]!).1 d 1,M2)=af7 (gM l (kZ t (l.drop 1) l[0]!).1 d 1,M3)):
 qi c0 (l,t.1,t.2,u,(d:Int),M)=af7 M3:=by
 have hl:=h.len;have hp:=aci.2 h0;have ld:(l.drop 1).length=aeX l-1:=abX;have st:=bz (body:=lT) (λi=>h2S t l M u d (kZ t ((l.drop 1).take i) l[0]!) i) _ (λi hi=>by
  have q:=ar (l.drop 1) i hi;have ne:=aa0 (t:=t) h (i:=i) (by omega);have m1:=h.sub _ (aE (i:=i+1) (by omega));have m2:kZ t ((l.drop 1).take i) l[0]!∈f:=by
   rcases C' t _ l[0]! with e|e
   ·rw[e];exact h.sub _ (aE hp)
   exact h.sub _ (abM (abL e))
  have A:=aaZ aV r dX m1 m2 ne;have tt:=Rv (t:=t) (x:=l[0]!) i hi;unfold lT h2S;simp (disch:=omega) only[aM]
  grind)
 rw[ac6]at st;have ol:=ahu aV h hd r1 r2;have e1:jE l 1 (ack (aeX l))=af7 (l.drop 1):=by unfold jE;rw[AC (by refine⟨by decide,?_,Int.le_refl _⟩;show(1:Int)<=((aeX l):Int);omega)];simp[abT,]
 unfold qi;have en:((ack (aeX l))==0)=afd:=jA (by grind);simp only[en,ae3 h0,e1];refine(st).trans (au ?_);unfold lT h2S;simp only[aA (aeJ _),];exact ol
theorem adM(aV:aR f)(r:bo t)(dX:jb t):sH (f,t.1,t.2,-1,0,[])=af7 (tK [] (tQ f t)):=by
 have h:VB f f:=⟨λp hp=>hp,db aV.2.2,aV.1⟩;have f1:=aV.1;unfold tQ;cases hf:f with
 |nil=>rfl
 |cons x l=>
  rw[<-hf];have fl:(aeX f)=aeX l+1:=by rw[hf];rfl
  have d1:f.drop 1=l:=by rw[hf];rfl
  have g0:f[0]! =x:=by rw[hf];rfl
  have ti:=Ja (t:=t) aV l x (by rw[hf];exact aaP) (λp hp=>by rw[hf];exact NE _ hp);have ei:cq f=x.1::l.map λp=>p.1:=by unfold cq;rw[hf];rfl
  have tl:jT (iZ f t) (cq f)=(kZ t l x).1:=by rw[ei];exact ti.1.symm
  have so:=nS aV.2.2 t;have sl: ∀b,(gM f (kZ t l x).1 0 b).length<=(aeX l):=λb=>by
   have hS: ∀y∈cq f,dY f y:=λy hy=>cz.1 hy
   have t1:=(ou so (by unfold cq;rw[hf];simp) hS).1;rw[tl]at t1;have:=uL (bit:=xi) t1 0 b;unfold cq at this;rw[<-uM,PP,PP]at this;omega
  have A:=VD aV r dX (aeX l) 1000000 _ (kZ t l x).1 1 (mz [] (kZ t l x).1 (-1)) (h.side _ _ _) (sl 0) (by omega) (by omega);have B:=VD aV r dX (aeX l) 1000000 _ (kZ t l x).1 1 (tK (mz [] (kZ t l x).1 (-1)) (kY (iZ f t) xi (aeX l) ((gM f (kZ t l x).1 0 0).map λp=>p.1) (kZ t l x).1 1)) (h.side _ _ _) (sl 1) (by omega) (by omega);have C:=alK aV r dX h (by rw[hf];exact ac3 x l) (d:=0) (by omega) (c0:=jQ 999999) (by rw[d1,g0];exact A) (by rw[d1,g0];exact B);refine(C).trans (congrArg af7 ?_);rw[uM,uM,<-Iv,fl];rw[show(f.map λp=>p.1)=cq f from rfl,<-tl];rw[ei];rfl
end
theorem O6{f : List Pt}(h : eu f){t : Int × Int}{i k : Nat}(hi : i < (aeX f))(hk : k < (aeX f))(a : DS f t i k) : ∀ j, j <= (aeX f) -> O5 f t i j + (if i < j then 1 else 0) <= O5 f t k j
  | 0, _ => by exact IR _
  | j + 1, hj => by
    have o := xh h t
    have ih := O6 h hi hk a j (by omega)
    have ik : i ≠ k := λe => by subst e; exact o.asy i i hi hi a a
    rw[O5, O5]
    by_cases e : j = i
    ·grind
    have e2 : (if i < j + 1 then 1 else 0) = (if i < j then 1 else 0) := by
      by_cases c : i < j
      ·rw[AC c, AC (by omega)]
      rw[Do c, Do (by omega)]
    by_cases c : j ≠ i /\ DS f t j i
    ·have c2 : j ≠ k /\ DS f t j k := by
       have q := o.tr j i k (by omega) hi hk c.2 a
       exact⟨λz => by subst z; exact o.asy j j (by omega) (by omega) q q, q⟩
     rw[AC c, AC c2]; omega
    grind
theorem adN{f:List Pt}(h:eu f){t:Int×Int}{i k:Nat}(hi:i<aeX f)(hk:k<aeX f)(ne:i≠k):O5 f t i (aeX f)≠O5 f t k (aeX f):=by
 have o:=xh h t
 by_cases a:DS f t i k
 ·have:=O6 h hi hk a (aeX f) (IR _)
  grind
 have:=O6 h hk hi (o.Xd i k hi hk ne a) (aeX f) (IR _)
 grind
theorem O7{f:List Pt}(h:eu f){t:Int×Int}{i:Nat}: ∀j,j<=aeX f->i<j->(Gq f t j)[O5 f t i (aeX f)]! =(f[i]!).1
 |0,_,hi=>by omega
 |j+1,hj,hi=>by
  rw[Gq,cw];have hr:=(HA f t i (aeX f)).2 (by omega)
  by_cases q:i=j
  ·subst q
   rw[AC ⟨rfl,by rw[vT];omega⟩]
  rw[Do (λw=>adN h (by omega) (by omega) q w.1)]
  exact O7 h j (by omega) (by omega)
theorem Nk{f:List Pt}(h:eu f)(t:Int×Int):(cq f).Perm (Gq f t (aeX f)):=by have il:(cq f).length=(aeX f):=PP ..;refine gd (db h) (λx hx=>?_) (by rw[vT,il];omega);obtain⟨i,hi,e⟩:=cz.1 hx;have hr:=(HA f t i (aeX f)).2 hi;exact aN.2 ⟨O5 f t i (aeX f),by rw[vT];omega,by rw[O7 h _ (IR _) hi];exact e⟩
theorem T9{f:List Pt}(h:eu f)(t:Int×Int){p q:Nat}(hpq:p<q)(hq:q<aeX f):iZ f t (Gq f t (aeX f))[p]! (Gq f t (aeX f))[q]!:=by
 have pm:=Nk h t;have nd:=pm.nodup_iff.1 (db h);have ol:=vT f t (aeX f);have o:=xh h t;have at': ∀x,x<aeX f-> ∃i,i<aeX f/\(Gq f t (aeX f))[x]! =(f[i]!).1/\O5 f t i (aeX f)=x:=λx hx=>by
  obtain⟨i,hi,e⟩:=cz.1 (pm.mem_iff.2 (aE (i:=x) (by omega)));have hr:=(HA f t i (aeX f)).2 hi;have e2:=O7 h (t:=t) (aeX f) (IR _) hi;rw[e]at e2;refine⟨i,hi,e.symm,?_⟩;rcases UV _ x with c|c|c
  ·exact absurd e2 (bJ.1 nd _ _ c (by omega))
  ·exact c
  exact absurd e2.symm (bJ.1 nd _ _ c (by omega))
 obtain⟨i,hi,e1,r1⟩:=at' p (by omega);obtain⟨k,hk,e2,r2⟩:=at' q hq;rw[e1,e2];show leads _ _ t;rw[iO h hi rfl,iO h hk rfl]
 by_cases a:DS f t i k
 ·exact a
 have:=O6 h hk hi (o.Xd i k hi hk (λe=>by subst e;omega) a) (aeX f) (IR _)
 omega
theorem Xq{f:List Pt}(h:eu f)(t:Int×Int):(Gq f t (aeX f)).Pairwise (iZ f t):=by
 refine List.pairwise_iff_getElem.2 λi j hi hj p8=>?_
 have:=T9 h t p8 (by rw[<-vT f t (aeX f)];exact hj)
 grind
section
variable {f : List Pt} {t : Int × Int}
theorem aa1{P:Int->Int->Prop}{S:Int->Prop}(o:SO P S){x:Int}{r:List Int}(hS: ∀y∈x::r,S y)(pw:(x::r).Pairwise P):jT P (x::r)=x:=by
 obtain⟨p1,_⟩:=abQ.1 pw;refine K6 o hS aaP λy hy=>?_
 rcases abz.1 hy with rfl|hy
 ·exact o.X0 _ (hS _ aaP)
 exact o.asym (hS _ aaP) (hS _ (NE _ hy)) (p1 y hy)
def As(r:List Int)(d b:Nat):List Int:=r.filter λx=>decide (xi x d=b)
theorem aa2{P:Int->Int->Prop}{S:Int->Prop}(o:SO P S){x:Int}{r:List Int}(hS: ∀y∈x::r,S y)(pw:(x::r).Pairwise P)(d b:Nat):mB xi (x::r) x d b=As r d b:=by
 obtain⟨p1,_⟩:=abQ.1 pw;unfold mB As;rw[List.filter_cons,Do (by simp)];refine List.filter_congr λy hy=>?_
 have ne:y≠x:=λe=>o.X0 x (hS x aaP) (by have:=p1 y hy;rwa [e]at this)
 grind
theorem T'(r:List Int)(x:Int)(d b:Nat):As (r++[x]) d b=As r d b++(if xi x d=b then [x]else []):=by
 unfold As
 grind
theorem aa3{x:Int}{r:List Int}(hr:(aeX r)<=64)(pos: ∀y∈r,0<=y){d:Nat}(hd:d<=1000){b:Nat}{out A:List _}{c0:_}(af2:(aeX out)+aeX A<=1000)(hb:b<=2)(rec:c0 (As r d b,x,((d+1:Nat):Int))=af7 A):
 aq (qv c0) (x::r,(d:Int),(b:Int),1,out,[])=af7 (.next (x::r,(d:Int),((b+1:Nat):Int),out++A)):=by
 have st:=bz (body:=qv c0) (λi=>(x::r,(d:Int),(b:Int),((i+1:Nat):Int),out,As (r.take i) d b)) (aeX r) (λi hi=>by
  have g:=ar (x::r) (i+1) (by rw[abD];omega);have gi:(x::r)[i+1]! =r[i]!:=by rw[getElem!_pos _ _ (by rw[abD];omega),getElem!_pos r i hi];rfl
  rw[gi]at g;have s:=T' (r.take i) r[i]! d b;rw[<-da hi]at s;have lim:(As (r.take i) d b).length<=64:=abr (abV ..) (by rw[aai];omega);have ap:ba _ [r[i]!]=af7 (As (r.take i) d b++[r[i]!]):=bG (by rw[EQ];omega);have bt:=adL (pos _ (aE hi)) d;rw[s];unfold qv;simp (disch:=omega) only[aK,abD,az,v6,g,aj,aA,ww,ap,aM]
  by_cases c:xi r[i]! d=b
  ·rw[lZ (by omega),v6,AC c]
  rw[jA (by omega),ww,Do c,aby])
 refine(st).trans (au ?_);have g0:=ar (x::r) 0 (by rw[abD];omega);have ap:ba out A=af7 _:=bG (by omega);unfold qv;simp (disch:=omega) only[aM,]
 grind
theorem Xr{P:Int->Int->Prop}{S:Int->Prop}(o:SO P S){n:Nat}{l:List Int}{u:Int}{d:Nat}(hS: ∀x∈l,S x)(nd:l.Nodup)(h:(aeX l)<=n):(kY P xi n l u d).length=(aeX l):=by
 have:=(yd o DV n l u d hS nd h).1.length_eq
 grind
theorem adO{P:Int->Int->Prop}{S:Int->Prop}(o:SO P S){l:List Int}(hS: ∀x∈l,S x)(pw:l.Pairwise P):l.Nodup:=by
 induction l with
 |nil=>simp
 |cons x l ih=>obtain⟨p1,p2⟩:=abQ.1 pw;exact abx.2 ⟨λh=>o.X0 x (hS x aaP) (p1 x h),ih (λy hy=>hS y (NE _ hy)) p2⟩
theorem ae4(aV:aR f): ∀(k n:Nat) (l:List Int) (u:Int) (d:Nat),(∀x∈l,dY f x)->l.Pairwise (iZ f t)->aeX l<=k->k<=64->k+1<=n->d+k<=1000->
 sZ n (l,u,(d:Int))=af7 (kY (iZ f t) xi k l u d)
 |k,0,l,u,d,_,_,_,_,hn,_=>absurd hn (by omega)
 |k,n+1,[],u,d,_,_,_,_,_,_=>by cases k<;>rfl
 |0,n+1,x::r,u,d,_,_,hk,_,_,_=>absurd hk (by simp)
 |k+1,n+1,x::r,u,d,hS,pw,hk,h64,hn,hd=>by
  have o:=nS aV.2.2 t;have th:=aa1 o hS pw;rw[abD]at hk;have hr: ∀b,(∀y∈As r d b,dY f y)/\(As r d b).Pairwise _/\(As r d b).length<=k:=λb=>
   ⟨λy hy=>hS y (NE _ (aek.1 hy).1),(abQ.1 pw).2.filter _,abr (abV ..) (by omega)⟩
  have pos:=λy hy=>by have p0:=bK aV (hS y (NE _ hy));have p1:=p0.1.1;rw[p0.2]at p1;exact p1
  have rc:=λb=>ae4 aV k n _ x (d+1) (hr b).1 (hr b).2.1 (hr b).2.2 (by omega) (by omega) (by omega)
  have ln: ∀b,(kY (iZ f t) xi k _ x (d+1)).length<=64:=λb=>by rw[Xr o (hr b).1 (adO o (hr b).1 (hr b).2.1) (hr b).2.2];have:=(hr b).2.2;omega
  have l0:=ln 0;have l1:=ln 1;have A:=aa3 (by omega) pos (by omega) (out:=[(x,u)]) (by rw[EQ];omega) (by omega) (rc 0);have B:=aa3 (by omega) pos (by omega) (out:=[(x,u)]++kY (iZ f t) xi k (As r d 0) x (d+1)) (by rw[ab0,EQ];omega) (by omega) (rc 1);show Bn _ _=_;have g0:aF _ 0=af7 x:=ar (x::r) 0 (by rw[abD];omega);unfold Bn;simp[g0,];have s1:=A;have s2:=B;rw[aQ s1,aQ s2];refine(au (rfl)).trans ?_;simp[kY]
  grind[aa2]
theorem Rx(aV:aR f):EW (Gq f t (aeX f)) (-1) 0=af7 (tQ f t):=by have f1:=aV.1;have pm:=Nk aV.2.2 t;have h:=ae4 aV (aeX f) 1000000 _ (-1) 0 (λx hx=>cz.1 (pm.mem_iff.2 hx)) (Xq aV.2.2 t) (by rw[vT];omega) f1 (by omega) (by omega);refine(h).trans (congrArg af7 ?_);exact(E5 (nS aV.2.2 t) (aeX f) _ _ _ 0 (λx hx=>cz.1 hx) pm).symm
theorem Xs(aV:aR f)(dX:jb t):F4 ⟨f⟩ t=af7 (rN f t):=by
 have f1:=aV.1;obtain⟨k1,k2⟩:=vU aV;have nd:=k1.nodup_iff.2 (db aV.2.2);have ll:(tQ f t).length=(aeX f):=by have:=k1.length_eq;rw[PP]at this;rw[this];exact PP ..
 have mk:oE ((aeX f):Int) (0:Int)=af7 (If (aeX f) 0):=by unfold oE;rw[AC ⟨by omega,by omega⟩,abu]
 let U:=λj=>f.map λp=>if p.1∈((tQ f t).take j).map (λe=>e.1)then j8 0 (tQ f t) p.1 else 0
 have Ul: ∀j,(U j).length=(aeX f):=λj=>PP ..
 have Ua: ∀j i,i<aeX f->(U j)[i]! =if(f[i]!).1∈((tQ f t).take j).map (λe=>e.1)then j8 0 _ (f[i]!).1 else 0:=λj i hi=>by rw[getElem!_pos _ i (by rw[Ul];exact hi),aed,getElem!_pos f i hi]
 have st:=bz (body:=yP) (λj=>(tQ f t,(j:Int),f,U j)) _ (λj hj=>by
  have g:=ar (tQ f t) j hj;have hm:=aE hj;have hp:=cz.1 (k1.mem_iff.1 (abt.2 ⟨_,hm,rfl⟩));obtain⟨i,hi,ei⟩:=hp;have ga:=M4 aV.2.2 (by omega) hi ei;have gu:=ar (U j) i (by rw[Ul];exact hi);unfold yP;simp (disch:=omega) only[aK,az,v6,g,aj,ga,gu,fI,aM];have eU:(U j).set i ((tQ f t)[j]!).2=U (j+1):=by
   refine ny (by rw[abw,Ul,Ul]) λk hk=>?_
   rw[abw,Ul]at hk;have mm:(f[k]!).1∈((tQ f t).take (j+1)).map (λe=>e.1)↔(f[k]!).1∈((tQ f t).take j).map (λe=>e.1)\/(f[k]!).1∈[(tQ f t)[j]!].map (λe=>e.1):=by rw[da hj,ad7,abv]
   rw[cw,Ul,Ua _ k hk,Ua _ k hk]
   by_cases c:k=i
   ·subst c
    rw[AC ⟨rfl,hi⟩,AC (mm.2 (.inr (by rw[ei];exact abE.2 rfl))),ei];exact(C9 nd (hm)).symm
   rw[Do (λw=>c w.1)]
   have ne:=λw=>c (gT aV.2.2 hk hi ((abE.1 w).trans ei.symm))
   by_cases q:(f[k]!).1∈((tQ f t).take j).map λe=>e.1
   ·rw[AC q,AC (mm.2 (.inl q))]
   rw[Do q,Do (λw=>(mm.1 w).elim q ne)]
  rw[eU])
 have U0:U 0=If (aeX f) 0:=by
  refine ny (by rw[Ul,aaQ]) λk hk=>?_
  rw[Ul]at hk;rw[Ua 0 k hk,List.take_zero,List.map_nil,Do aec,getElem!_pos _ k (by rw[aaQ];exact hk),abU]
 have Un:U (tQ f t).length=rN f t:=by
  refine ny (by rw[Ul,Gs]) λk hk=>?_
  rw[Ul]at hk;rw[Ua _ k hk,ac6,AC (k1.mem_iff.2 (cz.2 ⟨k,hk,rfl⟩)),K8 hk]
 unfold F4;rw[T8 aV dX,aj,Rx aV,aj];simp[mk,];rw[<-U0];refine(st).trans (au ?_);unfold yP;simp (disch:=omega) only[aK,aA,ww];rw[Un]
theorem Da(U:List Int)(i:Nat):gg f U (i+1)=gg f U i++(if 0<=U[i]! then [((f[i]!).1,U[i]!)]else []):=rfl
theorem Xt{U:List Int}(hU:(aeX U)=aeX f)(hf:(aeX f)<=1000):KD ⟨f⟩ U=af7 (gg f U (aeX f)):=by
 have st:=bz (body:=yQ) (λi=>(U,(i:Int),f,gg f U i)) (aeX f) (λi hi=>by
  have gu:=ar U i (by omega);have gf:=ar f i hi;have el:=pI (f:=f) U i;have ap:ba _ [((f[i]!).1,U[i]!)]=af7 (gg f U i++[((f[i]!).1,U[i]!)]):=bG (by rw[EQ];omega);rw[Da];unfold yQ;simp (disch:=omega) only[aK,az,v6,gu,gf,aj,ap,aM]
  by_cases c:0<=U[i]!
  ·rw[az c,v6,AC c]
  rw[aA c,ww,Do c,aby])
 refine(st).trans (au ?_);unfold yQ
 grind
theorem Jb(aV:aR f)(r:bo t)(dX:jb t):ry ⟨f⟩ t=af7 (rN f t,gg f (rN f t) (aeX f)):=by
 have f1:=aV.1;obtain⟨k1,_⟩:=vU aV;have nd:=k1.nodup_iff.2 (db aV.2.2);have ul:=Gs f t;have st:=bz (body:=sI) (λi=>(f,((aeX f):Int),(i:Int),tK [] (tQ f t),(rN f t).take i,gg f (rN f t) i)) (aeX f) (λi hi=>by
  have gf:=ar f i hi;have gm:j8 0 (tK [] (tQ f t)) (f[i]!).1=(rN f t)[i]!:=by rw[Ru _ _ _ nd,AC (k1.mem_iff.2 (cz.2 ⟨i,hi,rfl⟩)),K8 hi]
  have el:=pI (f:=f) (rN f t) i;have a1:ba ((rN f t).take i) [(rN f t)[i]!]=af7 ((rN f t).take (i+1)):=by rw[da (by omega)];exact bG (by rw[aai,EQ];omega)
  have a2:ba _ [((f[i]!).1,(rN f t)[i]!)]=af7 (gg f (rN f t) i++[((f[i]!).1,(rN f t)[i]!)]):=bG (by rw[EQ];omega);rw[Da];unfold sI;simp (disch:=omega) only[az,v6,gf,aj,gm,a1,a2,aM]
  by_cases c:0<=(rN f t)[i]!
  ·rw[az c,v6,AC c]
  rw[aA c,ww,Do c,aby])
 unfold ry;rw[adM aV r dX,aj];refine(st).trans (au ?_);unfold sI
 grind
end
theorem Ub(a b:List Int)(hl:(aeX a)<=1000000):iS a b=af7 (afe (a=b)):=by
 unfold iS;simp[]
 by_cases h:(aeX a)=aeX b
 case neg=>rw[dV (by omega),aA (λk=>h (by rw[k]))];rfl
 rw[bw (by omega)];simp;have key:=kV (body:=fY) (λi=>(a,b,((aeX a):Int),(i:Int))) (aeX a) (λi=>a[i]! =b[i]!) (r:=afd) (e:=afb) (λi hi=>by
  unfold fY;simp (disch:=omega) only[ar,aM]
  grind) (by
  unfold fY;simp)
 refine(key).trans ?_
 by_cases q:a=b
 ·grind
 rw[Do (λw=>q (ny h w)),aA q]
theorem aa4(a b:List Int)(hl:(aeX a)<=1000000):vj a b=af7 (afe (a=b)):=by
 unfold vj;simp[]
 by_cases h:(aeX a)=aeX b
 case neg=>rw[dV (by omega),aA (λk=>h (by rw[k]))];rfl
 rw[bw (by omega)];simp;have key:=kV (body:=pW) (λi=>(a,b,(i:Int))) (aeX a) (λi=>a[i]! =b[i]!) (r:=afd) (e:=afb) (λi hi=>by
  unfold pW;simp (disch:=omega) only[ar,aM]
  grind) (by
  unfold pW;simp)
 refine(key).trans ?_
 by_cases q:a=b
 ·grind
 rw[Do (λw=>q (ny h w)),aA q]
structure jo(k:cC):Prop where
 iG:aT k.jp
 up:rN k.jp.ii.am k.jp.ci=k.up
 cert:(k.jp.af.ce.map λx=>x.2).Perm (gg k.jp.ii.am k.up (aeX k.jp.ii.am))
theorem L'{c:aH}(ok:aT c)(E:List _):
 (aeX E=aeX c.af.ce/\ ∀i,i<aeX c.af.ce->(c.af.ce[i]!).2∈E)↔(c.af.ce.map λx=>x.2).Perm E:=by
 have cl:(c.af.ce.map λx=>x.2).length=(aeX c.af.ce):=PP ..;constructor
 ·rintro⟨h1,h2⟩
  refine gd (ma ok.wF) (λx hx=>?_) (by omega);obtain⟨i,hi,rfl⟩:=dW.2 hx;exact h2 i hi
 intro h
 exact⟨by rw[<-h.length_eq,cl],λi hi=>h.mem_iff.1 (dW.1 ⟨i,hi,rfl⟩)⟩
theorem O8{c:aH}{E:List _}(nd:E.Nodup)(ld: ∀e∈E,leads (bC c.ii.am e.2) (bC c.ii.am e.1) c.ci):
 (aeX c.af.ce=aeX E/\ ∀i,i<aeX E->qy c.af.ce E[i]!/\leads (bC c.ii.am (E[i]!).2) (bC c.ii.am (E[i]!).1) c.ci)↔(c.af.ce.map λx=>x.2).Perm E:=by
 have cl:(c.af.ce.map λx=>x.2).length=(aeX c.af.ce):=PP ..;constructor
 ·rintro⟨h1,h2⟩
  refine(gd nd (λx hx=>?_) (by omega)).symm;obtain⟨i,hi,rfl⟩:=aN.1 hx;exact dW.1 (h2 i hi).1
 intro h
 exact⟨by rw[<-h.length_eq,cl],λi hi=>⟨dW.2 (h.mem_iff.2 (aE hi)),ld _ (aE hi)⟩⟩
theorem Xu(es:List _)(l:List wk)(h1:(aeX es)<=1000000)(_:(aeX l)<=1000000):
 aq oa (es,l,((aeX l):Int),0)=af7 (if∀i,i<aeX l->(l[i]!).2∈es then 0 else 8):=by
 have key:=kV (body:=oa) (λi=>(es,l,((aeX l):Int),(i:Int))) (aeX l) (λi=>(l[i]!).2∈es) (e:=0) (λi hi=>by
  unfold oa;simp (disch:=omega) only[az,ar l i hi,aj,ie es _ h1,aM];refine⟨λq=>?_,λq=>?_⟩
  ·rw[aA q];rfl
  ·rw[az q];rfl) (by
  unfold oa;simp (disch:=omega) only[aA,ww])
 grind
theorem og{k:cC}(fit:oc k.jp):lW k=af7 (if jo k then 0 else 8):=by
 unfold lW;rw[iF fit,aj]
 by_cases ok:aT k.jp
 case neg=>rw[Do ok,Do (λh=>ok h.iG)];rfl
 rw[AC ok,bw rfl,ww];have f1:=ok.dI.1;have hh:=Jb ok.dI ok.gZ ok.dP;have ul:=Gs k.jp.ii.am k.jp.ci;rw[hh,aj,Ub _ _ (show(rN k.jp.ii.am k.jp.ci).length<=1000000 by omega),aj]
 by_cases hn:rN k.jp.ii.am k.jp.ci=k.up
 case neg=>rw[aA hn,Do (λh:jo k=>hn h.up)];rfl
 have el:=pI (f:=k.jp.ii.am) k.up (aeX k.jp.ii.am);have iff:=L' ok (gg k.jp.ii.am k.up (aeX k.jp.ii.am));rw[az hn,abA,ww,hn];simp[]
 by_cases hc:(gg k.jp.ii.am k.up (aeX k.jp.ii.am)).length=aeX k.jp.af.ce
 case neg=>rw[dV (by omega),v6,Do (λh:jo k=>hc (iff.2 h.cert).1)]
 rw[bw (by omega),ww,Xu _ _ (by omega) (by omega)]
 by_cases hj: ∀i,i<aeX k.jp.af.ce->(k.jp.af.ce[i]!).2∈gg k.jp.ii.am k.up (aeX k.jp.ii.am)
 ·rw[AC hj,AC (⟨ok,hn,iff.1 ⟨hc,hj⟩⟩)]
 rw[Do hj,Do (λh:jo k=>hj (iff.2 h.cert).2)]
theorem K9{k:cC}(fit:oc k.jp):rB k=af7 (if jo k then 0 else 8):=by
 unfold rB;rw[tz fit,aj]
 by_cases ok:aT k.jp
 case neg=>rw[Do ok,Do (λh=>ok h.iG)];rfl
 rw[AC ok,bw rfl,ww];have f1:=ok.dI.1;have hu:=Xs ok.dI ok.dP;have ul:=Gs k.jp.ii.am k.jp.ci;rw[hu,aj,aa4 _ _ (show(rN k.jp.ii.am k.jp.ci).length<=1000000 by omega),aj]
 by_cases hn:rN k.jp.ii.am k.jp.ci=k.up
 case neg=>rw[aA hn,Do (λh:jo k=>hn h.up)];rfl
 have of:=Xt (f:=k.jp.ii.am) ul (by omega);obtain⟨oL,nd,ld⟩:=xt ok.dI;rw[az hn,abA,ww,of,aj,I6 ok _ oL.kn,aj];have iff:=O8 nd ld
 by_cases hj:(aeX k.jp.af.ce)=(gg k.jp.ii.am (rN k.jp.ii.am k.jp.ci) (aeX k.jp.ii.am)).length/\ ∀i,i<(gg k.jp.ii.am (rN k.jp.ii.am k.jp.ci) (aeX k.jp.ii.am)).length->qy k.jp.af.ce (gg k.jp.ii.am (rN k.jp.ii.am k.jp.ci) (aeX k.jp.ii.am))[i]!/\leads (bC k.jp.ii.am ((gg k.jp.ii.am (rN k.jp.ii.am k.jp.ci) (aeX k.jp.ii.am))[i]!).2) (bC k.jp.ii.am ((gg k.jp.ii.am (rN k.jp.ii.am k.jp.ci) (aeX k.jp.ii.am))[i]!).1) k.jp.ci
 ·rw[az hj,AC (⟨ok,hn,by grind⟩)];rfl
 rw[aA hj,Do (λh:jo k=>hj (iff.2 (by rw[hn];exact h.cert)))];rfl
structure Xv(c:aH)(f:List Pt)(R:cC×Int):Prop where
 err:R.2=0
 up:R.1.up=rN f c.ci
 zF:yY c f (gg f (rN f c.ci) (aeX f)) R.1.jp
theorem yY.same{c:aH}{f:List Pt}{es:List _}{r:aH}(h:yY c f es r)(nd:es.Nodup):(r.af.ce.map λx=>x.2).Perm es:=by
 refine(List.perm_ext_iff_of_nodup (ma h.ok.wF) nd).2 λx=>⟨λhx=>?_,λhx=>dW.1 (h.has x hx)⟩
 obtain⟨y,hy,rfl⟩:=abt.1 hx;exact h.sub y hy
theorem Xv.ok{c:aH}{f:List Pt}{R:cC×Int}(aV:aR f)(h:Xv c f R):jo R.1 where
 iG:=h.zF.ok
 up:=by rw[h.zF.dI,h.zF.ci,h.up]
 cert:=by rw[h.zF.dI,h.up];exact h.zF.same (xt aV).2.1
abbrev noG:cC:=⟨eQ,[]⟩
structure Gu(R:cC)(F:List Pt)(t:Int×Int):Prop where
 ok:jo R
 dI:R.jp.ii.am=F
 ci:R.jp.ci=t
theorem Xv.hg{c:aH}{f:List Pt}{R:cC×Int}(aV:aR f)(h:Xv c f R):Gu R.1 f c.ci:=⟨h.ok aV,h.zF.dI,h.zF.ci⟩
theorem Uc{c:aH}(ok:aT c)(ct: ∀e∈gg c.ii.am (rN c.ii.am c.ci) (aeX c.ii.am),qy c.af.ce e){to:Int×Int}(rt:bo to)(le: ¬gY to c.ci<0)(io: ¬E4 c to):rN c.ii.am to=rN c.ii.am c.ci:=by
 obtain⟨oL,_,ld⟩:=xt ok.dI;refine Xo ok.dI λe he=>?_
 have kn:=oL.kn e he;have p1:=bK ok.dI kn.1;have p2:=bK ok.dI kn.2;obtain⟨w,w1,w2⟩:=ct _ he;have wn:bP c.ii.am (c.af.ce[w]!).2 c.ci=jl (bC c.ii.am e.2) (bC c.ii.am e.1) c.ci:=by unfold bP;rw[w2]
 have nl: ¬leads (bC c.ii.am e.1) (bC c.ii.am e.2) to:=by
  refine O4 p2.1 p1.1 ok.gZ rt (by rw[oH]at le;omega) λis=>?_
  rw[<-wn]at is;obtain⟨d,hd,_,ev⟩:=ok.AA.has _ (aE w1) is;obtain⟨v,hv,he⟩:=aN.1 ev;have tl:=Aj ok.nB v hv;have h0:0<(aeX c.ae.bv):=by omega
  have e0:=(ok.nB.ev 0 h0).1.1;have ev':=(ok.nB.ev v hv).1.1;rw[he]at tl ev';rw[<-wn];have n1:=λq=>tl (.inl q)
  rw[oH]at n1;have n2: ¬gY _ to<=0:=λq=>io ⟨h0,q⟩
  have n3:to.1*(Ev.at c.ae.bv[0]!).2<(Ev.at c.ae.bv[0]!).1*to.2:=by unfold gY at n2;rcases dU ((Ev.at c.ae.bv[0]!).1*to.2) (to.1*(Ev.at c.ae.bv[0]!).2)with⟨a,b⟩|⟨a,b⟩|⟨a,b⟩<;>omega
  exact qx rt.1 e0 ev' n3 (aeE.1 n1)
 grind[fJ,eN]
def gP(c:aH)(U:List Int)(to:Int×Int)(out:List (Int×Int)):=
 (c.ci.1,c.ci.2,c.ii.am,c.af.aW,c.af.ce,c.ae.ai.ay,c.ae.ai.be,c.ae.ai.bi,c.ae.bv,c.ae.aC,c.io,U,to.1,to.2,(0:Int),(0:Int),(0:Int),out)
theorem Iw{c:aH}(ok:aT c){f:List Pt}(aV:aR f)(h12:(aeX f)<=12){k:Nat}(hr:eR c 100 k)(hk:k+200<=999999):
 ∃(R:cf) (k2:Nat),ng c ⟨f⟩=af7 (R,0)/\Hy R f c.ci/\eR R.jp 100 k2/\k2<=k+190:=by
 obtain⟨r,N,h1,h2⟩:=OW aV ok.gZ ok.dP;have el:=pG N (aeX f);obtain⟨oL,nd,_⟩:=h2.Rp aV;obtain⟨q,q1,q2,q3,k',q4,q5⟩:=uK ok aV oL nd (by omega) hr (by omega);refine⟨⟨q,⟨r,N⟩⟩,k',?_,⟨⟨q2.ok,?_,?_⟩,q2.dI,q2.ci⟩,q5,q4⟩
 ·unfold ng
  grind
 ·show hZ q.ii.am q.ci N r
  rw[q2.dI,q2.ci];exact h2
 rw[q2.dI];exact q3
theorem Gv{k:cf}(ok:jm k): ∀x∈k.jp.af.ce,leads (bC k.jp.ii.am x.2.2) (bC k.jp.ii.am x.2.1) k.jp.ci:=λx hx=>
 (ok.lw.Rp ok.iG.dI).2.2 _ (ok.cert.mem_iff.1 (ae1 hx))
theorem Ry{to:Int×Int}(rt:bo to)(dX:jb to): ∀(d:Nat) (c:aH) (r:Int) (N:List Nd) (out:List _) (k:Nat),R9 c.ii.am c.ci<=d->jm ⟨c,⟨r,N⟩⟩->aeX c.ii.am<=12->eR c 100 k->k+190*d+200<=999999->aeX out+d<=1048000-> ¬gY to c.ci<0->
 ∃(R:cf) (o:List _) (k2:Nat),aq jy (hP c r N to out)=af7 (R,o,0)/\Hy R c.ii.am to/\eR R.jp 100 k2/\k2<=k+190*d:=by
 have done: ∀(c:aH) (r:Int) (N:List Nd) (out:List _),jm ⟨c,⟨r,N⟩⟩-> ¬gY to c.ci<0-> ¬E4 c to->
  ∃R:cf,aq jy (hP c r N to out)=af7 (R,out,0)/\Hy R c.ii.am to/\R.jp=Vw c to:=λc r N out nE le io=>by
  have ok:=nE.iG;have tr:=nE.lw;have ct: ∀e∈cE N (aeX c.ii.am),qy c.af.ce e:=λe he=>dW.2 (nE.cert.mem_iff.2 he)
  obtain⟨r2,N2,h1,h2⟩:=OW ok.dI rt dX;have ts:=T7 ok tr ct rt le io;obtain⟨e1,e2⟩:=h2.same ok.dI.2.2 ts;subst e1 e2;refine⟨⟨Vw c to,⟨r2,N2⟩⟩,au ?_,⟨⟨Gm ok rt dX le io,ts,nE.cert⟩,rfl,rfl⟩,rfl⟩;unfold jy hP;simp[Gl ok rt dX le io,I' ok rt dX le io,h1]
 intro d
 induction d with
 |zero=>
  intro c r N out k ht nE h12 hr hk ho le
  by_cases io:E4 c to
  ·obtain⟨x,c1,e1,Eh,hf,hn,N5,ph⟩:=xq (show aT c from nE.iG) (Gv nE) hr rt dX le io
   omega
  obtain⟨R,a1,a2,a3⟩:=done c r N out nE le io
  exact⟨R,out,k,a1,a2,by rw[a3];exact⟨hr.l,hr.n,hr.u⟩,by omega⟩
 |succ d ih=>
  intro c r N out k ht nE h12 hr hk ho le
  by_cases io:E4 c to
  ·obtain⟨x,c1,e1,Eh,hf,hn,N5,ph⟩:=xq (show aT c from nE.iG) (Gv nE) hr rt dX le io
   obtain⟨R,k2,s1,s2,s3,s4⟩:=Iw Eh Eh.dI (by rw[hf];exact h12) N5 (by omega);have ol:ba out [x]=af7 _:=bG (by rw[EQ];omega);have rU:jy (hP c r N to out)=af7 (.next (hP R.jp R.lw.lc R.lw.ls to (out++[x]))):=by unfold jy hP;simp[e1,s1,ol]
   rw[aQ rU];have e3:R.jp.ii.am=c.ii.am:=by rw[s2.dI,hf]
   obtain⟨S,o,k3,t1,t2,t3,t4⟩:=ih R.jp R.lw.lc R.lw.ls (out++[x]) k2 (by rw[e3,s2.ci];omega) s2.ok (by rw[e3];exact h12) s3 (by omega) (by rw[ab0,EQ];omega) (by rw[s2.ci,hn];exact io.late)
   grind
  obtain⟨R,a1,a2,a3⟩:=done c r N out nE le io
  exact⟨R,out,k,a1,a2,by rw[a3];exact⟨hr.l,hr.n,hr.u⟩,by omega⟩
theorem Ix{c:aH}(ok:aT c){f:List Pt}(aV:aR f)(h12:(aeX f)<=12){k:Nat}(hr:eR c 100 k)(hk:k+200<=999999):
 ∃(R:cC) (k2:Nat),gF c ⟨f⟩=af7 (R,0)/\Gu R f c.ci/\eR R.jp 100 k2/\k2<=k+190:=by
 obtain⟨oL,nd,_⟩:=xt (t:=c.ci) aV;have el:=pI (f:=f) (rN f c.ci) (aeX f);obtain⟨q,q1,q2,q3,k',q4,q5⟩:=uK ok aV oL nd (by omega) hr (by omega);have hh:=Jb aV ok.gZ ok.dP;refine⟨⟨q,rN f c.ci⟩,k',?_,Xv.hg aV (R:=(⟨q,rN f c.ci⟩,0)) ⟨rfl,rfl,q2⟩,q5,q4⟩;unfold gF
 grind
theorem Gw{k:cC}(ok:jo k): ∀x∈k.jp.af.ce,leads (bC k.jp.ii.am x.2.2) (bC k.jp.ii.am x.2.1) k.jp.ci:=λx hx=>
 (xt ok.iG.dI).2.2 _ (by have:=ok.cert.mem_iff.1 (ae1 hx);rw[ok.up];exact this)
theorem Rz{to:Int×Int}(rt:bo to)(dX:jb to): ∀(d:Nat) (c:aH) (U:List Int) (out:List _) (k:Nat),R9 c.ii.am c.ci<=d->jo ⟨c,U⟩->aeX c.ii.am<=12->eR c 100 k->k+190*d+200<=999999->aeX out+d<=1048000-> ¬gY to c.ci<0->
 ∃(R:cC) (o:List _) (k2:Nat),aq jz (gP c U to out)=af7 (R,o,0)/\Gu R c.ii.am to/\eR R.jp 100 k2/\k2<=k+190*d:=by
 have done: ∀(c:aH) (U:List Int) (out:List _),jo ⟨c,U⟩-> ¬gY to c.ci<0-> ¬E4 c to->
  ∃R:cC,aq jz (gP c U to out)=af7 (R,out,0)/\Gu R c.ii.am to/\R.jp=Vw c to:=λc U out nE le io=>by
  have ok:=nE.iG;have hu:=nE.up;have ct: ∀e∈gg c.ii.am (rN c.ii.am c.ci) (aeX c.ii.am),qy c.af.ce e:=λe he=>dW.2 (nE.cert.mem_iff.2 (by grind))
  have hh:=Jb ok.dI rt dX;have us:=(Uc ok ct rt le io).trans hu;rw[us]at hh;have hh2:=hh;refine⟨⟨Vw c to,U⟩,au ?_,⟨⟨Gm ok rt dX le io,us,nE.cert⟩,rfl,rfl⟩,rfl⟩;unfold jz gP;simp[Gl ok rt dX le io,I' ok rt dX le io,hh2]
 intro d
 induction d with
 |zero=>
  intro c U out k ht nE h12 hr hk ho le
  by_cases io:E4 c to
  ·obtain⟨x,c1,e1,Eh,hf,hn,N5,ph⟩:=xq (show aT c from nE.iG) (Gw nE) hr rt dX le io
   omega
  obtain⟨R,a1,a2,a3⟩:=done c U out nE le io
  exact⟨R,out,k,a1,a2,by rw[a3];exact⟨hr.l,hr.n,hr.u⟩,by omega⟩
 |succ d ih=>
  intro c U out k ht nE h12 hr hk ho le
  by_cases io:E4 c to
  ·obtain⟨x,c1,e1,Eh,hf,hn,N5,ph⟩:=xq (show aT c from nE.iG) (Gw nE) hr rt dX le io
   obtain⟨R,k2,s1,s2,s3,s4⟩:=Ix Eh Eh.dI (by rw[hf];exact h12) N5 (by omega);have ol:ba out [x]=af7 _:=bG (by rw[EQ];omega);have rU:jz (gP c U to out)=af7 (.next (gP R.jp R.up to (out++[x]))):=by unfold jz gP;simp[e1,s1,ol]
   rw[aQ rU];have e3:R.jp.ii.am=c.ii.am:=by rw[s2.dI,hf]
   obtain⟨S,o,k3,t1,t2,t3,t4⟩:=ih R.jp R.up (out++[x]) k2 (by rw[e3,s2.ci];omega) s2.ok (by rw[e3];exact h12) s3 (by omega) (by rw[ab0,EQ];omega) (by rw[s2.ci,hn];exact io.late)
   grind
  obtain⟨R,a1,a2,a3⟩:=done c U out nE le io
  exact⟨R,out,k,a1,a2,by rw[a3];exact⟨hr.l,hr.n,hr.u⟩,by omega⟩
theorem RA{k:cC}{F:List Pt}{t:Int×Int}(at_:Gu k F t)(h12:(aeX F)<=12){n:Nat}(hr:eR k.jp 100 n)(hn:n<=500000){to:Int×Int}(rt:bo to)(dX:jb to)(le: ¬gY to t<0):
 ∃(R:cC) (o:List _) (n2:Nat),s7 k to=af7 (R,o,0)/\Gu R F to/\eR R.jp 100 n2/\n2<=n+30000:=by
 obtain⟨ok,dI,ci⟩:=at_;subst dI ci;have c1:=og ok.iG.fit;rw[AC ok]at c1;have pb:=T6 (t:=k.jp.ci) h12;obtain⟨R,o,k2,r1,r2,r3,r4⟩:=Rz rt dX 144 k.jp k.up [] n pb ok h12 hr (by omega) (by simp) le;refine⟨R,o,k2,?_,r2,r3,by omega⟩;unfold s7;rw[c1,aj,bw rfl,ww,cZ dX,AC rt,aj,bw rfl,ww,CT dX ok.iG.dP,AC ⟨rt,ok.iG.gZ⟩,aj,aA le];exact r1
theorem RC{k:cf}{F:List Pt}{t:Int×Int}(at_:Hy k F t)(h12:(aeX F)<=12){n:Nat}(hr:eR k.jp 100 n)(hn:n<=500000){to:Int×Int}(rt:bo to)(dX:jb to)(le: ¬gY to t<0):
 ∃(R:cf) (o:List _) (n2:Nat),s6 k to=af7 (R,o,0)/\Hy R F to/\eR R.jp 100 n2/\n2<=n+30000:=by
 obtain⟨ok,dI,ci⟩:=at_;subst dI ci;have c1:=oe ok.iG.fit;rw[AC ok]at c1;have pb:=T6 (t:=k.jp.ci) h12;obtain⟨R,o,k2,r1,r2,r3,r4⟩:=Ry rt dX 144 k.jp k.lw.lc k.lw.ls [] n pb ok h12 hr (by omega) (by simp) le;refine⟨R,o,k2,?_,r2,r3,by omega⟩;unfold s6;rw[c1,aj,bw rfl,ww,cZ dX,AC rt,aj,bw rfl,ww,CT dX ok.iG.dP,AC ⟨rt,ok.iG.gZ⟩,aj,aA le];exact r1
def bu(p w:List Int)(i:Nat):Int:=if i<(aeX w)then w[i]! else p[i-(aeX w)]!
def k7(i j:Nat):Prop:= ∃d,(j+1) / 2^d=i+1
theorem k7.refl(i:Nat):k7 i i:=⟨0,by simp⟩
theorem rH{i k j:Nat}(hk:k=2*i+1\/k=2*i+2)(h:k7 k j):k7 i j:=by obtain⟨d,hd⟩:=h;refine⟨d+1,?_⟩;rw[aeS,<-abF,hd];omega
theorem Jc{a b c d:Nat}(h:a<=b)(hc:(c+1) / 2^a=d):(c+1) / 2^b=d / 2^(b-a):=by
 have:2^b=2^a*2^(b-a):=by rw[<-Nat.pow_add];congr 1;omega
 rw[this,<-abF,hc]
theorem RD{x e:Nat}(he:0<e):x / 2^e<=x / 2:=by obtain⟨k,rfl⟩: ∃k,e=k+1:=⟨e-1,by omega⟩;rw[show 2^(k+1)=2*2^k by omega,<-abF];exact aej _ _
theorem vV{i j:Nat}(h1:k7 (2*i+1) j)(h2:k7 (2*i+2) j):False:=by
 obtain⟨a,ha⟩:=h1;obtain⟨b,hb⟩:=h2;rcases UV a b with h|h|h
 ·have:=Jc (ad6 h) ha
  have:=RD (x:=2*i+1+1) (e:=b-a) (by omega);omega
 ·subst h;omega
 have:=Jc (ad6 h) hb
 have:=RD (x:=2*i+2+1) (e:=a-b) (by omega);omega
theorem aa5{i k j1 j2:Nat}(h1:k7 (2*i+1) j1)(h2:k7 (2*i+2) j2)(g:(k7 (2*k+1) j1/\k7 (2*k+2) j2)\/(k7 (2*k+1) j2/\k7 (2*k+2) j1)):i=k:=by
 have main: ∀{i k j1 j2:Nat},k7 (2*i+1) j1\/k7 (2*i+2) j1->k7 i j2->(k7 (2*k+1) j1/\k7 (2*k+2) j2)\/(k7 (2*k+1) j2/\k7 (2*k+2) j1)-> ∀a a':Nat,(j1+1) / 2^a=i+1->(j1+1) / 2^a'=k+1->a<a'->False:=by
  intro i k j1 j2 _ u2 g a a' ha LU iL;have e:=Jc (ad6 iL) ha;obtain⟨c,hc⟩: ∃c,a'-a=c+1:=⟨a'-a-1,by omega⟩;rw[hc,aeS,<-abF]at e;have q: ∃m,(i+1) / 2^c=m+1/\(m=2*k+1\/m=2*k+2):=⟨(i+1) / 2^c-1,by omega,by omega⟩;obtain⟨m,hm,hmk⟩:=q;have um: ∀j,k7 i j->k7 m j:=λj ⟨d,hd⟩=>⟨d+c,by rw[Jc (Nat.le_add_right d c) hd,show d+c-d=c by omega,hm]⟩
  have u1:k7 i j1:=⟨a,ha⟩;have v1:=um _ u1;have v2:=um _ u2;rcases hmk with rfl|rfl
  ·rcases g with g|g
   ·exact vV v2 g.2
   exact vV v1 g.2
  rcases g with g|g
  ·exact vV g.1 v1
  exact vV g.1 v2
 have i1:=rH (.inl rfl) h1;have i2:=rH (.inr rfl) h2;have k1:k7 k j1:=by rcases g with g|g;exact rH (.inl rfl) g.1;exact rH (.inr rfl) g.2
 have k2:k7 k j2:=by rcases g with g|g;exact rH (.inr rfl) g.2;exact rH (.inl rfl) g.1
 obtain⟨a,ha⟩:=i1;obtain⟨a',LU⟩:=k1;rcases UV a a' with h|h|h
 ·exact(main (.inl h1) i2 g a a' ha LU h).elim
 ·subst h;omega
 grind
def Db(p w:List Int):Prop:= ∀i,i<aeX w->w[i]! =bu p w (2*i+1)\/w[i]! =bu p w (2*i+2)
theorem BG{p w:List Int}(hl:(aeX w)+1=aeX p)(hc:Db p w): ∀(d i:Nat),aeX w+aeX p-i<=d->i<aeX w+aeX p-> ∃j,aeX w<=j/\j<aeX w+aeX p/\k7 i j/\p[j-(aeX w)]! =bu p w i:=by
 intro d
 induction d with
 |zero=>omega
 |succ d ih=>
  intro i h1 h2
  by_cases hi:i<aeX w
  ·rcases hc i hi with e|e
   ·obtain⟨j,j1,j2,j3,j4⟩:=ih (2*i+1) (by omega) (by omega)
    refine⟨j,j1,j2,rH (.inl rfl) j3,?_⟩;rw[j4,<-e];unfold bu;rw[AC hi]
   obtain⟨j,j1,j2,j3,j4⟩:=ih (2*i+2) (by omega) (by omega)
   refine⟨j,j1,j2,rH (.inr rfl) j3,?_⟩;rw[j4,<-e];unfold bu;rw[AC hi]
  refine⟨i,by omega,h2,.refl i,?_⟩
  unfold bu;rw[Do hi]
def D2(p:List Int):Prop:= ∀i j,i<j->j<aeX p->p[i]! =p[j]!->p[i]!<0
theorem D2.inj{p:List Int}(h:D2 p){i j:Nat}(hi:i<aeX p)(hj:j<aeX p)(e:p[i]! =p[j]!)(h0:0<=p[i]!):i=j:=by
 rcases UV i j with k|k|k
 ·have:=h i j k hj e;omega
 ·exact k
 have:=h j i k hi e.symm;omega
section
variable {p w : List Int} (hl : (aeX w) + 1 = (aeX p)) (hc : Db p w) (ho : D2 p)
include hl hc
theorem jq{i:Nat}(hi:i<aeX w+aeX p):bu p w i∈p:=by
 obtain⟨j,j1,j2,_,e⟩:=BG hl hc _ i (IR _) hi
 grind
include ho
theorem DW{i:Nat}(hi:i<aeX w)(h0:0<=bu p w (2*i+1)):bu p w (2*i+1)≠bu p w (2*i+2):=by
 intro e;obtain⟨j,j1,j2,j3,j4⟩:=BG hl hc _ (2*i+1) (IR _) (by omega);obtain⟨k,k1,k2,k3,k4⟩:=BG hl hc _ (2*i+2) (IR _) (by omega);have:=ho.inj (i:=j-(aeX w)) (j:=k-(aeX w)) (by omega) (by omega) (by rw[j4,k4,e]) (by rw[j4];exact h0)
 grind[vV]
theorem aa6{i k:Nat}(hi:i<aeX w)(hk:k<aeX w)(h1:0<=bu p w (2*i+1))(h2:0<=bu p w (2*i+2))
 (g:(bu p w (2*k+1)=bu p w (2*i+1)/\bu p w (2*k+2)=bu p w (2*i+2))\/(bu p w (2*k+1)=bu p w (2*i+2)/\bu p w (2*k+2)=bu p w (2*i+1))):i=k:=by
 obtain⟨j1,a1,a2,a3,a4⟩:=BG hl hc _ (2*i+1) (IR _) (by omega);obtain⟨j2,b1,b2,b3,b4⟩:=BG hl hc _ (2*i+2) (IR _) (by omega);obtain⟨l1,c1,c2,c3,c4⟩:=BG hl hc _ (2*k+1) (IR _) (by omega);obtain⟨l2,d1,d2,d3,d4⟩:=BG hl hc _ (2*k+2) (IR _) (by omega);have same: ∀{x y:Nat},aeX w<=x->x<aeX w+aeX p->aeX w<=y->y<aeX w+aeX p->p[x-(aeX w)]! =p[y-(aeX w)]!->0<=p[x-(aeX w)]!->x=y:=λ{x y} hx hx' hy hy' e h0=>by have:=ho.inj (by omega) (by omega) e h0;omega
 grind[aa5]
end
noncomputable def yk(f:List Pt)(t:Int×Int)(x y:Int):Int:=if x<0 then y else if y<0 then x else if leads (bC f x) (bC f y) t then x else y
theorem VE(f:List Pt)(t:Int×Int)(x y:Int):yk f t x y=x\/yk f t x y=y:=by unfold yk;omega
def Em(f:List Pt)(t:Int×Int)(p w:List Int):Prop:=aeX w+1=aeX p/\ ∀i,i<aeX w->w[i]! =yk f t (bu p w (2*i+1)) (bu p w (2*i+2))
theorem Em.qk{f:List Pt}{t:Int×Int}{p w:List Int}(h:Em f t p w):Db p w:=λi hi=>by rw[h.2 i hi];exact VE ..
noncomputable def Nl(f:List Pt)(t:Int×Int)(p:List Int):Nat->List Int->List Int
 |0,w=>w
 |i+1,w=>Nl f t p i (w.set i (yk f t (bu p w (2*i+1)) (bu p w (2*i+2))))
noncomputable def ez(f:List Pt)(t:Int×Int)(p:List Int):List Int:=Nl f t p (aeX p-1) (If (aeX p-1) 0)
theorem Nn{p w:List Int}{i k:Nat}{v:Int}(h:i≠k):bu p (w.set i v) k=bu p w k:=by
 unfold bu
 grind
theorem No{f:List Pt}{t:Int×Int}{p:List Int}: ∀(n:Nat) (w:List Int),n<=aeX w->(∀i,n<=i->i<aeX w->w[i]! =yk f t (bu p w (2*i+1)) (bu p w (2*i+2)))->
 (Nl f t p n w).length=aeX w/\ ∀i,i<aeX w->(Nl f t p n w)[i]! =yk f t (bu p (Nl f t p n w) (2*i+1)) (bu p (Nl f t p n w) (2*i+2))
 |0,w,_,h=>⟨rfl,λi hi=>h i (abq _) hi⟩
 |n+1,w,hn,h=>by
  have ih:=No n (w.set n (yk f t (bu p w (2*n+1)) (bu p w (2*n+2)))) (by grind) (λi h1 h2=>by
   rw[abw]at h2;rw[Nn (by omega),Nn (by omega),cw];split
   ·rename_i e;rw[e.1]
   grind)
  rw[abw]at ih;exact ih
theorem fh{f:List Pt}{t:Int×Int}{p:List Int}(hp:1<=aeX p):Em f t p (ez f t p):=by have:=No (f:=f) (t:=t) (p:=p) (aeX p-1) (If (aeX p-1) 0) (by simp) (λi h1 h2=>by grind);rw[aaQ]at this;have hl:(ez f t p).length=aeX p-1:=this.1;exact⟨by omega,λi hi=>this.2 i (by omega)⟩
theorem Np{f:List Pt}{t:Int×Int}{p w v:List Int}(h:Em f t p w)(g:Em f t p v):w=v:=by
 have hl:(aeX w)=(aeX v):=by have:=h.1;have:=g.1;omega
 have key: ∀(d i:Nat),aeX w-i<=d->i<aeX w->w[i]! =v[i]!:=by
  intro d
  induction d with
  |zero=>omega
  |succ d ih=>
   intro i _ hi;have nd: ∀k,i<k->bu p w k=bu p v k:=λk hk=>by
    unfold bu
    grind
   rw[h.2 i hi,g.2 i (by omega),nd _ (by omega),nd _ (by omega)]
 exact ny hl λi hi=>key _ i (IR _) hi
noncomputable def y6(p w:List Int)(i:Nat):Option (Int×Int):=
 if bu p w (2*i+1)<0\/bu p w (2*i+2)<0 then none
 else if w[i]! =bu p w (2*i+1)then af7 (bu p w (2*i+2),bu p w (2*i+1))else af7 (bu p w (2*i+1),bu p w (2*i+2))
noncomputable def k8(p w:List Int):List (Int×Int):=(List.range (aeX w)).filterMap (y6 p w)
theorem La(p w:List Int):(k8 p w).length<=(aeX w):=by
 have:=List.length_filterMap_le (y6 p w) (List.range (aeX w))
 rwa [List.length_range]at this
theorem E6{p w:List Int}{e:Int×Int}:e∈k8 p w↔ ∃i,i<aeX w/\y6 p w i=af7 e:=by unfold k8;simp
theorem BH{p w:List Int}{i:Nat}{e:Int×Int}(h:y6 p w i=af7 e):0<=bu p w (2*i+1)/\0<=bu p w (2*i+2)/\
 ((e=(bu p w (2*i+2),bu p w (2*i+1))/\w[i]! =bu p w (2*i+1))\/(e=(bu p w (2*i+1),bu p w (2*i+2))/\w[i]!≠bu p w (2*i+1))):=by
 unfold y6 at h
 grind
theorem BU{α β:Type}{g:α->Option β}: ∀{l:List α},l.Nodup->(∀x∈l,∀y∈l,∀b,g x=af7 b->g y=af7 b->x=y)->(l.filterMap g).Nodup
 | [],_,_=> .nil
 |a::r,h,hi=>by
  obtain⟨h1,h2⟩:=abx.1 h;have ih:=BU h2 (λx hx y hy b e1 e2=>hi x (NE _ hx) y (NE _ hy) b e1 e2)
  grind
theorem O9{p w:List Int}(hl:(aeX w)+1=aeX p)(hc:Db p w)(ho:D2 p):(k8 p w).Nodup:=by
 refine BU List.nodup_range λi hi k hk b e1 e2=>?_
 grind[BH,aa6]
theorem Xw{f:List Pt}(aV:aR f){p w:List Int}(hl:(aeX w)+1=aeX p)(hn:(aeX p)<=64)(hc:Db p w)(ho:D2 p)(hk: ∀x∈p,0<=x->dY f x):mM f (k8 p w):=by
 have hp: ∀e∈k8 p w,kr f e/\e.1≠e.2:=λe he=>by
  obtain⟨i,hi,h⟩:=E6.1 he;obtain⟨a1,a2,a3⟩:=BH h;have m1:=jq hl hc (i:=2*i+1) (by omega);have m2:=jq hl hc (i:=2*i+2) (by omega);have ne:=DW hl hc ho hi a1;rcases a3 with⟨rfl,_⟩|⟨rfl,_⟩
  ·exact⟨⟨hk _ m2 a2,hk _ m1 a1⟩,λh=>ne h.symm⟩
  exact⟨⟨hk _ m1 a1,hk _ m2 a2⟩,ne⟩
 refine⟨by have:=La p w;omega,λe he=>?_,λe he=>(hp e he).1⟩;obtain⟨⟨h1,h2⟩,ne⟩:=hp e he;obtain⟨⟨p1,p2⟩,q1,q2⟩:=ae0 (bK aV h1) (bK aV h2);unfold fM at p1 q1;unfold jB;omega
def HB(f:List Pt)(x:Int):Prop:=x= -1\/(0<=x/\dY f x)
theorem HB.has{f:List Pt}{x:Int}(h:HB f x)(h0:0<=x):dY f x:=by rcases h with h|h;omega;exact h.2
theorem HC{p w:List Int}{i:Nat}(hi:i<aeX w+aeX p)(hb:(aeX w)+aeX p<=1000):nP ⟨p,w⟩ (i:Int)=af7 (bu p w i):=by
 unfold nP bu;simp only[aK]
 by_cases h:i<aeX w
 ·simp_all[ar,]
 rw[aA (by omega),ww,fN ⟨by omega,by omega⟩,show(i:Int) - ((aeX w):Int)=((i-(aeX w):Nat):Int) by omega,ar p _ (by omega),aj,Do h]
theorem qG{p w:List Int}{i:Nat}(hi:i<aeX w+aeX p)(hb:(aeX w)+aeX p<=1000):iz ⟨p,w⟩ (i:Int)=af7 (bu p w i):=by
 unfold iz bu;have e:aa .i64 _=(i:Int) - ((aeX w):Int):=fN ⟨by omega,by omega⟩;simp only[aK,e]
 by_cases h:i<aeX w
 ·simp_all[aA,ar,]
 rw[az (by omega),v6,show(i:Int) - ((aeX w):Int)=((i-(aeX w):Nat):Int) by omega,ar p _ (by omega),aj,Do h]
theorem uN{i:Nat}(h:i<1000)(k:Nat)(hk:k<=2):aa .i64 ((aa .i64 (2*(i:Int)))+(k:Int))=((2*i+k:Nat):Int):=by
 grind[fN]
theorem O'{f:List Pt}(aV:aR f){t:Int×Int}(dX:jb t){x y:Int}(hx:HB f x)(hy:HB f y):DF ⟨f⟩ t x y=af7 (yk f t x y):=by
 unfold DF yk
 by_cases h1:x<0
 ·rw[az h1,v6,AC h1]
 rw[aA h1,ww,Do h1]
 by_cases h2:y<0
 ·rw[az h2,v6,AC h2]
 have p1:=hx.has (by omega);have p2:=hy.has (by omega);obtain⟨j,j1,j2,j3⟩:=zz aV p1;obtain⟨k,k1,k2,k3⟩:=zz aV p2;simp[j2,k2,ar f j j1,ar f k k1,j3,k3,CU (bK aV p1).1 (bK aV p2).1 dX]
 grind
theorem Lb:dH=aY:=rfl
theorem uO{f:List Pt}(aV:aR f){x:Int}(h:dY f x): ∃k,k<aeX f/\lR ⟨f⟩ x=af7 ((k:Int),afb)/\f[k]! =bC f x:=by have h1:=aV.1;have bs:=tj f x (by omega) (λi j=>fD aV.2.2);obtain⟨k,hk,he⟩:=h;refine⟨k,hk,?_,(iO aV.2.2 hk he).symm⟩;unfold lR;rw[Lb,bs.1 k hk he];rfl
theorem HD{f:List Pt}(aV:aR f){x:Int}(h: ¬dY f x): ∃m:Nat,lR ⟨f⟩ x=af7 ((m:Int),afd):=by have h1:=aV.1;have bs:=tj f x (by omega) (λi j=>fD aV.2.2);obtain⟨m,_,_,_,e⟩:=bs.2 (λk hk he=>h ⟨k,hk,he⟩);refine⟨m,?_⟩;unfold lR;rw[Lb,e];rfl
theorem Lc{f:List Pt}(aV:aR f){t:Int×Int}(r:bo t)(dX:jb t){x y:Int}(hx:HB f x)(hy:HB f y)(fo:0<=x->x≠y):vJ ⟨f⟩ t x y=af7 (yk f t x y):=by
 unfold vJ yk
 by_cases h1:x<0
 ·rw[az (by split<;>omega),v6,AC h1]
  have:x= -1:=by rcases hx with h|h;exact h;omega
  have: -1<=y:=by rcases hy with h|h<;>omega
  congr 1
  split<;>omega
 rw[Do h1]
 by_cases h2:y<0
 ·rw[az (by split<;>omega),v6,AC h2]
  congr 1
  split<;>omega
 rw[aA (by split<;>omega),ww,Do h2];have p1:=hx.has (by omega);have p2:=hy.has (by omega);obtain⟨j,j1,j2,j3⟩:=uO aV p1;obtain⟨k,k1,k2,k3⟩:=uO aV p2;obtain⟨a1,a2⟩:=bK aV p1;obtain⟨b1,b2⟩:=bK aV p2;simp[j2,k2,ar f j j1,ar f k k1,j3,k3];rcases lC a1 b1 dX r with h|⟨h,_⟩
 ·rw[h,aj]
  by_cases h:leads (bC f x) (bC f y) t
  ·rw[AC h];dsimp only;rw[az h,v6]
  rw[Do h];dsimp only;rw[aA h,ww]
 omega
def Au(B:List Int)(i:Nat):List Int:=If i 0++B.drop i
theorem DX{B:List Int}{i:Nat}(h:i<=aeX B):(Au B i).length=(aeX B):=by unfold Au;grind
theorem HE{B:List Int}{i k:Nat}(h:i<=k)(hi:i<=aeX B):(Au B i)[k]! =B[k]!:=by
 unfold Au
 grind
theorem Ld{p B:List Int}{i k:Nat}(h:i<=k)(hi:i<=aeX B):bu p (Au B i) k=bu p B k:=by
 unfold bu
 grind[DX,HE]
theorem Xx{B:List Int}{i:Nat}(h:i<aeX B):(Au B (i+1)).set i B[i]! =Au B i:=by
 refine ny (by grind[abw,DX]) λk hk=>?_
 rw[cw]
 by_cases e:k=i
 ·rw[AC ⟨e,by grind[DX]⟩,HE (by omega) (by omega),e]
 rw[Do (λx=>e x.1)]
 by_cases h2:k<i
 ·unfold Au
  rw[eE (by rw[aaQ];omega),eE (by rw[aaQ];omega)];rw[getElem!_pos _ k (by rw[aaQ];omega),getElem!_pos _ k (by rw[aaQ];omega),abU,abU]
 grind[HE]
section
variable {f : List Pt} (aV : aR f) {t : Int × Int} (r : bo t) (dX : jb t) {p : List Int} (h1 : 1 <= (aeX p)) (h64 : (aeX p) <= 64) (hk : ∀ x ∈ p, HB f x)
include aV dX h1 h64 hk
theorem VF{i:Nat}(hi:i<(ez f t p).length+aeX p):HB f (bu p (ez f t p) i):=by have:=aV;have:=dX;have:=h64;exact hk _ (jq (fh h1).1 (fh h1).qk hi)
include r
theorem Pa(ho:D2 p){i:Nat}(hi:i<(ez f t p).length):
 mY ((i:Int),f,t.1,t.2,p,Au (ez f t p) (i+1))=af7 (.next ((i:Int)-1,f,t.1,t.2,p,Au (ez f t p) i)):=by
 have R:=fh (f:=f) (t:=t) h1;have bl:=R.1;have pl:=DX (B:=ez f t p) (i:=i+1) (by omega);unfold mY;simp;have k1:=uN (i:=i) (by omega) 1 (by omega);have k2:=uN (i:=i) (by omega) 2 (by omega);rw[show aa .i64 (aa .i64 (2*(i:Int))+1)=((2*i+1:Nat):Int)from k1,show aa .i64 (aa .i64 (2*(i:Int))+2)=((2*i+2:Nat):Int)from k2];rw[qG (by omega) (by omega),aj,qG (by omega) (by omega),aj,Ld (by omega) (by omega),Ld (by omega) (by omega)];rw[Lc aV r dX (VF aV dX h1 h64 hk (by omega)) (VF aV dX h1 h64 hk (by omega)) (λh0=>DW R.1 R.qk ho hi h0),aj,ar _ i (by omega),aj,<-R.2 i hi];show af7 (Step.next (_,f,t.1,t.2,p,(Au (ez f t p) (i+1)).set i _))=_
 grind[Xx,fN]
theorem HF:zq ⟨f⟩ p=af7 afb:=by
 have:=r;have:=dX
 have st:=bz (body:=pR) (λi=>(p,((aeX p):Int),(i:Int),f)) (aeX p) (λi hi=>by
  have id:=hk _ (aE hi);unfold pR;simp (disch:=omega) only[az,v6,ar p i hi,aj,aM]
  by_cases h:dY f p[i]!
  ·obtain⟨k,_,e,_⟩:=uO aV h
   rw[e,aj,v6]
  obtain⟨m,e⟩:=HD aV h
  rw[e,aj,ww];rcases id with id|id
  ·rw[lZ id];rfl
  exact absurd id.2 h)
 refine(st).trans (au ?_);unfold pR;simp
def Lf(p:List Int):Nat->List (Int×Bool)
 |0=>mz [] (-1) afd
 |i+1=>mz (Lf p i) p[i]! (afe (0<=p[i]!))
omit aV r dX h1 h64 hk in
theorem Lg(p:List Int): ∀(i:Nat) (k:Int),j8 afd (Lf p i) k=afe (0<=k/\ ∃j,j<i/\p[j]! =k)
 |0,k=>by unfold Lf;rw[Gr];rw[decide_eq_false (λh=>by obtain⟨_,j,hj,_⟩:=h;omega)];split<;>rfl
 |i+1,k=>by
  unfold Lf;rw[Gr,Lg p i k]
  by_cases e:k=p[i]!
  ·rw[AC e]
   refine decide_eq_decide.2 ⟨λh=>⟨by omega,i,by omega,e.symm⟩,λh=>by omega⟩
  rw[Do e]
  refine decide_eq_decide.2 ⟨λ⟨h,j,hj,hx⟩=>⟨h,j,by omega,hx⟩,λ⟨h,j,hj,hx⟩=>⟨h,j,?_,hx⟩⟩;rcases ae7 j i with h2|h2
  ·exact h2
  obtain rfl:j=i:=by omega
  exact absurd hx.symm e
omit aV r dX h1 h64 hk in
theorem Xy{p:List Int}(ho:D2 p){i:Nat}(hi:i<aeX p):j8 afd (Lf p i) p[i]! =afd:=by
 rw[Lg];refine decide_eq_false λ⟨h0,j,hj,e⟩=>?_
 have:=ho j i hj hi e;omega
theorem Av(ho:D2 p):qq ⟨f⟩ t p=af7 (⟨p,ez f t p⟩,0):=by
 have R:=fh (f:=f) (t:=t) h1;have bl:=R.1;have w1:=vt (by omega) h1;have loop: ∀n:Nat,n<=(ez f t p).length->aq mY ((n:Int)-1,f,t.1,t.2,p,Au (ez f t p) n)=af7 (.done (⟨p,ez f t p⟩,0)):=by
  intro n
  induction n with
  |zero=>intro _;refine au ?_;rfl
  |succ n ih=>intro hn;have st:=Pa aV r dX h1 h64 hk ho (i:=n) (by omega);rw[show((n+1:Nat):Int)-1=(n:Int) by omega,aQ st];exact ih (by omega)
 have fc:cU ⟨f⟩=af7 0:=by rw[eW];exact congrArg af7 (dM.2 aV)
 unfold qq zp;simp (disch:=omega) only[fc,cZ dX,AC r,aK,aA,HF aV r dX h1 h64 hk,];have st:=bz (body:=pS 0 p) (λi=>(p,((aeX p):Int),(i:Int),f,t.1,t.2,Lf p i)) (aeX p) (λi hi=>by unfold pS;simp (disch:=omega) only[az,ar p i hi,aj,Xy ho hi,aM];rfl);refine(st).trans (au ?_);unfold pS;simp (disch:=omega) only[cM,aK,w1,Q0,];have:=loop _ (IR _);unfold Au at this
 grind[List.drop_length,fN]
end
end Go.Proofs.YtkdikjnhkfffjaaGreat
