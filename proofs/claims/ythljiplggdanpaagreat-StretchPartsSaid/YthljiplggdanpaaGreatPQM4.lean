/- Plain laws (4). -/
import Derived.Test.YthljiplggdanpaaGreatPQM3
import Derived.Test.YthljiplggdanpaaGreatPQS3
open List renaming replicate->EQ,length_singleton->If,mem_cons_of_mem->IR,length_map->WF,length_take->aa9,length_replicate->aaE,mem_cons_self->aaF,length_set->ab1,mem_map->ab3,mem_append->abb,nodup_cons->abc,length_append->abd,append_nil->abe,set_append_left->abh,mem_cons->abi,length_cons->abj,mem_singleton->abk,mem_of_mem_take->abo,mem_of_mem_drop->abu,pairwise_cons->abw,take_of_length_le->abz,getElem_replicate->abC,length_filter_le->abD,length_drop->abE,cons_ne_nil->abG,take_length->abJ,mem_erase_of_ne->acl,length_pos_iff->acm,nodup_nil->acr,nodup_append->ad1,length_eq_zero_iff->ad2,drop_of_length_le->ad3,map_append->ad4,take_append_drop->ad6,ne_nil_of_mem->adc,not_mem_nil->adW,getElem_map->adX,foldl_cons->ae5,mem_filter->ae8,take_take->aea,map->aef,length->aeP
open Nat renaming le_refl->NE,lt_trichotomy->PP,zero_le->ab4,le_trans->abg,div_div_eq_div_mul->abl,strongRecOn->abm,lt_or_ge->adh,le_of_lt->adV,succ_ne_zero->adY,min_eq_left->ae0,div_le_self->ae7,lt_irrefl->aez,add_zero->aeJ,pow_succ->aeL
open Classical renaming not_not->UV,byContradiction->abf,not_forall->abv,not_imp->aby,em->aeH
open Int renaming toNat_natCast->aba,ofNat->aco,tdiv_eq_ediv_of_nonneg->acp,le_of_lt->adU,mul_nonneg->aew,lt_irrefl->aeG
open Bool renaming not_true->abn,and_self->ad9,not_false->aec,true->aeS,false->aeT
open List.Perm renaming refl->abA,cons->aet
open And renaming intro->ad8
open Option.some renaming inj->ae3
open Prod renaming ext->ae9
open Iff renaming rfl->aeI
open Option renaming some->aeR
open Decidable renaming decide->aeU
namespace Go.Proofs.YthljiplggdanpaaGreat
open Go.Vm Classical
theorem K2 {f:List Pt} (bc:aT f) {l:List Int} (pm:(ed f).Perm l):ve f (eH l):=by
 have nd:=pm.nodup_iff.1 (eF bc.2.2);have f1:=bc.1;have ln:(aeP l)=(aeP f):=by rw [<- pm.length_eq];exact WF ..
 have hp: ∀e∈eH l,j7 f e:=fun e he=>⟨dz.1 (pm.mem_iff.2 (Hx he).1),dz.1 (pm.mem_iff.2 (Hx he).2)⟩
 refine ⟨by rw [lW];omega,fun e he=>?_,hp⟩;obtain ⟨⟨p1,p2⟩,q1,q2⟩:=ad8 (bT bc (hp e he).1) (bT bc (hp e he).2);have ne:=Rj nd he;unfold eZ at p1 q1;unfold jq;omega
def gg (l:List Int) (i j:Nat):List Int:=(l.set i l[j]!).set j l[i]!
theorem jr {l:List Int} {i j:Nat} (hi:i<aeP l) (hj:j<aeP l):(gg l i j).Perm l:=by
 unfold gg
 grind
theorem K3 (l:List Int) (hl:(aeP l)<=1000000):eN l l=aeR aeS:=by unfold eN;rw [aY rfl,ww];have:=bg (body:=iE) (fun i=>(l,l,(i:Int))) (aeP l) (fun i hi=>by unfold iE;simp only [aF,ay (show (i:Int)<((aeP l):Int) by omega),v6,ar l i hi,ai,aY rfl,ww,aM (show i<1000000000 by omega)]);rw [show (l,l,(0:Int))=(l,l,((0:Nat):Int)) from rfl,this];refine au ?_;unfold iE;simp
theorem M7 {k:bE} (sh:BJ k.kw) (hl:(aeP k.bv)<=1000000):ju k k=aeR aeS:=by unfold ju;rw [Bk sh,ai,v6,K3 _ hl,ai]
theorem Tx (k:bE):vw k=aeR aeS\/(vw k=aeR aeT/\BJ k.kw/\aeP k.bv<=70):=by
 unfold vw
 rcases yM k.kw with e|⟨e,sh⟩
 · rw [e];exact .inl rfl
 grind [ay,az]
theorem ON {i:Nat} (hi:i<1000000000) (h0:0<i):aa .i64 (Int.tdiv (aa .i64 ((i:Int) -1)) 2)=(((i-1) / 2:Nat):Int):=by
 grind [u7,acp,eD]
noncomputable def nv (f:List Pt) (t:Int×Int):Nat->List Int->List Int
 |0,l=>l
 |i+1,l=>if leads (bm f l[i+1]!) (bm f l[i / 2]!) t then nv f t (i / 2) (gg l (i+1) (i / 2)) else l
termination_by i=>i
decreasing_by omega
theorem Bn (f:List Pt) (t:Int×Int): ∀(i:Nat) (l:List Int),i<aeP l->(nv f t i l).Perm l:=by
 intro i
 induction i using abm with
 |ind i ih=>
  intro l hi;cases i with
  |zero=>unfold nv;rfl
  |succ i=>
   unfold nv;split
   · have sp:=jr hi (show i / 2<(aeP l) by omega)
     exact (ih (i / 2) (by omega) _ (by rw [sp.length_eq];omega)).trans sp
   rfl
theorem OO (p q:Pt) (t:Int×Int):Eh p q t=(p.2.1*t.2+p.2.2*t.1) - (q.2.1*t.2+q.2.2*t.1):=by
 grind [DL,Int.sub_mul]
theorem Ip {p q r:Pt} {t:Int×Int} (h1:leads p q t) (h2:leads q r t):leads p r t:=by
 unfold leads at*
 grind [OO]
theorem pq {p q:Pt} (t:Int×Int) (h:p.1≠q.1) (hn: ¬leads p q t):leads q p t:=by
 unfold leads at*
 grind [OO]
theorem fR (l:List Int) (i j:Nat):(gg l i j).length=(aeP l):=by unfold gg;simp
theorem Ty (l:List Int) {i j:Nat} (_:i<aeP l) (hj:j<aeP l):(gg l i j)[j]! =l[i]!:=by
 unfold gg
 grind
noncomputable def vL (f:List Pt) (t:Int×Int):Nat->List Int->Nat
 |0,_=>0
 |i+1,l=>if leads (bm f l[i+1]!) (bm f l[i / 2]!) t then vL f t (i / 2) (gg l (i+1) (i / 2)) else i+1
termination_by i=>i
decreasing_by omega
theorem K4 (f:List Pt) (t:Int×Int): ∀(i:Nat) (l:List Int),i<aeP l->vL f t i l<aeP l/\(nv f t i l)[vL f t i l]! =l[i]!:=by
 intro i
 induction i using abm with
 |ind i ih=>
  intro l hi;cases i with
  |zero=>unfold vL nv;omega
  |succ i=>
   unfold vL nv;split
   · have hj:i / 2<(aeP l):=by omega
     obtain ⟨h1,h2⟩:=ih (i / 2) (by omega) (gg l (i+1) (i / 2)) (by rw [fR];exact hj);rw [fR] at h1;exact ⟨h1,by rw [h2,Ty l hi hj]⟩
   omega
noncomputable def kS (f:List Pt) (t:Int×Int) (l:List Int) (i:Nat):Nat:=if 2*i+1<aeP l/\leads (bm f l[2*i+1]!) (bm f l[i]!) t then 2*i+1 else i
noncomputable def cT (f:List Pt) (t:Int×Int) (l:List Int) (i:Nat):Nat:=if 2*i+2<aeP l/\leads (bm f l[2*i+2]!) (bm f l[kS f t l i]!) t then 2*i+2 else kS f t l i
theorem px (f:List Pt) (t:Int×Int) (l:List Int) (i:Nat):kS f t l i=i\/(kS f t l i=2*i+1/\2*i+1<aeP l):=by unfold kS;grind
theorem pz (f:List Pt) (t:Int×Int) (l:List Int) (i:Nat):cT f t l i=i\/(i<cT f t l i/\cT f t l i<aeP l):=by unfold cT;grind [px]
noncomputable def wk (f:List Pt) (t:Int×Int) (l:List Int) (i:Nat):List Int:=
 if _h:i<cT f t l i/\cT f t l i<(aeP l) then wk f t (gg l i (cT f t l i)) (cT f t l i) else l
termination_by (aeP l)-i
decreasing_by rw [fR];omega
theorem qS {f:List Pt} {t:Int×Int} {l:List Int} {i:Nat} (h:cT f t l i=i):wk f t l i=l:=by unfold wk;grind
theorem Ac {f:List Pt} {t:Int×Int} {l:List Int} {i:Nat} (h:cT f t l i≠i):wk f t l i=wk f t (gg l i (cT f t l i)) (cT f t l i):=by
 have:=pz f t l i
 conv=>lhs;unfold wk
 grind
theorem K5 (f:List Pt) (t:Int×Int): ∀(d:Nat) (l:List Int) (i:Nat),aeP l-i<=d->i<aeP l->(wk f t l i).Perm l:=by
 intro d
 induction d with
 |zero=>omega
 |succ d ih=>
  intro l i h hi
  by_cases e:cT f t l i=i
  · rw [qS e]
  grind [pz,Ac,fR,jr]
structure SO (P:Int->Int->Prop) (S:Int->Prop):Prop where
 irr: ∀a,S a-> ¬P a a
 tr: ∀a b c,S a->S b->S c->P a b->P b c->P a c
 tot: ∀a b,S a->S b->a≠b->P a b\/P b a
abbrev par (j:Nat):Nat:=(j-1) / 2
def Hp (P:Int->Int->Prop) (l:List Int):Prop:= ∀j,0<j->j<aeP l-> ¬P l[j]! l[par j]!
section
variable {P : Int -> Int -> Prop} {S : Int -> Prop}
theorem SO.asym (o:SO P S) {a b:Int} (ha:S a) (hb:S b) (h:P a b): ¬P b a:=fun k=>o.irr a ha (o.tr a b a ha hb ha h k)
theorem SO.ntr (o:SO P S) {a b c:Int} (ha:S a) (hb:S b) (hc:S c) (h1: ¬P a b) (h2: ¬P b c): ¬P a c:=fun h=>by
 by_cases e:b=c
 · grind
 rcases o.tot b c hb hc e with k|k
 · exact h2 k
 exact h1 (o.tr a c b ha hc hb h k)
theorem SO.up (o:SO P S) {a b c:Int} (ha:S a) (hb:S b) (hc:S c) (h1:P b c) (h2: ¬P a c): ¬P a b:=fun h=>h2 (o.tr a b c ha hb hc h h1)
theorem pA (l:List Int) {i j:Nat} (hi:i<aeP l) (hj:j<aeP l) (k:Nat):(gg l i j)[k]! =if k=j then l[i]! else if k=i then l[j]! else l[k]!:=by
 unfold gg
 grind
structure U2 (P:Int->Int->Prop) (l:List Int) (i:Nat):Prop where
 lt:i<aeP l
 el: ∀j,0<j->j<aeP l->j≠i-> ¬P l[j]! l[par j]!
 gr: ∀j,0<j->j<aeP l->par j=i->0<i-> ¬P l[j]! l[par i]!
theorem M8 (o:SO P S) {f:List Pt} {t:Int×Int} (hP: ∀a b,P a b↔leads (bm f a) (bm f b) t): ∀(i:Nat) (l:List Int),(∀x∈l,S x)->U2 P l i->Hp P (nv f t i l):=by
 intro i
 induction i using abm with
 |ind i ih=>
  intro l hS v;have sm: ∀j,j<aeP l->S l[j]!:=fun j hj=>hS _ (aK hj)
  cases i with
  |zero=>unfold nv;exact fun j h1 h2=>v.el j h1 h2 (by omega)
  |succ i=>
   have hi:=v.lt;have hp:i / 2<(aeP l):=by omega
   have pe:par (i+1)=i / 2:=by rfl
   unfold nv;split
   · rename_i hc
     have hc:=(hP _ _).2 hc;refine ih _ (by omega) _ (fun x hx=>hS x ((jr hi hp).mem_iff.1 hx)) ⟨by rw [fR];exact hp,fun j h1 h2 h3=>?_,fun j h1 h2 h3 h4=>?_⟩
     · rw [fR] at h2
       rw [pA l hi hp,pA l hi hp,Do h3]
       by_cases a:j=i+1
       · subst a
         rw [AC rfl,pe,AC rfl];exact o.asym (sm _ hi) (sm _ hp) hc
       rw [Do a]
       by_cases b:par j=i / 2
       · rw [b,AC rfl]
         have:=v.el j h1 h2 a;rw [b] at this;exact o.up (sm _ h2) (sm _ hi) (sm _ hp) hc this
       rw [Do b]
       by_cases d:par j=i+1
       · rw [AC d]
         have:=v.gr j h1 h2 d (by omega)
         assumption
       rw [Do d];exact v.el j h1 h2 a
     rw [fR] at h2
     have hq:par (i / 2)<(aeP l):=by grind
     have ne1:par (i / 2)≠i / 2:=by grind
     have ne2:par (i / 2)≠i+1:=by grind
     rw [pA l hi hp,pA l hi hp,Do ne1,Do ne2,Do (by grind)];have gp:=v.el _ h4 hp (by omega)
     by_cases a:j=i+1
     · grind
     rw [Do a]
     have:=v.el j h1 h2 a;rw [h3] at this;exact o.ntr (sm _ h2) (sm _ hp) (sm _ hq) this gp
   rename_i hc
   intro j h1 h2
   by_cases a:j=i+1
   · grind
   exact v.el j h1 h2 a
structure adi (P:Int->Int->Prop) (l:List Int) (i:Nat):Prop where
 lt:i<aeP l
 el: ∀j,0<j->j<aeP l->par j≠i-> ¬P l[j]! l[par j]!
 gr: ∀j,0<j->j<aeP l->par j=i->0<i-> ¬P l[j]! l[par i]!
theorem Rk (o:SO P S) {f:List Pt} {t:Int×Int} (hP: ∀a b,P a b↔leads (bm f a) (bm f b) t) {l:List Int} (sm: ∀j,j<aeP l->S l[j]!) {i:Nat} (hi:i<aeP l):
 (cT f t l i=i\/P l[cT f t l i]! l[i]!)/\ ∀j,0<j->j<aeP l->par j=i-> ¬P l[j]! l[cT f t l i]!:=by
 have hA:(kS f t l i=i\/P l[kS f t l i]! l[i]!)/\(2*i+1<aeP l-> ¬P l[2*i+1]! l[kS f t l i]!)/\kS f t l i<(aeP l):=by
  unfold kS;split
  · rename_i h
    exact ⟨.inr ((hP _ _).2 h.2),fun _=>o.irr _ (sm _ h.1),h.1⟩
  rename_i h
  exact ⟨.inl rfl,fun hl c=>h ⟨hl,(hP _ _).1 c⟩,hi⟩
 obtain ⟨a1,a2,a3⟩:=hA;have ch: ∀j,0<j->par j=i->j=2*i+1\/j=2*i+2:=fun j h1 h2=>by simp [par] at h2;omega
 unfold cT;split
 · rename_i h
   have h2:=(hP _ _).2 h.2;refine ⟨.inr ?_,fun j h1 hl hp=>?_⟩
   · rcases a1 with e|e
     · rw [e] at h2;exact h2
     exact o.tr _ _ _ (sm _ h.1) (sm _ a3) (sm _ hi) h2 e
   rcases ch j h1 hp with rfl|rfl
   · exact o.ntr (sm _ hl) (sm _ a3) (sm _ h.1) (a2 hl) (o.asym (sm _ h.1) (sm _ a3) h2)
   exact o.irr _ (sm _ hl)
 grind
theorem WZ (o:SO P S) {f:List Pt} {t:Int×Int} (hP: ∀a b,P a b↔leads (bm f a) (bm f b) t): ∀(d:Nat) (l:List Int) (i:Nat),aeP l-i<=d->(∀x∈l,S x)->adi P l i->Hp P (wk f t l i):=by
 intro d
 induction d with
 |zero=>intro l i h _ v;have:=v.lt;omega
 |succ d ih=>
  intro l i h hS v;have sm: ∀j,j<aeP l->S l[j]!:=fun j hj=>hS _ (aK hj)
  have hi:=v.lt;obtain ⟨b1,b2⟩:=Rk o hP sm hi
  by_cases e:cT f t l i=i
  · rw [qS e]
    intro j h1 h2
    by_cases c:par j=i
    · grind
    exact v.el j h1 h2 c
  rw [Ac e]
  have kc:=pz f t l i;have ki:cT f t l i=2*i+1\/cT f t l i=2*i+2:=by
   have:=px f t l i;unfold cT at e ⊢
   grind
  have hb:cT f t l i<(aeP l):=by omega
  have pb:par (cT f t l i)=i:=by grind
  have K6:=b1.resolve_left e;generalize cT f t l i=b at*;refine ih _ b (by rw [fR];omega) (fun x hx=>hS x ((jr hi hb).mem_iff.1 hx)) ⟨by rw [fR];exact hb,fun j h1 h2 h3=>?_,fun j h1 h2 h3 h4=>?_⟩
  · rw [fR] at h2
    rw [pA l hi hb,pA l hi hb,Do h3]
    by_cases a:j=b
    · subst a
      rw [AC rfl,pb,AC rfl];exact o.asym (sm _ hb) (sm _ hi) K6
    rw [Do a]
    by_cases c:j=i
    · subst c
      rw [AC rfl,Do (by grind)];exact v.gr b (by omega) hb pb h1
    rw [Do c]
    by_cases g:par j=i
    · grind
    rw [Do g];exact v.el j h1 h2 g
  rw [fR] at h2
  have j1:j≠b:=by simp [par] at h3;omega
  have j2:j≠i:=by simp [par] at h3;omega
  rw [pA l hi hb,pA l hi hb,Do j1,Do j2,pb,Do (by omega),AC rfl];have:=v.el j h1 h2 (by omega)
  grind
theorem M9 {f:List Pt} {t:Int×Int} {l:List Int} {i:Nat} (h:0<i-> ¬leads (bm f l[i]!) (bm f l[par i]!) t):nv f t i l=l/\vL f t i l=i:=by
 cases i with
 |zero=>unfold nv vL;simp
 |succ i=>
  have pe:par (i+1)=i / 2:=by simp only [par];omega
  unfold nv vL
  grind
theorem M' (o:SO P S) {f:List Pt} {t:Int×Int} (hP: ∀a b,P a b↔leads (bm f a) (bm f b) t) {l:List Int} (sm: ∀j,j<aeP l->S l[j]!) (h:Hp P l) {i:Nat} (hi:i<aeP l):wk f t l i=l:=by
 refine qS ?_;rcases (Rk o hP sm hi).1 with e|e
 · exact e
 have kc:=pz f t l i
 have kA:=px f t l i;rcases aeH _ with q|q
 · exact q
 have pk:par (cT f t l i)=i:=by
  simp [par];unfold cT at q ⊢;split
  · omega
  rename_i hh;rw [Do hh] at q;omega
 have:=h (cT f t l i) (by omega) (by omega)
 grind
theorem Iq (o:SO P S) {f:List Pt} {t:Int×Int} (hP: ∀a b,P a b↔leads (bm f a) (bm f b) t) {l:List Int} (hS: ∀x∈l,S x) {a:Nat} (ha:a<aeP l)
 (h1: ∀j,0<j->j<aeP l->j≠a->par j≠a-> ¬P l[j]! l[par j]!) (h2: ∀j,0<j->j<aeP l->par j=a->0<a-> ¬P l[j]! l[par a]!):
 Hp P (wk f t (nv f t a l) (vL f t a l)):=by
 have sm: ∀j,j<aeP l->S l[j]!:=fun j hj=>hS _ (aK hj)
 by_cases c:0<a/\P l[a]! l[par a]!
 · have rv:U2 P l a:=⟨ha,fun j j1 j2 j3=>by
    by_cases e:par j=a
    · rw [e]
      exact o.up (sm _ j2) (sm _ ha) (sm _ (by simp [par];omega)) c.2 (h2 j j1 j2 e c.1)
    grind,h2⟩
   have hh:=M8 o hP a l hS rv;have pm:=Bn f t a l ha;have ri:=(K4 f t a l ha).1;rw [M' o hP (fun j hj=>hS _ (pm.mem_iff.1 (aK hj))) hh (by rw [pm.length_eq];exact ri)];exact hh
 have c':=fun h0 h=>c ⟨h0,(hP _ _).2 h⟩
 obtain ⟨e1,e2⟩:=M9 c';rw [e1,e2];refine WZ o hP _ l a (NE _) hS ⟨ha,fun j j1 j2 j3=>?_,h2⟩
 grind
end
theorem Gi {f:List Pt} (bc:aT f) (k:Nat):aT (f.eraseIdx k):=by
 refine ⟨abg (List.length_eraseIdx_le f k) bc.1,fun p hp=>bc.2.1 p (List.mem_of_mem_eraseIdx hp),?_⟩;have h:=bc.2.2;intro i hi
 by_cases hk:k<aeP f
 · have:=Ge hk
   rw [KO,KO];split<;>split<;>exact eO h (by omega) (by omega)
 rw [List.eraseIdx_of_length_le (by omega)] at hi ⊢
 exact h i hi
theorem Ir {f:List Pt} (bc:aT f) {k:Nat} (hk:k<aeP f):jT ⟨f⟩ (f[k]!).1=aeR ((k:Int),0):=by
 have h1:=bc.1;have hc:cY ⟨f⟩=aeR 0:=by rw [fq];exact congrArg aeR (gF.2 bc)
 have bs:=s8 f (f[k]!).1 (by omega) (fun i j=>eO bc.2.2);unfold jT kH;rw [DH]
 grind
theorem Em {f:List Pt} (bc:aT f) {id:Int} (h: ¬dO f id):jT ⟨f⟩ id=aeR (0,6):=by
 have h1:=bc.1;have hc:cY ⟨f⟩=aeR 0:=by rw [fq];exact congrArg aeR (gF.2 bc)
 have bs:=s8 f id (by omega) (fun i j=>eO bc.2.2);obtain ⟨m,_,_,_,e⟩:=bs.2 (fun k hk he=>h ⟨k,hk,he⟩);unfold jT kH;simp_all [DH,]
theorem OP:lQ=dp:=rfl
theorem Bo {f:List Pt} (bc:aT f) {k:Nat} (hk:k<aeP f):dL ⟨f⟩ (f[k]!).1=aeR (⟨f.eraseIdx k⟩,0):=by
 have f1:=bc.1
 obtain ⟨L,d1,d2⟩:=CX f k hk
 unfold dL;rw [Ir bc hk,ai,aY rfl,ww,cj (show (aeP f)<=1048576 by omega),ai,aM (show k<1000000000 by omega),OP,d1,ai]
 grind
theorem wW {f:List Pt} (bc:aT f) {id:Int} (h: ¬dO f id):dL ⟨f⟩ id=aeR (⟨[]⟩,6):=by
 unfold dL
 rw [Em bc h];rfl
def p6 (f:List Pt) (m:Nat) (p:Pt):List Pt:=f.take m++p::f.drop m
structure Na (f:List Pt) (p:Pt) (m:Nat):Prop where
 le:m<=aeP f
 lo: ∀i,i<m->(f[i]!).1<p.1
 hi: ∀i,m<=i->i<aeP f->p.1<(f[i]!).1
theorem Rl {f:List Pt} {m:Nat} (h:m<=aeP f) (p:Pt):(p6 f m p).length=aeP f+1:=by unfold p6;grind
theorem Nb {f:List Pt} {m:Nat} (h:m<=aeP f) (p:Pt) (i:Nat):(p6 f m p)[i]! =if i<m then f[i]! else if i=m then p else f[i-1]!:=by
 unfold p6
 grind
theorem I8 {f:List Pt} (bc:aT f) {p:Pt} (po:eZ p) {m:Nat} (h:Na f p m) (hl:(aeP f)<64):aT (p6 f m p):=by
 refine ⟨by rw [Rl h.le];omega,fun q hq=>?_,fun i hi=>?_⟩
 · rcases abb.1 hq with hq|hq
   · exact bc.2.1 q (abo hq)
   rcases abi.1 hq with rfl|hq
   · exact po
   exact bc.2.1 q (abu hq)
 rw [Rl h.le] at hi
 rw [Nb h.le,Nb h.le];rcases PP (i+1) m with c|c|c
 · rw [AC (by omega),AC c];exact eO bc.2.2 (by omega) (by have:=h.le;omega)
 · rw [AC (by omega),Do (by omega),AC c];exact h.lo i (by omega)
 rw [Do (show¬i+1<m by omega),Do (show¬i+1=m by omega),Nat.add_sub_cancel]
 by_cases d:i=m
 · rw [Do (by omega),AC d];exact h.hi i (by omega) (by omega)
 rw [Do (by omega),Do d];exact eO bc.2.2 (by omega) (by omega)
theorem Tz {f:List Pt} (bc:aT f) {p:Pt} (h: ¬dO f p.1): ∃m,Na f p m/\kH ⟨f⟩ p.1=aeR ((m:Int),aeT):=by have h1:=bc.1;obtain ⟨m,a,b,c,e⟩:=(s8 f p.1 (by omega) (fun i j=>eO bc.2.2)).2 (fun k hk he=>h ⟨k,hk,he⟩);refine ⟨m,⟨a,b,c⟩,?_⟩;unfold kH;rw [DH,e];rfl
theorem TA {f:List Pt} (bc:aT f) {id:Int} (h:dO f id): ∃k,k<aeP f/\(f[k]!).1=id/\kH ⟨f⟩ id=aeR ((k:Int),aeS):=by have h1:=bc.1;obtain ⟨k,hk,he⟩:=h;refine ⟨k,hk,he,?_⟩;unfold kH;rw [DH,(s8 f id (by omega) (fun i j=>eO bc.2.2)).1 k hk he];rfl
theorem tf {f:List Pt} (bc:aT f) (p:Pt):
 (∃e:Int,e≠0/\dY ⟨f⟩ p=aeR (⟨[]⟩,e))\/
 (∃m,Na f p m/\ ¬dO f p.1/\eZ p/\aeP f<64/\dY ⟨f⟩ p=aeR (⟨p6 f m p⟩,0)):=by
 have f1:=bc.1;have hc:cY ⟨f⟩=aeR 0:=by rw [fq];exact congrArg aeR (gF.2 bc)
 by_cases po:eZ p
 case neg=>
  refine .inl ⟨8,by decide,?_⟩
  unfold dY;rw [hc,ai,aY rfl,ww,gd,Do po];rfl
 by_cases hp:dO f p.1
 · obtain ⟨k,hk,he,e⟩:=TA bc hp
   refine .inl ⟨14,by decide,?_⟩
   unfold dY;simp_all [gd,]
 obtain ⟨m,hm,e⟩:=Tz bc hp
 by_cases full:(aeP f)=64
 · refine .inl ⟨18,by decide,?_⟩
   unfold dY;rw [hc,ai,aY rfl,ww,gd,AC po,ai,aY rfl,ww,e,ai,ww]
   grind
 have hl:(aeP f)<64:=by omega
 have hf:(aco (aeP f)==64)=aeT:=by grind
 refine .inr ⟨m,hm,hp,po,hl,?_⟩
 have hi:Dk f (m:Int) [p]=aeR (p6 f m p):=by
  unfold Dk;rw [AC ⟨by omega,by have:=hm.le;simpa using this,rfl,by omega⟩];simp [p6]
 unfold dY;rw [hc,ai,aY rfl,ww,gd,AC po,ai,aY rfl,ww,e,ai,ww,hf,ww,cj (show (aeP f)<=1048576 by omega),ai,hi,ai]
theorem OQ {f:List Pt} (bc:aT f) {p:Pt} (po:eZ p) {k:Nat} (hk:k<aeP f) (he:(f[k]!).1=p.1):aT (f.set k p):=by
 refine ⟨by rw [ab1];exact bc.1,fun q hq=>?_,fun i hi=>?_⟩
 · rcases List.mem_or_eq_of_mem_set hq with h|rfl
   · exact bc.2.1 q h
   exact po
 rw [ab1] at hi
 have h:=eO bc.2.2 (show i<i+1 by omega) hi
 grind
theorem oz {f:List Pt} (bc:aT f) (p:Pt):
 (∃e:Int,e≠0/\cd ⟨f⟩ p=aeR (⟨[]⟩,e))\/
 (∃k,k<aeP f/\(f[k]!).1=p.1/\eZ p/\cd ⟨f⟩ p=aeR (⟨f.set k p⟩,0)):=by
 have f1:=bc.1;have hc:cY ⟨f⟩=aeR 0:=by rw [fq];exact congrArg aeR (gF.2 bc)
 by_cases po:eZ p
 case neg=>
  refine .inl ⟨8,by decide,?_⟩
  unfold cd;rw [hc,ai,aY rfl,ww,gd,Do po];rfl
 by_cases hp:dO f p.1
 case neg=>
  refine .inl ⟨6,by decide,?_⟩
  unfold cd;rw [hc,ai,aY rfl,ww,gd,AC po,ai,aY rfl,ww,Em bc hp];rfl
 obtain ⟨k,hk,he⟩:=hp;have pl:=Ir bc hk;rw [he] at pl;refine .inr ⟨k,hk,he,po,?_⟩
 unfold cd
 rw [hc,ai,aY rfl,ww,gd,AC po,ai,aY rfl,ww,pl,ai,aY rfl,ww,cj (show (aeP f)<=1048576 by omega),ai,ar f k hk,ai,eE]
noncomputable def mB (f:List Pt) (es:List (Int×Int)):Int:=if¬(∀x∈es,jq x) then 8 else if¬es.Nodup then 14 else if¬(∀x∈es,j7 f x) then 6 else 0
def rP (c:aH) (f:List Pt) (es:List (Int×Int)) (i:Nat):=
 (es,es,((aeP es):Int),(i:Int),c.ii.1,c.ii.2,c.io.am,c.af.aU,c.af.ce,c.ae.aj.aC,c.ae.aj.be,c.ae.aj.bi,c.ae.bv,c.ae.aB,c.jp,f,(0:Int),(0:Int),(0:Int))
theorem xQ {c:aH} (ok:aQ c) {f:List Pt} (bc:aT f) {es:List (Int×Int)} (hl:(aeP es)<=1000) {r:aH×Int} (hr:mB f es=0->oY c ⟨f⟩ es=aeR r):
 fL c ⟨f⟩ es=aeR (if mB f es=0 then r else (cS,mB f es)):=by
 have bd:=ok.bd;have ab:=ok.oj.bd;have sl:=ok.oj.so.fl;have sn:=ok.oj.so.n2;have su:=ok.oj.so.ul;have el:aeU (((aeP es):Int)<((aeP es):Int))=aeT:=az (by omega);have hc:fj c=aeR 0:=by rw [ia ok.fit,AC ok]
 have hf:cY ⟨f⟩=aeR 0:=by rw [fq];exact congrArg aeR (gF.2 bc)
 have tw:xI (aH.mk (c.ii.1,c.ii.2) (Field.mk c.io.am) (bX.mk c.af.aU c.af.ce) (aV.mk (bD.mk c.ae.aj.aC c.ae.aj.be c.ae.aj.bi) c.ae.bv c.ae.aB) c.jp)=aeR c:=by unfold xI;simp (disch:=omega) only [cj,ai]
 have k3: ∀e2:aH×Int,aq fU (rP c f es 0)=aeR (.done e2)->aq hM (rP c f es 0)=aeR (if∀i,i<aeP es->jq es[i]! then e2 else (cS,8)):=by
  intro e2 h2;refine kQ (fun i=>rP c f es i) (aeP es) (fun i=>jq es[i]!) (fun i hi=>?_) ?_
  · have e1:aeU ((i:Int)<((aeP es):Int))=aeS:=ay (by omega)
    unfold hM rP jq;simp (disch:=omega) only [e1,ar es i hi,ai,aM];generalize es[i]! =x
    by_cases a1:x.1<0
    · rw [ay a1];exact ⟨fun _=>rfl,fun h=>by omega⟩
    rw [az a1]
    by_cases a2:x.2<0
    · rw [ay a2];exact ⟨fun _=>rfl,fun h=>by omega⟩
    rw [az a2]
    by_cases a3:65535<x.1
    · rw [ay a3];exact ⟨fun _=>rfl,fun h=>by omega⟩
    rw [az a3]
    by_cases a4:65535<x.2
    · rw [ay a4];exact ⟨fun _=>rfl,fun h=>by omega⟩
    rw [az a4]
    by_cases a5:x.1=x.2
    · rw [lL a5];exact ⟨fun _=>rfl,fun h=>absurd a5 h.2.2.2.2⟩
    rw [jm a5];exact ⟨fun h=>absurd ⟨by omega,by omega,by omega,by omega,a5⟩ h,fun _=>rfl⟩
  unfold hM rP
  simp [ww];exact h2
 have k2: ∀e1:aH×Int,aq iX (rP c f es 0)=aeR (.done (.done e1))->aq fU (rP c f es 0)=aeR (.done (if∀i,i<aeP es->es[i]!∉es.take i then e1 else (cS,14))):=by
  intro e0 h2;have:=kQ (body:=fU) (fun i=>rP c f es i) (aeP es) (fun i=>es[i]!∉es.take i) (fun i hi=>by
   have e1:aeU ((i:Int)<((aeP es):Int))=aeS:=ay (by omega);unfold fU rP;simp (disch:=omega) only [e1,v6,ar es i hi,pO,ai,jX _ _ (show (es.take i).length<=1000000 by rw [aa9];omega),aM]
   by_cases h:es[i]!∈es.take i
   · rw [ay h];exact ⟨fun _=>rfl,fun k=>absurd h k⟩
   · rw [az h];exact ⟨fun k=>absurd h k,fun _=>rfl⟩) (by
   unfold fU rP;simp [aF,el,ww];exact h2)
  refine this.trans ?_
  by_cases hb: ∀i,i<aeP es->es[i]!∉es.take i
  · rw [AC hb,AC hb]
  rw [Do hb,Do hb]
 have aay: ∀i,i<aeP es->(¬j7 f es[i]!->iX (rP c f es i)=aeR (.done (.done (.done (cS,6)))))/\(j7 f es[i]!->iX (rP c f es i)=aeR (.next (rP c f es (i+1)))):=by
  intro i hi;have e1:aeU ((i:Int)<((aeP es):Int))=aeS:=ay (by omega);obtain ⟨p,e,a1,a2⟩:=El bc (es[i]!).1;obtain ⟨q,g,b1,b2⟩:=El bc (es[i]!).2;unfold iX rP j7;simp (disch:=omega) only [e1,v6,ar es i hi,ai,a1,b1,aM]
  by_cases h1:dO f (es[i]!).1
  · rw [aY (a2.2 h1)]
    by_cases h2:dO f (es[i]!).2
    · rw [aY (b2.2 h2)]
      exact ⟨fun h=>absurd ⟨h1,h2⟩ h,fun _=>rfl⟩
    rw [db (fun h=>h2 (b2.1 h))]
    exact ⟨fun _=>rfl,fun h=>absurd h.2 h2⟩
  rw [db (fun h=>h1 (a2.1 h))]
  exact ⟨fun _=>rfl,fun h=>absurd h.1 h1⟩
 have start:fL c ⟨f⟩ es=aq hM (rP c f es 0):=by unfold fL;simp [hc,ai,show ((0:Int) !=0)=aeT from rfl,ww,hf];rfl
 rw [start]
 by_cases h1: ∀x∈es,jq x
 case neg=>
  have er:mB f es=8:=by unfold mB;rw [AC h1]
  rw [er,Do (by omega)];have:=dZ (body:=hM) (fun i=>rP c f es i) (aeP es) (fun i=> ¬jq es[i]!) (r:=(cS,8)) (e:=r);have k3':=k3;rw [CY] at h1;obtain ⟨i,h⟩:=abv.1 h1;obtain ⟨hi,hx⟩:=aby.1 h;obtain ⟨m,m1,m2,m3⟩:=least (c:=fun i=> ¬jq es[i]!) ⟨i,hi,hx⟩;have go: ∀j,j<aeP es->(¬jq es[j]!->hM (rP c f es j)=aeR (.done (cS,8)))/\(jq es[j]!->hM (rP c f es j)=aeR (.next (rP c f es (j+1)))):=by
   intro j hj;have e1:aeU ((j:Int)<((aeP es):Int))=aeS:=ay (by omega);unfold hM rP jq;simp (disch:=omega) only [e1,v6,ar es j hj,ai,aM];generalize es[j]! =x
   by_cases a1:x.1<0
   · rw [ay a1];exact ⟨fun _=>rfl,fun h=>by omega⟩
   rw [az a1]
   by_cases a2:x.2<0
   · rw [ay a2];exact ⟨fun _=>rfl,fun h=>by omega⟩
   rw [az a2]
   by_cases a3:65535<x.1
   · rw [ay a3];exact ⟨fun _=>rfl,fun h=>by omega⟩
   rw [az a3]
   by_cases a4:65535<x.2
   · rw [ay a4];exact ⟨fun _=>rfl,fun h=>by omega⟩
   rw [az a4]
   by_cases a5:x.1=x.2
   · rw [lL a5];exact ⟨fun _=>rfl,fun h=>absurd a5 h.2.2.2.2⟩
   rw [jm a5];exact ⟨fun h=>absurd ⟨by omega,by omega,by omega,by omega,a5⟩ h,fun _=>rfl⟩
  rw [bg (fun i=>rP c f es i) m fun j hj=>(go j (by omega)).2 (UV.1 (m3 j hj))];exact au ((go m m1).1 m2)
 have YR:=(CY).1 h1
 by_cases h2:es.Nodup
 case neg=>
  have er:mB f es=14:=by unfold mB;rw [Do (UV.2 h1),AC h2]
  rw [er,Do (by omega)];have h2':=h2;rw [KZ] at h2';obtain ⟨i,h⟩:=abv.1 h2';obtain ⟨hi,hx⟩:=aby.1 h;obtain ⟨m,m1,m2,m3⟩:=least (c:=fun i=> ¬es[i]!∉es.take i) ⟨i,hi,hx⟩;have go: ∀j,j<aeP es->(es[j]!∈es.take j->fU (rP c f es j)=aeR (.done (.done (cS,14))))/\(es[j]!∉es.take j->fU (rP c f es j)=aeR (.next (rP c f es (j+1)))):=by
   intro j hj;have e1:aeU ((j:Int)<((aeP es):Int))=aeS:=ay (by omega);unfold fU rP;simp (disch:=omega) only [e1,v6,ar es j hj,pO,ai,jX _ _ (show (es.take j).length<=1000000 by rw [aa9];omega),aM]
   by_cases h:es[j]!∈es.take j
   · rw [ay h];exact ⟨fun _=>rfl,fun k=>absurd h k⟩
   rw [az h];exact ⟨fun k=>absurd k h,fun _=>rfl⟩
  have l2:aq fU (rP c f es 0)=aeR (.done (cS,14)):=by rw [bg (fun i=>rP c f es i) m fun j hj=>(go j (by omega)).2 (UV.1 (m3 j hj))];exact au ((go m m1).1 (UV.1 m2))
  rw [k3 _ l2,AC YR]
 have h2':=KZ.1 h2
 by_cases h3: ∀x∈es,j7 f x
 case neg=>
  have er:mB f es=6:=by unfold mB;rw [Do (UV.2 h1),Do (UV.2 h2),AC h3]
  rw [er,Do (by omega)];have h3':=h3;rw [CY] at h3';obtain ⟨i,h⟩:=abv.1 h3';obtain ⟨hi,hx⟩:=aby.1 h;obtain ⟨m,m1,m2,m3⟩:=least (c:=fun i=> ¬j7 f es[i]!) ⟨i,hi,hx⟩;have l1:aq iX (rP c f es 0)=aeR (.done (.done (cS,6))):=by rw [bg (fun i=>rP c f es i) m fun j hj=>(aay j (by omega)).2 (UV.1 (m3 j hj))];exact au ((aay m m1).1 m2)
  rw [k3 _ (k2 _ l1),AC YR,AC h2']
 have h3':=(CY).1 h3;have er:mB f es=0:=by unfold mB;rw [Do (UV.2 h1),Do (UV.2 h2),Do (UV.2 h3)]
 rw [er,AC rfl];have l1:aq iX (rP c f es 0)=aeR (.done (.done r)):=by rw [bg (fun i=>rP c f es i) (aeP es) fun j hj=>(aay j hj).2 (h3' j hj)];refine au ?_;unfold iX rP;simp [el,ww,tw,ai,hr er]
 grind
theorem Ad {c:aH} (ok:aQ c) {f:List Pt} (bc:aT f) {es:List _} (xX:ve f es) (nd:es.Nodup) (el:(aeP es)<=1000):
 ∃R:aH×Int,fL c ⟨f⟩ es=aeR R/\(R.2=0/\BI c f es R.1\/R=(cS,18)):=by
 obtain ⟨R,r1,r3⟩:=OL ok bc xX;have ee:mB f es=0:=by unfold mB;rw [Do (UV.2 xX.cv),Do (UV.2 nd),Do (fun h=>h xX.kn)]
 simp_all [xQ,]
theorem Ae {l:List Int} {x:Int} (hl:(aeP l)<=1000000) (hx:x∈l): ∃k,k<aeP l/\l[k]! =x/\da l x=aeR (k:Int):=by
 obtain ⟨k,k1,k2,k3⟩:=least (aS.1 hx)
 grind [Gh]
theorem C0 (l:List Int) (hl:(aeP l)<=1000):yE l=aeR (eH l):=by
 have n:aa .i64 (((aeP l):Int) - (if ((aeP l):Int)<1 then ((aeP l):Int) else 1))=((aeP l-1:Nat):Int):=by
  split
  · rw [eD ⟨by omega,by omega⟩];omega
  rw [eD ⟨by omega,by omega⟩];omega
 have key:=bg (body:=o6) (fun i=>(l,((aeP l-1:Nat):Int),(i:Int),xP l i)) (aeP l-1) (fun i hi=>by
  have e:aa .i64 (Int.tdiv (i:Int) 2)=((i / 2:Nat):Int):=by rw [acp (by omega),eD ⟨by omega,by omega⟩];omega
  unfold o6;simp only [ay (show (i:Int)<((aeP l-1:Nat):Int) by omega),v6,aM (show i<1000000000 by omega),ar l (i+1) (by omega),e,ar l (i / 2) (by omega),ai];rw [bA (by rw [lW,If];omega),ai,<- Io])
 unfold yE;simp [aF,n];rw [show aq o6 (l,((aeP l-1:Nat):Int),0,[])=_ from key];refine au ?_;unfold o6;simp
theorem E3 {f:List Pt} (bc:aT f) {t:Int×Int} (r:bu t) (eR:jb t) {a b:Int} (ha:dO f a) (hb:dO f b) (fy:a≠b):cP (bm f a) (bm f b) t=aeR (aeU (leads (bm f a) (bm f b) t),0):=by
 obtain ⟨p1,p2⟩:=bT bc ha;obtain ⟨q1,q2⟩:=bT bc hb;have ne:(bm f a).1≠(bm f b).1:=by rw [p2,q2];exact fy
 rcases nY p1 q1 eR r with h|⟨h,_⟩
 · rw [h,Do ne]
 omega
def tS (k:bE) (f:List Pt) (m n0 i:Nat) (L:List Int):=
 ((i:Int),k.kw.ii.1,k.kw.ii.2,k.kw.io.am,k.kw.af.aU,k.kw.af.ce,k.kw.ae.aj.aC,k.kw.ae.aj.be,k.kw.ae.aj.bi,k.kw.ae.bv,k.kw.ae.aB,k.kw.jp,k.bv,(0:Int),(0:Int),(0:Int),f,L,f,k.kw.ii.1,k.kw.ii.2,m,n0)
def tJ (k:bE) (f:List Pt) (m n0 i:Nat) (L:List Int) (p q:Pt):=
 ((i:Int),k.kw.ii.1,k.kw.ii.2,k.kw.io.am,k.kw.af.aU,k.kw.af.ce,k.kw.ae.aj.aC,k.kw.ae.aj.be,k.kw.ae.aj.bi,k.kw.ae.bv,k.kw.ae.aB,k.kw.jp,k.bv,(0:Int),(0:Int),(0:Int),f,L,f,k.kw.ii.1,k.kw.ii.2,m,n0,p.1,p.2.1,p.2.2,q)
structure p7 (k:bE) (f:List Pt):Prop where
 fw:aQ k.kw
 bc:aT f
structure k9 (f:List Pt) (m:Nat) (l:List Int):Prop where
 len:(aeP l)=m
 small:m<=100
 hp: ∀x∈l,dO f x
 nd:l.Nodup
theorem tk {l:List Int} {m:Nat} {x:Int} (h:(aeP l)=m):(l++[x]).take m=l:=by grind
section
variable {k : bE} {f : List Pt} {m n0 : Nat} {x : Int}
theorem U3 (ok:p7 k f) {c0:_} {c1:List Int} {l:List Int} (hl:k9 f m l) {i b j:Nat} (hi:i<m) (hb:b<m) (hj:j<m) (h2:j<=2*i+2) (fy:j≠b):
 lS c0 c1 ((i:Int),(b:Int),(j:Int),(tS k f m n0 i (l++[x])).2)=aeR (.next ((i:Int),((if leads (bm f l[j]!) (bm f l[b]!) k.kw.ii then j else b:Nat):Int),((j+1:Nat):Int),(tS k f m n0 i (l++[x])).2)):=by
 have hm:=hl.len;have m1:=hl.small;have e:aa .i64 (aa .i64 (2*(i:Int))+2)=((2*i+2:Nat):Int):=by rw [show aa .i64 _=2*(i:Int) from eD ⟨by omega,by omega⟩,eD ⟨by omega,by omega⟩];omega
 have pj:=hl.hp _ (aK (show j<(aeP l) by omega));have pb:=hl.hp _ (aK (show b<(aeP l) by omega));have ne:l[j]!≠l[b]!:=fun h=>by
  rcases PP j b with q|q|q
  · exact bI.1 hl.nd _ _ q (by omega) h
  · exact fy q
  exact bI.1 hl.nd _ _ q (by omega) h.symm
 have a:=E3 ok.bc ok.fw.hZ ok.fw.dw pj pb ne;unfold lS tS;simp (disch:=omega) only [tk hm,ar,ai,bZ ok.bc pj,bZ ok.bc pb,aM]
 grind
theorem ahc {c1:List Int} (hc:(aeP c1)=m+1) {L0:List Int} (h0:(aeP L0)=m+1) {n1 i0:Nat} {l:List Int} (hl:k9 f m l) {i b j:Nat} (hi:i<m) (hb:b<m) (he: ¬(j<=2*i+2/\j<m)):
 lS (tS k f m n1 i0 L0) c1 ((i:Int),(b:Int),(j:Int),(tS k f m n0 i (l++[x])).2)=if b=i then (bo k.kw ⟨f⟩ l).bind fun a=>aeR (.done (.done (.done a))) else aeR (.done (.next (tS k f m n0 b (gg l i b++[x])))):=by
 have hm:=hl.len;have m1:=hl.small;have e:aa .i64 (aa .i64 (2*(i:Int))+2)=((2*i+2:Nat):Int):=by
  grind [eD]
 have ec:(aa .i64 (((aeP c1):Int) -1)).toNat=m:=by grind [eD]
 have lx:(l++[x]).length=(aeP L0):=by grind
 have sa:(l++[x]).set i l[b]! =l.set i l[b]!++[x]:=abh _ _ (by omega);have sb:(l.set i l[b]!++[x]).set b l[i]! =gg l i b++[x]:=abh _ _ (by grind);have t1:(l.set i l[b]!++[x]).take m=l.set i l[b]!:=tk (by grind);have g1:=ar (l.set i l[b]!) b (by grind);have DT:(aH.mk (k.kw.ii.1,k.kw.ii.2) (Field.mk k.kw.io.am) (bX.mk k.kw.af.aU k.kw.af.ce) (aV.mk (bD.mk k.kw.ae.aj.aC k.kw.ae.aj.be k.kw.ae.aj.bi) k.kw.ae.bv k.kw.ae.aB) k.kw.jp)=k.kw:=rfl;unfold lS tS
 by_cases h1:j<=2*i+2
 · have h2:=fun h=>he ⟨h1,h⟩
   simp (disch:=omega) only [tk hm,ar,eE,DT]
   grind
 simp (disch:=omega) only [tk hm,ar,eE,DT]
 grind
theorem alU (ok:p7 k f) {c1:List Int} (hc:(aeP c1)=m+1) {L0:List Int} (h0:(aeP L0)=m+1) {n1 i0:Nat} {l:List Int} (hl:k9 f m l) {i:Nat} (hi:i<m) {R:List Int->bE×Int} (hR:bo k.kw ⟨f⟩ l=aeR (R l)):
 aq (lS (tS k f m n1 i0 L0) c1) ((i:Int),(i:Int),((2*i+1:Nat):Int),(tS k f m n0 i (l++[x])).2)=aeR (if cT f k.kw.ii l i=i then .done (.done (R l)) else .next (tS k f m n0 (cT f k.kw.ii l i) (gg l i (cT f k.kw.ii l i)++[x]))):=by
 have hm:=hl.len;have fin: ∀b j:Nat,b<m-> ¬(j<=2*i+2/\j<m)->cT f k.kw.ii l i=b->aq (lS (tS k f m n1 i0 L0) c1) ((i:Int),(b:Int),(j:Int),(tS k f m n0 i (l++[x])).2)=aeR (if cT f k.kw.ii l i=i then .done (.done (R l)) else .next (tS k f m n0 (cT f k.kw.ii l i) (gg l i (cT f k.kw.ii l i)++[x]))):=by
  intro b j hb he hk;rw [hk];have:=ahc (k:=k) (n0:=n0) (x:=x) hc h0 (n1:=n1) (i0:=i0) hl hi hb he
  by_cases K6:b=i
  · rw [AC K6,hR,ai] at this
    rw [AC K6];exact au this
  rw [Do K6] at this
  rw [Do K6];exact au this
 have kA:kS f k.kw.ii l i<m:=by rcases px f k.kw.ii l i with h|⟨h,h2⟩<;>omega
 by_cases h1:2*i+1<m
 case neg=>
  have e1:kS f k.kw.ii l i=i:=by unfold kS;rw [Do (fun h=>h1 (by omega))]
  have e2:cT f k.kw.ii l i=i:=by unfold cT;rw [Do (fun h=>h1 (by omega)),e1]
  exact fin i _ hi (fun h=>h1 h.2) e2
 rw [aJ (U3 ok hl hi hi h1 (by omega) (by omega))];have eA:(if leads (bm f l[2*i+1]!) (bm f l[i]!) k.kw.ii then 2*i+1 else i)=kS f k.kw.ii l i:=by
  unfold kS
  by_cases c:leads (bm f l[2*i+1]!) (bm f l[i]!) k.kw.ii
  · rw [AC c,AC ⟨by omega,c⟩]
  rw [Do c,Do (fun h=>c h.2)]
 rw [eA]
 by_cases h2:2*i+1+1<m
 case neg=>
  have e2:cT f k.kw.ii l i=kS f k.kw.ii l i:=by unfold cT;rw [Do (fun h=>h2 (by omega))]
  exact fin _ _ kA (fun h=>h2 h.2) e2
 have nk:2*i+1+1≠kS f k.kw.ii l i:=by rcases px f k.kw.ii l i with h|⟨h,_⟩<;>omega
 rw [aJ (U3 ok hl hi kA h2 (by omega) nk)];have eG:(if leads (bm f l[2*i+1+1]!) (bm f l[kS f k.kw.ii l i]!) k.kw.ii then 2*i+1+1 else kS f k.kw.ii l i)=cT f k.kw.ii l i:=by
  unfold cT
  by_cases c:leads (bm f l[2*i+1+1]!) (bm f l[kS f k.kw.ii l i]!) k.kw.ii
  · rw [AC c,AC ⟨by omega,c⟩]
  rw [Do c,Do (fun h=>c h.2)]
 grind
theorem U4 (ok:p7 k f) {c0:_} {c1:List Int} {l:List Int} (hl:k9 f m l) {i b j:Nat} (hi:i<m) (hb:b<m) (hj:j<m) (h2:j<=2*i+2) (fy:j≠b) {p q:Pt}:
 lR c0 c1 ((i:Int),(b:Int),(j:Int),(tJ k f m n0 i (l++[x]) p q).2)=aeR (.next ((i:Int),((if leads (bm f l[j]!) (bm f l[b]!) k.kw.ii then j else b:Nat):Int),((j+1:Nat):Int),(tJ k f m n0 i (l++[x]) p q).2)):=by
 have hm:=hl.len;have m1:=hl.small;have e:aa .i64 (aa .i64 (2*(i:Int))+2)=((2*i+2:Nat):Int):=by rw [show aa .i64 _=2*(i:Int) from eD ⟨by omega,by omega⟩,eD ⟨by omega,by omega⟩];omega
 have pj:=hl.hp _ (aK (show j<(aeP l) by omega));have pb:=hl.hp _ (aK (show b<(aeP l) by omega));have ne:l[j]!≠l[b]!:=fun h=>by
  rcases PP j b with q|q|q
  · exact bI.1 hl.nd _ _ q (by omega) h
  · exact fy q
  exact bI.1 hl.nd _ _ q (by omega) h.symm
 have a:=E3 ok.bc ok.fw.hZ ok.fw.dw pj pb ne;unfold lR tJ;simp (disch:=omega) only [tk hm,ar,ai,bZ ok.bc pj,bZ ok.bc pb,aM]
 grind
theorem ahd {c1:List Int} (hc:(aeP c1)=m+1) {L0:List Int} (h0:(aeP L0)=m+1) {n1 i0:Nat} {l:List Int} (hl:k9 f m l) {i b j:Nat} (hi:i<m) (hb:b<m) (he: ¬(j<=2*i+2/\j<m)) {p q:Pt}:
 lR (tS k f m n1 i0 L0) c1 ((i:Int),(b:Int),(j:Int),(tJ k f m n0 i (l++[x]) p q).2)=if b=i then (bo k.kw ⟨f⟩ l).bind fun a=>aeR (.done (.done (.done a))) else aeR (.done (.next (tJ k f m n0 b (gg l i b++[x]) p q))):=by
 have hm:=hl.len;have m1:=hl.small;have e:aa .i64 (aa .i64 (2*(i:Int))+2)=((2*i+2:Nat):Int):=by
  grind [eD]
 have ec:(aa .i64 (((aeP c1):Int) -1)).toNat=m:=by grind [eD]
 have sb:(l.set i l[b]!++[x]).set b l[i]! =gg l i b++[x]:=abh _ _ (by grind);have g1:=ar (l.set i l[b]!) b (by grind);have DT:(aH.mk (k.kw.ii.1,k.kw.ii.2) (Field.mk k.kw.io.am) (bX.mk k.kw.af.aU k.kw.af.ce) (aV.mk (bD.mk k.kw.ae.aj.aC k.kw.ae.aj.be k.kw.ae.aj.bi) k.kw.ae.bv k.kw.ae.aB) k.kw.jp)=k.kw:=rfl;unfold lR tS tJ
 by_cases h1:j<=2*i+2
 · have h2:=fun h=>he ⟨h1,h⟩
   simp (disch:=omega) only [tk hm,ar,eE,DT]
   grind
 simp (disch:=omega) only [tk hm,ar,eE,DT]
 grind
theorem alV (ok:p7 k f) {c1:List Int} (hc:(aeP c1)=m+1) {L0:List Int} (h0:(aeP L0)=m+1) {n1 i0:Nat} {l:List Int} (hl:k9 f m l) {i:Nat} (hi:i<m) {p q:Pt} {R:List Int->bE×Int} (hR:bo k.kw ⟨f⟩ l=aeR (R l)):
 aq (lR (tS k f m n1 i0 L0) c1) ((i:Int),(i:Int),((2*i+1:Nat):Int),(tJ k f m n0 i (l++[x]) p q).2)=aeR (if cT f k.kw.ii l i=i then .done (.done (R l)) else .next (tJ k f m n0 (cT f k.kw.ii l i) (gg l i (cT f k.kw.ii l i)++[x]) p q)):=by
 have hm:=hl.len;have fin: ∀b j:Nat,b<m-> ¬(j<=2*i+2/\j<m)->cT f k.kw.ii l i=b->aq (lR (tS k f m n1 i0 L0) c1) ((i:Int),(b:Int),(j:Int),(tJ k f m n0 i (l++[x]) p q).2)=aeR (if cT f k.kw.ii l i=i then .done (.done (R l)) else .next (tJ k f m n0 (cT f k.kw.ii l i) (gg l i (cT f k.kw.ii l i)++[x]) p q)):=by
  intro b j hb he hk;rw [hk];have:=ahd (k:=k) (n0:=n0) (x:=x) hc h0 (n1:=n1) (i0:=i0) hl hi hb he (p:=p) (q:=q)
  by_cases K6:b=i
  · rw [AC K6,hR,ai] at this
    rw [AC K6];exact au this
  simp_all [au]
 have kA:kS f k.kw.ii l i<m:=by rcases px f k.kw.ii l i with h|⟨h,h2⟩<;>omega
 by_cases h1:2*i+1<m
 case neg=>
  have e1:kS f k.kw.ii l i=i:=by unfold kS;rw [Do (fun h=>h1 (by omega))]
  have e2:cT f k.kw.ii l i=i:=by unfold cT;rw [Do (fun h=>h1 (by omega)),e1]
  grind
 rw [aJ (U4 ok hl hi hi h1 (by omega) (by omega))];have eA:(if leads (bm f l[2*i+1]!) (bm f l[i]!) k.kw.ii then 2*i+1 else i)=kS f k.kw.ii l i:=by
  unfold kS
  grind
 rw [eA]
 by_cases h2:2*i+1+1<m
 case neg=>
  have e2:cT f k.kw.ii l i=kS f k.kw.ii l i:=by unfold cT;rw [Do (fun h=>h2 (by omega))]
  grind
 have nk:2*i+1+1≠kS f k.kw.ii l i:=by grind
 rw [aJ (U4 ok hl hi kA h2 (by omega) nk)];have eG:(if leads (bm f l[2*i+1+1]!) (bm f l[kS f k.kw.ii l i]!) k.kw.ii then 2*i+1+1 else kS f k.kw.ii l i)=cT f k.kw.ii l i:=by
  unfold cT
  grind
 rw [eG];exact fin _ (2*i+1+1+1) (by grind) (fun h=>by omega) rfl
theorem alW (ok:p7 k f) {c1:List Int} (hc:(aeP c1)=m+1) {L0:List Int} (h0:(aeP L0)=m+1) {n1 i0:Nat} {R:List Int->bE×Int} {l0:List Int} (hR: ∀l:List Int,l.Perm l0->bo k.kw ⟨f⟩ l=aeR (R l)):
 ∀(d:Nat) (l:List Int) (i:Nat),m-i<=d->i<m->k9 f m l->l.Perm l0->aq (u4 (tS k f m n1 i0 L0) c1) (tS k f m n0 i (l++[x]))=aeR (.done (R (wk f k.kw.ii l i))):=by
 intro d
 induction d with
 |zero=>omega
 |succ d ih=>
  intro l i h hi hl pm;have hm:=hl.len;have m1:=hl.small;have e:aa .i64 (aa .i64 (2*(i:Int))+1)=((2*i+1:Nat):Int):=by
   grind [eD]
  have g:=alU (n0:=n0) (x:=x) ok hc h0 (n1:=n1) (i0:=i0) hl hi (hR l pm);have st:u4 (tS k f m n1 i0 L0) c1 (tS k f m n0 i (l++[x]))=aeR (if cT f k.kw.ii l i=i then .done (.done (R l)) else .next (tS k f m n0 (cT f k.kw.ii l i) (gg l i (cT f k.kw.ii l i)++[x]))):=by unfold u4;rw [show (tS k f m n0 i _).1=(i:Int) from rfl,e];exact g
  by_cases hk:cT f k.kw.ii l i=i
  · simp_all [qS,au]
  rw [Do hk] at st
  have kc:=pz f k.kw.ii l i;have sp:=jr (l:=l) (i:=i) (j:=cT f k.kw.ii l i) (by omega) (by omega);rw [aJ st,Ac hk];exact ih _ _ (by omega) (by omega) ⟨by rw [fR];exact hm,hl.small,fun y hy=>hl.hp y (sp.mem_iff.1 hy),sp.nodup_iff.2 hl.nd⟩ (sp.trans pm)
theorem alX (ok:p7 k f) {c1:List Int} (hc:(aeP c1)=m+1) {L0:List Int} (h0:(aeP L0)=m+1) {n1 i0:Nat} {p q:Pt} {R:List Int->bE×Int} {l0:List Int} (hR: ∀l:List Int,l.Perm l0->bo k.kw ⟨f⟩ l=aeR (R l)):
 ∀(d:Nat) (l:List Int) (i:Nat),m-i<=d->i<m->k9 f m l->l.Perm l0->aq (u0 (tS k f m n1 i0 L0) c1) (tJ k f m n0 i (l++[x]) p q)=aeR (.done (R (wk f k.kw.ii l i))):=by
 intro d
 induction d with
 |zero=>omega
 |succ d ih=>
  intro l i h hi hl pm;have hm:=hl.len;have m1:=hl.small;have e:aa .i64 (aa .i64 (2*(i:Int))+1)=((2*i+1:Nat):Int):=by
   grind [eD]
  have g:=alV (n0:=n0) (x:=x) ok hc h0 (n1:=n1) (i0:=i0) hl hi (p:=p) (q:=q) (hR l pm);have st:u0 (tS k f m n1 i0 L0) c1 (tJ k f m n0 i (l++[x]) p q)=aeR (if cT f k.kw.ii l i=i then .done (.done (R l)) else .next (tJ k f m n0 (cT f k.kw.ii l i) (gg l i (cT f k.kw.ii l i)++[x]) p q)):=by unfold u0;rw [show (tJ k f m n0 i _ p q).1=(i:Int) from rfl,e];exact g
  by_cases hk:cT f k.kw.ii l i=i
  · simp_all [qS,au]
  rw [Do hk] at st
  have kc:=pz f k.kw.ii l i;have sp:=jr (l:=l) (i:=i) (j:=cT f k.kw.ii l i) (by omega) (by omega);rw [aJ st,Ac hk];exact ih _ _ (by omega) (by omega) ⟨by rw [fR];exact hm,hl.small,fun y hy=>hl.hp y (sp.mem_iff.1 hy),sp.nodup_iff.2 hl.nd⟩ (sp.trans pm)
theorem alY (ok:p7 k f) {c0:List Int} (hc:(aeP c0)=m+1) {c1:Nat} {c2:Int} {R:List Int->bE×Int} {l0:List Int} (hR: ∀l:List Int,l.Perm l0->bo k.kw ⟨f⟩ l=aeR (R l)):
 ∀(i:Nat) (l:List Int),i<m->k9 f m l->l.Perm l0->aq (qj c0 (c1:Int) c2) (tS k f m n0 i (l++[x]))=aeR (R (wk f k.kw.ii (nv f k.kw.ii i l) (vL f k.kw.ii i l))):=by
 intro i
 induction i using abm with
 |ind i ih=>
  intro l hi hl pm;have hm:=hl.len;have m1:=hl.small;have lx:(l++[x]).length=m+1:=by grind
  have sl:(cA c0 (c1:Int) c2).length=m+1:=by simp_all
  cases i with
  |zero=>have g:=alW (n0:=n0) (x:=x) ok hc lx (n1:=n0) (i0:=0) hR m l 0 (by omega) hi hl pm;unfold nv vL;refine au ?_;unfold qj;rw [show (tS k f m n0 0 (l++[x])).1=0 from rfl,az (by omega),ww];rw [show (tS k f m n0 0 (l++[x])).2.2.2.2.2.2.2.2.2.2.2.2.2.2.2.2.2.1=l++[x] from rfl,lx,sl,beq_self_eq_true,v6];exact g
  |succ i=>
   have hu:=ON (i:=i+1) (by omega) (by omega);rw [show (i+1-1) / 2=i / 2 from rfl] at hu;have pi:=hl.hp _ (aK (show i+1<(aeP l) by omega));have pj:=hl.hp _ (aK (show i / 2<(aeP l) by omega));have ne:l[i+1]!≠l[i / 2]!:=fun h=>bI.1 hl.nd (i / 2) (i+1) (by omega) (by omega) h.symm
   have a:=E3 ok.bc ok.fw.hZ ok.fw.dw pi pj ne;have g1:=ar l (i+1) (by omega);have g2:=ar l (i / 2) (by omega);have sa:(l++[x]).set (i+1) l[i / 2]! =l.set (i+1) l[i / 2]!++[x]:=abh _ _ (by omega);have sb:(l.set (i+1) l[i / 2]!++[x]).set (i / 2) l[i+1]! =gg l (i+1) (i / 2)++[x]:=abh _ _ (by grind);have t1:(l.set (i+1) l[i / 2]!++[x]).take m=l.set (i+1) l[i / 2]!:=tk (by grind);have g3:=ar (l.set (i+1) l[i / 2]!) (i / 2) (by grind);unfold nv vL
   by_cases c:leads (bm f l[i+1]!) (bm f l[i / 2]!) k.kw.ii
   · rw [AC c,AC c]
     rw [ay c] at a;have sp:=jr (l:=l) (i:=i+1) (j:=i / 2) (by omega) (by omega);rw [aJ (y:=tS k f m n0 (i / 2) (gg l (i+1) (i / 2)++[x])) (by unfold qj tS;simp (disch:=omega) only [ay,v6,tk hm,g1,g2,ai,hu,bZ ok.bc pi,bZ ok.bc pj,a,beq_self_eq_true,eE,sa,sb,t1,g3])];exact ih (i / 2) (by omega) _ (by omega) ⟨by rw [fR];exact hm,hl.small,fun y hy=>hl.hp y (sp.mem_iff.1 hy),sp.nodup_iff.2 hl.nd⟩ (sp.trans pm)
   rw [Do c,Do c]
   rw [az c] at a;have g:=alX (n0:=n0) (x:=x) ok hc lx (n1:=n0) (i0:=i+1) (p:=bm f l[i+1]!) (q:=bm f l[i / 2]!) hR m l (i+1) (by omega) hi hl pm;refine au ?_;unfold qj
   conv=>lhs;unfold tS
   simp (disch:=omega) only [ay,v6,tk hm,g1,g2,ai,hu,bZ ok.bc pi,bZ ok.bc pj,a,beq_self_eq_true,ww,lx,sl];exact g
end
def uS (k:bE) (P:Pt) (f:List Pt) (i:Nat) (L:List Int):=
 ((i:Int),k.kw.ii.1,k.kw.ii.2,k.kw.io.am,k.kw.af.aU,k.kw.af.ce,k.kw.ae.aj.aC,k.kw.ae.aj.be,k.kw.ae.aj.bi,k.kw.ae.bv,k.kw.ae.aB,k.kw.jp,k.bv,P.1,P.2.1,P.2.2,(0:Int),(0:Int),(0:Int),f,L,f,k.kw.ii.1,k.kw.ii.2)
def uJ (k:bE) (P:Pt) (f:List Pt) (i:Nat) (L:List Int) (p q:Pt):=
 ((i:Int),k.kw.ii.1,k.kw.ii.2,k.kw.io.am,k.kw.af.aU,k.kw.af.ce,k.kw.ae.aj.aC,k.kw.ae.aj.be,k.kw.ae.aj.bi,k.kw.ae.bv,k.kw.ae.aB,k.kw.jp,k.bv,P.1,P.2.1,P.2.2,(0:Int),(0:Int),(0:Int),f,L,f,k.kw.ii.1,k.kw.ii.2,p.1,p.2.1,p.2.2,q)
section
variable {k : bE} {P : Pt} {f : List Pt} {m : Nat}
theorem U5 (ok:p7 k f) {c0:_} {l:List Int} (hl:k9 f m l) {i b j:Nat} (hi:i<m) (hb:b<m) (hj:j<m) (h2:j<=2*i+2) (fy:j≠b):
 jB c0 ((i:Int),(b:Int),(j:Int),(uS k P f i l).2)=aeR (.next ((i:Int),((if leads (bm f l[j]!) (bm f l[b]!) k.kw.ii then j else b:Nat):Int),((j+1:Nat):Int),(uS k P f i l).2)):=by
 have hm:=hl.len;have m1:=hl.small;have e:aa .i64 (aa .i64 (2*(i:Int))+2)=((2*i+2:Nat):Int):=by rw [show aa .i64 _=2*(i:Int) from eD ⟨by omega,by omega⟩,eD ⟨by omega,by omega⟩];omega
 have pj:=hl.hp _ (aK (show j<(aeP l) by omega));have pb:=hl.hp _ (aK (show b<(aeP l) by omega));have ne:l[j]!≠l[b]!:=fun h=>by
  rcases PP j b with q|q|q
  · exact bI.1 hl.nd _ _ q (by omega) h
  · exact fy q
  exact bI.1 hl.nd _ _ q (by omega) h.symm
 have a:=E3 ok.bc ok.fw.hZ ok.fw.dw pj pb ne;unfold jB uS;simp (disch:=omega) only [ar,ai,bZ ok.bc pj,bZ ok.bc pb,aM]
 grind
theorem ahe {L0:List Int} (h0:(aeP L0)=m) {i0:Nat} {l:List Int} (hl:k9 f m l) {i b j:Nat} (hi:i<m) (hb:b<m) (he: ¬(j<=2*i+2/\j<m)):
 jB (uS k P f i0 L0) ((i:Int),(b:Int),(j:Int),(uS k P f i l).2)=if b=i then (bo k.kw ⟨f⟩ l).bind fun a=>aeR (.done (.done (.done a))) else aeR (.done (.next (uS k P f b (gg l i b)))):=by
 have hm:=hl.len;have m1:=hl.small;have e:aa .i64 (aa .i64 (2*(i:Int))+2)=((2*i+2:Nat):Int):=by
  grind [eD]
 have g1:=ar (l.set i l[b]!) b (by grind);have DT:(aH.mk _ _ _ _ k.kw.jp)=k.kw:=rfl;unfold jB uS
 by_cases h1:j<=2*i+2
 · have h2:=fun h=>he ⟨h1,h⟩
   simp (disch:=omega) only [aF,ay,az,ar,ai,eE,g1,DT]
   by_cases K6:b=i
   · grind
   rw [Do K6,jm (by omega),ww];rfl
 simp (disch:=omega) only [az,ar,ai,eE,g1,DT]
 by_cases K6:b=i
 · grind
 rw [Do K6,jm (by omega),ww];rfl
theorem alZ (ok:p7 k f) {L0:List Int} (h0:(aeP L0)=m) {i0:Nat} {l:List Int} (hl:k9 f m l) {i:Nat} (hi:i<m) {R:List Int->bE×Int} (hR:bo k.kw ⟨f⟩ l=aeR (R l)):
 aq (jB (uS k P f i0 L0)) ((i:Int),(i:Int),((2*i+1:Nat):Int),(uS k P f i l).2)=aeR (if cT f k.kw.ii l i=i then .done (.done (R l)) else .next (uS k P f (cT f k.kw.ii l i) (gg l i (cT f k.kw.ii l i)))):=by
 have hm:=hl.len;have fin: ∀b j:Nat,b<m-> ¬(j<=2*i+2/\j<m)->cT f k.kw.ii l i=b->aq (jB (uS k P f i0 L0)) ((i:Int),(b:Int),(j:Int),(uS k P f i l).2)=aeR (if cT f k.kw.ii l i=i then .done (.done (R l)) else .next (uS k P f (cT f k.kw.ii l i) (gg l i (cT f k.kw.ii l i)))):=by
  intro b j hb he hk;rw [hk];have:=ahe (k:=k) (P:=P) h0 (i0:=i0) hl hi hb he
  by_cases K6:b=i
  · rw [AC K6,hR,ai] at this
    rw [AC K6];exact au this
  simp_all [au]
 have kA:kS f k.kw.ii l i<m:=by grind [px]
 by_cases h1:2*i+1<m
 case neg=>
  have e1:kS f k.kw.ii l i=i:=by unfold kS;rw [Do (fun h=>h1 (by omega))]
  have e2:cT f k.kw.ii l i=i:=by unfold cT;rw [Do (fun h=>h1 (by omega)),e1]
  grind
 rw [aJ (U5 ok hl hi hi h1 (by omega) (by omega))];have eA:(if leads (bm f l[2*i+1]!) (bm f l[i]!) k.kw.ii then 2*i+1 else i)=kS f k.kw.ii l i:=by
  unfold kS
  grind
 rw [eA]
 by_cases h2:2*i+1+1<m
 case neg=>
  have e2:cT f k.kw.ii l i=kS f k.kw.ii l i:=by unfold cT;rw [Do (fun h=>h2 (by omega))]
  grind
 have nk:2*i+1+1≠kS f k.kw.ii l i:=by grind
 rw [aJ (U5 ok hl hi kA h2 (by omega) nk)];have eG:(if leads (bm f l[2*i+1+1]!) (bm f l[kS f k.kw.ii l i]!) k.kw.ii then 2*i+1+1 else kS f k.kw.ii l i)=cT f k.kw.ii l i:=by
  unfold cT
  grind
 rw [eG];exact fin _ (2*i+1+1+1) (by grind) (fun h=>by omega) rfl
theorem U6 (ok:p7 k f) {c0:_} {l:List Int} (hl:k9 f m l) {i b j:Nat} (hi:i<m) (hb:b<m) (hj:j<m) (h2:j<=2*i+2) (fy:j≠b) {p q:Pt}:
 jA c0 ((i:Int),(b:Int),(j:Int),(uJ k P f i l p q).2)=aeR (.next ((i:Int),((if leads (bm f l[j]!) (bm f l[b]!) k.kw.ii then j else b:Nat):Int),((j+1:Nat):Int),(uJ k P f i l p q).2)):=by
 have hm:=hl.len;have m1:=hl.small;have e:aa .i64 (aa .i64 (2*(i:Int))+2)=((2*i+2:Nat):Int):=by rw [show aa .i64 _=2*(i:Int) from eD ⟨by omega,by omega⟩,eD ⟨by omega,by omega⟩];omega
 have pj:=hl.hp _ (aK (show j<(aeP l) by omega));have pb:=hl.hp _ (aK (show b<(aeP l) by omega));have ne:l[j]!≠l[b]!:=fun h=>by
  rcases PP j b with q|q|q
  · exact bI.1 hl.nd _ _ q (by omega) h
  · exact fy q
  exact bI.1 hl.nd _ _ q (by omega) h.symm
 have a:=E3 ok.bc ok.fw.hZ ok.fw.dw pj pb ne;unfold jA uJ;simp (disch:=omega) only [ar,ai,bZ ok.bc pj,bZ ok.bc pb,aM]
 grind
theorem ahf {L0:List Int} (h0:(aeP L0)=m) {i0:Nat} {l:List Int} (hl:k9 f m l) {i b j:Nat} (hi:i<m) (hb:b<m) (he: ¬(j<=2*i+2/\j<m)) {p q:Pt}:
 jA (uS k P f i0 L0) ((i:Int),(b:Int),(j:Int),(uJ k P f i l p q).2)=if b=i then (bo k.kw ⟨f⟩ l).bind fun a=>aeR (.done (.done (.done a))) else aeR (.done (.next (uJ k P f b (gg l i b) p q))):=by
 have hm:=hl.len;have m1:=hl.small;have e:aa .i64 (aa .i64 (2*(i:Int))+2)=((2*i+2:Nat):Int):=by
  grind [eD]
 have g1:=ar (l.set i l[b]!) b (by grind);have DT:(aH.mk _ _ _ _ k.kw.jp)=k.kw:=rfl;unfold jA uS uJ
 by_cases h1:j<=2*i+2
 · have h2:=fun h=>he ⟨h1,h⟩
   simp (disch:=omega) only [aF,ay,az,ar,ai,eE,g1,DT]
   by_cases K6:b=i
   · grind
   rw [Do K6,jm (by omega),ww];rfl
 simp (disch:=omega) only [az,ar,ai,eE,g1,DT]
 by_cases K6:b=i
 · grind
 rw [Do K6,jm (by omega),ww];rfl
theorem al0 (ok:p7 k f) {L0:List Int} (h0:(aeP L0)=m) {i0:Nat} {l:List Int} (hl:k9 f m l) {i:Nat} (hi:i<m) {p q:Pt} {R:List Int->bE×Int} (hR:bo k.kw ⟨f⟩ l=aeR (R l)):
 aq (jA (uS k P f i0 L0)) ((i:Int),(i:Int),((2*i+1:Nat):Int),(uJ k P f i l p q).2)=aeR (if cT f k.kw.ii l i=i then .done (.done (R l)) else .next (uJ k P f (cT f k.kw.ii l i) (gg l i (cT f k.kw.ii l i)) p q)):=by
 have hm:=hl.len;have fin: ∀b j:Nat,b<m-> ¬(j<=2*i+2/\j<m)->cT f k.kw.ii l i=b->aq (jA (uS k P f i0 L0)) ((i:Int),(b:Int),(j:Int),(uJ k P f i l p q).2)=aeR (if cT f k.kw.ii l i=i then .done (.done (R l)) else .next (uJ k P f (cT f k.kw.ii l i) (gg l i (cT f k.kw.ii l i)) p q)):=by
  intro b j hb he hk;rw [hk];have:=ahf (k:=k) (P:=P) h0 (i0:=i0) hl hi hb he (p:=p) (q:=q)
  by_cases K6:b=i
  · rw [AC K6,hR,ai] at this
    rw [AC K6];exact au this
  simp_all [Do,au]
 have kA:kS f k.kw.ii l i<m:=by rcases px f k.kw.ii l i with h|⟨h,h2⟩<;>omega
 by_cases h1:2*i+1<m
 case neg=>
  have e1:kS f k.kw.ii l i=i:=by unfold kS;rw [Do (fun h=>h1 (by omega))]
  have e2:cT f k.kw.ii l i=i:=by unfold cT;rw [Do (fun h=>h1 (by omega)),e1]
  grind
 rw [aJ (U6 ok hl hi hi h1 (by omega) (by omega) (p:=p) (q:=q))];have eA:(if leads (bm f l[2*i+1]!) (bm f l[i]!) k.kw.ii then 2*i+1 else i)=kS f k.kw.ii l i:=by
  unfold kS
  grind
 rw [eA]
 by_cases h2:2*i+1+1<m
 case neg=>
  have e2:cT f k.kw.ii l i=kS f k.kw.ii l i:=by unfold cT;rw [Do (fun h=>h2 (by omega))]
  grind
 have nk:2*i+1+1≠kS f k.kw.ii l i:=by grind
 rw [aJ (U6 ok hl hi kA h2 (by omega) nk (p:=p) (q:=q))];have eG:(if leads (bm f l[2*i+1+1]!) (bm f l[kS f k.kw.ii l i]!) k.kw.ii then 2*i+1+1 else kS f k.kw.ii l i)=cT f k.kw.ii l i:=by
  unfold cT
  grind
 rw [eG];exact fin _ (2*i+1+1+1) (by rw [<- eG];split<;>omega) (fun h=>by omega) rfl
theorem al1 (ok:p7 k f) {L0:List Int} (h0:(aeP L0)=m) {i0:Nat} {R:List Int->bE×Int} {l0:List Int} (hR: ∀l:List Int,l.Perm l0->bo k.kw ⟨f⟩ l=aeR (R l)):
 ∀(d:Nat) (l:List Int) (i:Nat),m-i<=d->i<m->k9 f m l->l.Perm l0->aq (qy (uS k P f i0 L0)) (uS k P f i l)=aeR (.done (R (wk f k.kw.ii l i))):=by
 intro d
 induction d with
 |zero=>omega
 |succ d ih=>
  intro l i h hi hl pm;have hm:=hl.len;have m1:=hl.small;have e:aa .i64 (aa .i64 (2*(i:Int))+1)=((2*i+1:Nat):Int):=by
   grind [eD]
  have g:=alZ (P:=P) ok h0 (i0:=i0) hl hi (hR l pm);have st:qy (uS k P f i0 L0) (uS k P f i l)=aeR (if cT f k.kw.ii l i=i then .done (.done (R l)) else .next (uS k P f (cT f k.kw.ii l i) (gg l i (cT f k.kw.ii l i)))):=by unfold qy;rw [show (uS k P f i l).1=(i:Int) from rfl,e];exact g
  by_cases hk:cT f k.kw.ii l i=i
  · simp_all [qS,au]
  rw [Do hk] at st
  have kc:=pz f k.kw.ii l i;have sp:=jr (l:=l) (i:=i) (j:=cT f k.kw.ii l i) (by omega) (by omega);rw [aJ st,Ac hk];exact ih _ _ (by omega) (by omega) ⟨by rw [fR];exact hm,hl.small,fun y hy=>hl.hp y (sp.mem_iff.1 hy),sp.nodup_iff.2 hl.nd⟩ (sp.trans pm)
theorem al2 (ok:p7 k f) {L0:List Int} (h0:(aeP L0)=m) {i0:Nat} {p q:Pt} {R:List Int->bE×Int} {l0:List Int} (hR: ∀l:List Int,l.Perm l0->bo k.kw ⟨f⟩ l=aeR (R l)):
 ∀(d:Nat) (l:List Int) (i:Nat),m-i<=d->i<m->k9 f m l->l.Perm l0->aq (qx (uS k P f i0 L0)) (uJ k P f i l p q)=aeR (.done (R (wk f k.kw.ii l i))):=by
 intro d
 induction d with
 |zero=>omega
 |succ d ih=>
  intro l i h hi hl pm;have hm:=hl.len;have m1:=hl.small;have e:aa .i64 (aa .i64 (2*(i:Int))+1)=((2*i+1:Nat):Int):=by
   grind [eD]
  have g:=al0 (k:=k) (P:=P) ok h0 (i0:=i0) hl hi (p:=p) (q:=q) (hR l pm);have st:qx (uS k P f i0 L0) (uJ k P f i l p q)=aeR (if cT f k.kw.ii l i=i then .done (.done (R l)) else .next (uJ k P f (cT f k.kw.ii l i) (gg l i (cT f k.kw.ii l i)) p q)):=by unfold qx;rw [show (uJ k P f i l p q).1=(i:Int) from rfl,e];exact g
  by_cases hk:cT f k.kw.ii l i=i
  · rw [AC hk] at st
    rw [qS hk];exact au st
  rw [Do hk] at st
  have kc:=pz f k.kw.ii l i;have sp:=jr (l:=l) (i:=i) (j:=cT f k.kw.ii l i) (by omega) (by omega);rw [aJ st,Ac hk];exact ih _ _ (by omega) (by omega) ⟨by rw [fR];exact hm,hl.small,fun y hy=>hl.hp y (sp.mem_iff.1 hy),sp.nodup_iff.2 hl.nd⟩ (sp.trans pm)
theorem al3 (ok:p7 k f) {c0:List Int} (hc:(aeP c0)=m) {R:List Int->bE×Int} {l0:List Int} (hR: ∀l:List Int,l.Perm l0->bo k.kw ⟨f⟩ l=aeR (R l)):
 ∀(i:Nat) (l:List Int),i<m->k9 f m l->l.Perm l0->aq (nW c0) (uS k P f i l)=aeR (R (wk f k.kw.ii (nv f k.kw.ii i l) (vL f k.kw.ii i l))):=by
 intro i
 induction i using abm with
 |ind i ih=>
  intro l hi hl pm;have hm:=hl.len;have m1:=hl.small;have lx:=hm;cases i with
  |zero=>have g:=al1 (P:=P) ok lx (i0:=0) hR m l 0 (by omega) hi hl pm;unfold nv vL;refine au ?_;unfold nW;rw [show (uS k P f 0 l).2.2.2.2.2.2.2.2.2.2.2.2.2.2.2.2.2.2.2.2.1=l from rfl,lx,hc,beq_self_eq_true,v6];exact g
  |succ i=>
   have hu:=ON (i:=i+1) (by omega) (by omega);rw [show (i+1-1) / 2=i / 2 from rfl] at hu;have pi:=hl.hp _ (aK (show i+1<(aeP l) by omega));have pj:=hl.hp _ (aK (show i / 2<(aeP l) by omega));have ne:l[i+1]!≠l[i / 2]!:=fun h=>bI.1 hl.nd (i / 2) (i+1) (by omega) (by omega) h.symm
   have a:=E3 ok.bc ok.fw.hZ ok.fw.dw pi pj ne;have g1:=ar l (i+1) (by omega);have g2:=ar l (i / 2) (by omega);have g3:=ar (l.set (i+1) l[i / 2]!) (i / 2) (by grind);unfold nv vL
   by_cases c:leads (bm f l[i+1]!) (bm f l[i / 2]!) k.kw.ii
   · rw [AC c,AC c]
     rw [ay c] at a;have sp:=jr (l:=l) (i:=i+1) (j:=i / 2) (by omega) (by omega);rw [aJ (y:=uS k P f (i / 2) (gg l (i+1) (i / 2))) (by unfold nW uS;simp (disch:=omega) only [ay,g1,g2,ai,hu,bZ ok.bc pi,bZ ok.bc pj,a,beq_self_eq_true,eE,g3];rfl)];exact ih (i / 2) (by omega) _ (by omega) ⟨by rw [fR];exact hm,hl.small,fun y hy=>hl.hp y (sp.mem_iff.1 hy),sp.nodup_iff.2 hl.nd⟩ (sp.trans pm)
   rw [Do c,Do c]
   rw [az c] at a;have g:=al2 (P:=P) ok lx (i0:=i+1) (p:=bm f l[i+1]!) (q:=bm f l[i / 2]!) hR m l (i+1) (by omega) hi hl pm;refine au ?_;unfold nW
   conv=>lhs;unfold uS
   simp (disch:=omega) only [ay,g1,g2,ai,hu,bZ ok.bc pi,bZ ok.bc pj,a,beq_self_eq_true,lx,hc];exact g
end
def vS (k:bE) (P:Pt) (f:List Pt) (i:Nat) (L:List Int):=
 ((i:Int),k.kw.ii.1,k.kw.ii.2,k.kw.io.am,k.kw.af.aU,k.kw.af.ce,k.kw.ae.aj.aC,k.kw.ae.aj.be,k.kw.ae.aj.bi,k.kw.ae.bv,k.kw.ae.aB,k.kw.jp,k.bv,P.1,P.2.1,P.2.2,(0:Int),(0:Int),(0:Int),f,[P.1],L,f,k.kw.ii.1,k.kw.ii.2)
theorem al4 {k:bE} {P:Pt} {f:List Pt} {m:Nat} (ok:p7 k f) {c0:Pt} {c1:List Int} (hc:(aeP c1)=m) {R:List Int->bE×Int} {l0:List Int} (hR: ∀l:List Int,l.Perm l0->bo k.kw ⟨f⟩ l=aeR (R l)):
 ∀(i:Nat) (l:List Int),i<m->k9 f m l->l.Perm l0->aq (sZ c0 c1) (vS k P f i l)=aeR (R (nv f k.kw.ii i l)):=by
 intro i
 induction i using abm with
 |ind i ih=>
  intro l hi hl pm;have hm:=hl.len;have m1:=hl.small;have lx:=hm;cases i with
  |zero=>unfold nv;refine au ?_;unfold sZ vS;simp_all
  |succ i=>
   have hu:=ON (i:=i+1) (by omega) (by omega);rw [show (i+1-1) / 2=i / 2 from rfl] at hu;have pi:=hl.hp _ (aK (show i+1<(aeP l) by omega));have pj:=hl.hp _ (aK (show i / 2<(aeP l) by omega));have ne:l[i+1]!≠l[i / 2]!:=fun h=>bI.1 hl.nd (i / 2) (i+1) (by omega) (by omega) h.symm
   have a:=E3 ok.bc ok.fw.hZ ok.fw.dw pi pj ne;have g1:=ar l (i+1) (by omega);have g2:=ar l (i / 2) (by omega);have g3:=ar (l.set (i+1) l[i / 2]!) (i / 2) (by grind);unfold nv
   by_cases c:leads (bm f l[i+1]!) (bm f l[i / 2]!) k.kw.ii
   · rw [AC c]
     rw [ay c] at a;have sp:=jr (l:=l) (i:=i+1) (j:=i / 2) (by omega) (by omega);rw [aJ (y:=vS k P f (i / 2) (gg l (i+1) (i / 2))) (by unfold sZ vS;simp only [ay (show (0:Int)<((i+1:Nat):Int) by omega),g1,g2,ai,hu,bZ ok.bc pi,bZ ok.bc pj,a,beq_self_eq_true,eE,g3];rfl)];exact ih (i / 2) (by omega) _ (by omega) ⟨by rw [fR];exact hm,hl.small,fun y hy=>hl.hp y (sp.mem_iff.1 hy),sp.nodup_iff.2 hl.nd⟩ (sp.trans pm)
   rw [Do c]
   rw [az c] at a;refine au ?_;unfold sZ vS;simp only [ay (show (0:Int)<((i+1:Nat):Int) by omega),v6,g1,g2,ai,hu,bZ ok.bc pi,bZ ok.bc pj,a,beq_self_eq_true,ww,If,lx,hc,hR l pm]
end Go.Proofs.YthljiplggdanpaaGreat
namespace Go.Proofs.YthljiplggdanpaaGreat
open Go.Vm
abbrev Nd:=Int×Int×Int
structure BK (P:Nat->Nat->Prop) (a b i:Nat):Prop where
 lo:a<=i
 hi:i<b
 top: ∀j,a<=j->j<b->j≠i->P i j
inductive nZ (P:Nat->Nat->Prop) (N:List Nd):Nat->Nat->Int->Prop
 |nil {a b:Nat} (h:b<=a):nZ P N a b (-1)
 |node {a b i:Nat} (h:BK P a b i) (l:nZ P N a i (N[i]!).2.1) (r:nZ P N (i+1) b (N[i]!).2.2):nZ P N a b (i:Int)
structure aaz (P:Nat->Nat->Prop) (n:Nat):Prop where
 tr: ∀i j k,i<n->j<n->k<n->P i j->P j k->P i k
 asy: ∀i j,i<n->j<n->P i j-> ¬P j i
 tot: ∀i j,i<n->j<n->i≠j-> ¬P i j->P j i
theorem BK.one {P:Nat->Nat->Prop} {n a b i j:Nat} (o:aaz P n) (hb:b<=n) (h:BK P a b i) (k:BK P a b j):i=j:=by
 refine abf fun fy=>?_
 have:=h.hi;have:=k.hi;exact o.asy i j (by omega) (by omega) (h.top j k.lo k.hi (fun e=>fy e.symm)) (k.top i h.lo h.hi fy)
theorem nZ.link {P:Nat->Nat->Prop} {N:List Nd} {a b:Nat} {r:Int} (h:nZ P N a b r):(b<=a/\r= -1)\/(∃i:Nat,r=(i:Int)/\a<=i/\i<b):=by
 cases h with
 |nil h=>omega
 |node h l r=>exact .inr ⟨_,rfl,h.lo,h.hi⟩
theorem nZ.unique {P:Nat->Nat->Prop} {n:Nat} (o:aaz P n) {N N':List Nd} {a b:Nat} {r:Int} (h:nZ P N a b r): ∀{r':Int},b<=n->nZ P N' a b r'->r=r'/\ ∀k,a<=k->k<b->(N[k]!).2=(N'[k]!).2:=by
 induction h with
 |nil h=>
  intro r' hb h';cases h' with
  |nil _=>grind
  |node t _ _=>have:=t.lo;have:=t.hi;omega
 | @node a b i h l r ihl ihr=>
  intro r' hb h';have lo:=h.lo;have hi:=h.hi;cases h' with
  |nil q=>omega
  | @node _ _ j t l' r'=>
   have e:=h.one o hb t
   grind
theorem nZ.frame {P:Nat->Nat->Prop} {N N':List Nd} {a b:Nat} {r:Int} (h:nZ P N a b r):(∀k,a<=k->k<b->(N[k]!).2=(N'[k]!).2)->nZ P N' a b r:=by
 induction h with
 |nil h=>exact fun _=> .nil h
 | @node a b i h l r ihl ihr=>
  intro f;have lo:=h.lo;have hi:=h.hi;have e:=f i lo hi;refine .node h ?_ ?_
  · rw [<- e];exact ihl fun k h1 h2=>f k h1 (by omega)
  grind
theorem nZ.other {P Q:Nat->Nat->Prop} {n:Nat} (o:aaz Q n) {N:List Nd} {a b:Nat} {r:Int} (h:nZ P N a b r):b<=n->(∀k j:Nat,a<=k->k<b->a<=j->j<b->((N[k]!).2.1=(j:Int)\/(N[k]!).2.2=(j:Int))->Q k j)->nZ Q N a b r:=by
 induction h with
 |nil h=>exact fun _ _=> .nil h
 | @node a b i h l r ihl ihr=>
  intro hb q;have lo:=h.lo;have hi:=h.hi;have tl:=ihl (by omega) fun k j h1 h2 h3 h4=>q k j h1 (by omega) h3 (by omega)
  have tr:=ihr hb fun k j h1 h2 h3 h4=>q k j (by omega) h2 (by omega) h4
  refine .node ⟨lo,hi,fun j h1 h2 fy=>?_⟩ tl tr;rcases adh j i with hj|hj
  · generalize hr:(N[i]!).2.1=s at tl
    cases tl with
    |nil q=>omega
    | @node _ _ m t _ _=>
     have t1:=t.lo;have t2:=t.hi;have qm:=q i m lo hi t1 (by omega) (.inl hr)
     by_cases e:j=m
     · rw [e];exact qm
     exact o.tr i m j (by omega) (by omega) (by omega) qm (t.top j h1 hj e)
  generalize hr:(N[i]!).2.2=s at tr
  cases tr with
  |nil q=>omega
  | @node _ _ m t _ _=>
   have t1:=t.lo;have t2:=t.hi;have qm:=q i m lo hi (by omega) t2 (.inr hr)
   by_cases e:j=m
   · rw [e];exact qm
   exact o.tr i m j (by omega) (by omega) (by omega) qm (t.top j (by omega) h2 e)
theorem nZ.kids {P:Nat->Nat->Prop} {N:List Nd} {a b:Nat} {r:Int} (h:nZ P N a b r): ∀k,a<=k->k<b-> ∀c:Int,((N[k]!).2.1=c\/(N[k]!).2.2=c)->c= -1\/ ∃j:Nat,c=(j:Int)/\a<=j/\j<b/\j≠k/\P k j/\r≠c:=by
 induction h with
 |nil h=>omega
 | @node a b i h l r ihl ihr=>
  have lo:=h.lo;have hi:=h.hi;intro k h1 h2 c hc;rcases PP k i with q|q|q
  · rcases ihl k h1 q c hc with e|⟨j,e,j1,j2,j3,j4,_⟩
    · exact .inl e
    grind
  · subst q
    rcases hc with hc|hc
    · rcases l.link with ⟨_,e⟩|⟨j,e,j1,j2⟩
      · omega
      exact .inr ⟨j,hc▸e,j1,by omega,by omega,h.top j j1 (by omega) (by omega),by omega⟩
    rcases r.link with ⟨_,e⟩|⟨j,e,j1,j2⟩
    · omega
    exact .inr ⟨j,hc▸e,by omega,j2,by omega,h.top j (by omega) j2 (by omega),by omega⟩
  rcases ihr k (by omega) h2 c hc with e|⟨j,e,j1,j2,j3,j4,_⟩
  · exact .inl e
  grind
theorem nZ.up {P:Nat->Nat->Prop} {N:List Nd} {a b:Nat} {r:Int} (h:nZ P N a b r): ∀k:Nat,a<=k->k<b->(k:Int)≠r-> ∃j,a<=j/\j<b/\((N[j]!).2.1=(k:Int)\/(N[j]!).2.2=(k:Int))/\ ∀m,a<=m->m<b->((N[m]!).2.1=(k:Int)\/(N[m]!).2.2=(k:Int))->m=j:=by
 induction h with
 |nil h=>omega
 | @node a b i h l r ihl ihr=>
  have lo:=h.lo;have hi:=h.hi;have lk:=l.kids;have rk:=r.kids;intro k h1 h2 fy;rcases adh k i with q|q
  · by_cases er:(k:Int)=(N[i]!).2.1
    · refine ⟨i,lo,hi,.inl er.symm,fun m m1 m2 hm=>?_⟩
      rcases PP m i with w|w|w
      · rcases lk m m1 w _ hm with e|⟨j,e,_,_,_,_,hr⟩
        · omega
        exact absurd er.symm hr
      · exact w
      rcases rk m (by omega) m2 _ hm with e|⟨j,e,j1,_⟩<;>omega
    obtain ⟨j,j1,j2,j3,j4⟩:=ihl k h1 q er
    refine ⟨j,j1,by omega,j3,fun m m1 m2 hm=>?_⟩;rcases PP m i with w|w|w
    · exact j4 m m1 w hm
    · subst w
      rcases hm with hm|hm
      · exact absurd hm.symm er
      rcases r.link with ⟨_,e⟩|⟨p,e,p1,p2⟩<;>omega
    rcases rk m (by omega) m2 _ hm with e|⟨p,e,p1,_⟩<;>omega
  by_cases er:(k:Int)=(N[i]!).2.2
  · refine ⟨i,lo,hi,.inr er.symm,fun m m1 m2 hm=>?_⟩
    rcases PP m i with w|w|w
    · rcases lk m m1 w _ hm with e|⟨j,e,_,j2,_⟩<;>omega
    · exact w
    rcases rk m (by omega) m2 _ hm with e|⟨j,e,_,_,_,_,hr⟩
    · omega
    exact absurd er.symm hr
  obtain ⟨j,j1,j2,j3,j4⟩:=ihr k (by omega) h2 er
  refine ⟨j,by omega,j2,j3,fun m m1 m2 hm=>?_⟩;rcases PP m i with w|w|w
  · rcases lk m m1 w _ hm with e|⟨p,e,_,p2,_⟩<;>omega
  · subst w
    rcases hm with hm|hm
    · rcases l.link with ⟨_,e⟩|⟨p,e,p1,p2⟩<;>omega
    exact absurd hm.symm er
  exact j4 m (by omega) m2 hm
inductive yP (P:Nat->Nat->Prop) (N:List Nd):Nat->Nat->Int->List Nat->Prop
 |nil {a b:Nat} (h:b<=a):yP P N a b (-1) []
 |cons {a b k:Nat} {es:List Nat} (h:BK P a b k) (l:nZ P N a k (N[k]!).2.1) (r:yP P N (k+1) b (N[k]!).2.2 es):yP P N a b (k:Int) (k::es)
theorem yP.pp {P:Nat->Nat->Prop} {N:List Nd} {a b:Nat} {r:Int} {es:List Nat} (h:yP P N a b r es):nZ P N a b r:=by
 induction h with
 |nil h=>exact .nil h
 |cons h l r ih=>exact .node h l ih
theorem yP.mem {P:Nat->Nat->Prop} {N:List Nd} {a b:Nat} {r:Int} {es:List Nat} (h:yP P N a b r es): ∀e∈es,a<=e/\e<b:=by
 induction h with
 |nil h=>intro e he;cases he
 |cons h l r ih=>
  intro e he;have lo:=h.lo;have hi:=h.hi;rcases abi.1 he with rfl|he
  · exact ⟨lo,hi⟩
  have:=ih e he;omega
theorem ib {α:Type} [Inhabited α] (x:α) (l:List α) (i:Nat):(x::l)[i+1]! =l[i]!:=by simp
theorem pB {α:Type} [Inhabited α] (x:α) (l:List α):(x::l)[0]! =x:=by simp
theorem yP.chain {P:Nat->Nat->Prop} {N:List Nd} {a b:Nat} {r:Int} {es:List Nat} (h:yP P N a b r es): ∀i j,i<j->j<aeP es->P es[i]! es[j]!:=by
 induction h with
 |nil h=>intro i j _ hj;cases hj
 | @cons a b k es h l r ih=>
  intro i j pX hj;cases j with
  |zero=>omega
  |succ j=>
   rw [ib];have hj:j<(aeP es):=by simpa using hj
   cases i with
   |zero=>rw [pB];have:=r.mem es[j]! (aK hj);exact h.top _ (by have:=h.lo;omega) this.2 (by omega)
   |succ i=>rw [ib];exact ih i j (by omega) hj
theorem yP.add {P:Nat->Nat->Prop} {N N':List Nd} {n:Nat} (o:aaz P n) {a b:Nat} {r:Int} {es:List Nat} (h:yP P N a b r es): ∀m,a<=b->b<n->m<=aeP es->(∀j,j<m->P es[j]! b)->(∀j,m<=j->j<aeP es-> ¬P es[j]! b)->
 (N'[b]!).2.1=(if m<(aeP es) then (es[m]!:Int) else -1)->(N'[b]!).2.2= -1->
 (∀k,a<=k->k<b->(N'[k]!).2.1=(N[k]!).2.1/\((0<m/\k=es[m-1]!)->(N'[k]!).2.2=(b:Int))/\(¬(0<m/\k=es[m-1]!)->(N'[k]!).2.2=(N[k]!).2.2))->
 yP P N' a (b+1) (if m=0 then (b:Int) else r) (es.take m++[b]):=by
 induction h with
 | @nil a b h=>
  intro m Po hb hm _ _ hl hr _;have:m=0:=by simpa using hm
  subst this;rw [AC rfl];have hl:(N'[b]!).2.1= -1:=hl;refine .cons ⟨Po,by omega,fun j h1 h2 h3=>by omega⟩ ?_ ?_
  · rw [hl];exact .nil h
  rw [hr];exact .nil (by omega)
 | @cons a b k es h l r ih=>
  intro m Po hb hm hP hN hl hr hf;have lo:=h.lo;have hi:=h.hi;cases m with
  |zero=>
   rw [AC rfl];have hl:(N'[b]!).2.1=(k:Int):=by rw [hl,AC (by simp)];rfl
   have t:nZ P N a b (k:Int):= .node h l r.pp;have nk: ¬P k b:=hN 0 (NE _) (by simp);have kb:P b k:=o.tot k b (by omega) hb (by omega) nk;refine .cons ⟨Po,by omega,fun j h1 h2 h3=>?_⟩ ?_ ?_
   · by_cases e:j=k
     · rw [e];exact kb
     exact o.tr b k j hb (by omega) (by omega) kb (h.top j h1 (by omega) e)
   · rw [hl]
     refine t.frame fun j h1 h2=>?_
     obtain ⟨f1,_,f3⟩:=hf j h1 h2;exact ae9 f1.symm (f3 (by omega)).symm
   rw [hr];exact .nil (by omega)
  |succ m=>
   rw [Do (by omega)];have hm:m<=(aeP es):=by simpa using hm
   have pk:P k b:=by have:=hP 0 (by omega);rwa [pB] at this
   have mem:=r.mem;have top:BK P a (b+1) k:=⟨lo,by omega,fun j h1 h2 h3=>by
    by_cases e:j=b
    · rw [e];exact pk
    exact h.top j h1 (by omega) h3⟩
   have lt:nZ P N' a k (N'[k]!).2.1:=by
    rw [(hf k lo hi).1];refine l.frame fun j h1 h2=>?_
    obtain ⟨f1,_,f3⟩:=hf j h1 (by omega);refine ae9 f1.symm (f3 (fun q=>?_)).symm;have q2:=q.2;cases m with
    |zero=>rw [show 0+1-1=0 from rfl,pB] at q2;omega
    |succ m=>rw [show m+1+1-1=m+1 from rfl,ib] at q2;have:=mem es[m]! (aK (by omega));omega
   have rt:=ih m (by omega) hb hm (fun j hj=>by have:=hP (j+1) (by omega);rwa [ib] at this) (fun j h1 h2=>by have:=hN (j+1) (by omega) (by simpa using h2);rwa [ib] at this)
    (by
     rw [hl]
     by_cases q:m<aeP es
     · rw [AC q,AC (by simpa using q),ib]
     · rw [Do q,Do (by simpa using q)]) hr (fun j h1 h2=>by
     obtain ⟨f1,f2,f3⟩:=hf j (by omega) h2;refine ⟨f1,fun q=>f2 ⟨by omega,?_⟩,fun q=>f3 (fun w=>q ?_)⟩
     · obtain ⟨q1,q2⟩:=q
       rw [show m+1-1=(m-1)+1 by omega,ib];exact q2
     obtain ⟨_,w2⟩:=w
     cases m with
     |zero=>rw [show 0+1-1=0 from rfl,pB] at w2;omega
     |succ m=>rw [show m+1+1-1=m+1 from rfl,ib] at w2;exact ⟨by omega,w2⟩)
   rw [show (k::es).take (m+1)++[b]=k::(es.take m++[b]) from rfl];refine .cons top lt ?_;obtain ⟨_,f2,f3⟩:=hf k lo hi
   by_cases m0:m=0
   · subst m0
     rw [AC rfl] at rt;rw [f2 ⟨by omega,by rw [show 0+1-1=0 from rfl,pB]⟩];exact rt
   rw [Do m0] at rt
   rw [f3 (fun w=>?_)]
   · exact rt
   have w2:=w.2
   rw [show m+1-1=(m-1)+1 by omega,ib] at w2;have:=mem es[m-1]! (aK (by omega));omega
end Go.Proofs.YthljiplggdanpaaGreat
namespace Go.Proofs.YthljiplggdanpaaGreat
open Go.Vm Classical
def Gj (f:List Pt) (t:Int×Int) (i j:Nat):Prop:=leads f[i]! f[j]! t
theorem vM {p q:Pt} {t:Int×Int} (h:leads p q t): ¬leads q p t:=by
 unfold leads at*
 grind [OO]
theorem Bp {f:List Pt} (h:fo f) (t:Int×Int):aaz (Gj f t) (aeP f) where
 tr:=fun _ _ _ _ _ _ h1 h2=>Ip h1 h2
 asy:=fun _ _ _ _ h=>vM h
 tot:=fun _ _ hi hj fy hn=>pq t (fun e=>fy (nL h hi hj e)) hn
structure gO (f:List Pt) (t:Int×Int) (N:List Nd) (r:Int):Prop where
 len:(aeP N)=aeP f
 ids: ∀k,k<aeP f->(N[k]!).1=(f[k]!).1
 pp:nZ (Gj f t) N 0 (aeP f) r
theorem gO.same {f:List Pt} (h:fo f) {t:Int×Int} {N N':List Nd} {r r':Int} (a:gO f t N r) (b:gO f t N' r'):N=N'/\r=r':=by
 obtain ⟨e1,e2⟩:=a.pp.unique (Bp h t) (NE _) b.pp;refine ⟨mW (by rw [a.len,b.len]) fun k hk=>?_,e1⟩;have hk:k<(aeP f):=by rw [<- a.len];exact hk
 exact ae9 (by rw [a.ids k hk,b.ids k hk]) (e2 k (ab4 _) hk)
def Below (N:List Nd) (k j:Nat):Prop:=(N[j]!).2.1=(k:Int)\/(N[j]!).2.2=(k:Int)
noncomputable def tg (N:List Nd) (k:Nat):Nat:=if h: ∃j,j<aeP N/\Below N k j then h.choose else (aeP N)
noncomputable def En (N:List Nd) (k:Nat):List (Int×Int):=if tg N k<(aeP N) then [((N[k]!).1,(N[tg N k]!).1)] else []
noncomputable def cB (N:List Nd):Nat->List (Int×Int)
 |0=>[]
 |k+1=>cB N k++En N k
theorem nM (N:List Nd): ∀k,(cB N k).length<=k
 |0=>NE _
 |k+1=>by
  have:=nM N k;rw [cB,abd];unfold En
  grind
theorem Bq {N:List Nd}: ∀{n:Nat} {e:Int×Int},e∈cB N n↔ ∃k,k<n/\tg N k<aeP N/\e=((N[k]!).1,(N[tg N k]!).1)
 |0,e=>by
  constructor
  · intro h;cases h
  omega
 |n+1,e=>by
  rw [cB,abb,Bq];constructor
  · rintro (⟨k,h1,h2⟩|h)
    · grind
    unfold En at h
    grind
  rintro ⟨k,h1,h2,h3⟩
  by_cases q:k=n
  · subst q
    right;unfold En;rw [AC h2,h3];exact abk.2 rfl
  grind
section
variable {f : List Pt} {t : Int × Int} {N : List Nd} {r : Int}
theorem gO.par (h:gO f t N r) {k:Nat} (hk:k<aeP f):((k:Int)=r->tg N k=aeP N)/\((k:Int)≠r->tg N k<aeP N/\Below N k (tg N k)/\tg N k≠k/\Gj f t (tg N k) k)/\ ∀m,m<aeP N->Below N k m->m=tg N k:=by
 have ln:=h.len
 by_cases hr:(k:Int)=r
 · have none: ¬ ∃j,j<aeP N/\Below N k j:=by
    rintro ⟨j,hj,hb⟩;rcases h.pp.kids j (ab4 _) (by omega) _ hb with e|⟨_,_,_,_,_,_,e⟩
    · omega
    exact e hr.symm
   have e:tg N k=(aeP N):=by unfold tg;rw [dif_neg none]
   grind
 obtain ⟨j,_,j2,j3,j4⟩:=h.pp.up k (ab4 _) hk hr
 have ex: ∃j,j<aeP N/\Below N k j:=⟨j,by omega,j3⟩;have e:tg N k=j:=by unfold tg;rw [dif_pos ex];have:=ex.choose_spec;exact j4 _ (ab4 _) (by omega) this.2
 refine ⟨fun q=>absurd q hr,fun _=>?_,fun m hm hb=>by rw [e];exact j4 m (ab4 _) (by omega) hb⟩;rw [e];refine ⟨by omega,j3,?_,?_⟩
 · rcases h.pp.kids j (ab4 _) j2 _ j3 with q|⟨i,q,_,_,q2,_⟩
   · omega
   omega
 rcases h.pp.kids j (ab4 _) j2 _ j3 with q|⟨i,q,_,_,_,q2,_⟩
 · omega
 grind
theorem gO.Nc (bc:aT f) (h:gO f t N r):ve f (cB N (aeP f))/\(cB N (aeP f)).Nodup/\ ∀e∈cB N (aeP f),leads (bm f e.2) (bm f e.1) t:=by
 have ln:=h.len;have f1:=bc.1;have inf: ∀e∈cB N (aeP f),∃k j,k<aeP f/\j<aeP f/\j≠k/\Gj f t j k/\e=((f[k]!).1,(f[j]!).1):=by
  intro e he;obtain ⟨k,k1,k2,k3⟩:=Bq.1 he;have hp:=h.par k1;have hr:(k:Int)≠r:=fun q=>by omega
  obtain ⟨p1,p2,p3,p4⟩:=hp.2.1 hr;exact ⟨k,tg N k,k1,by omega,p3,p4,by rw [k3,h.ids k k1,h.ids _ (by omega)]⟩
 have hb: ∀e∈cB N (aeP f),j7 f e:=fun e he=>by obtain ⟨k,j,k1,j1,_,_,rfl⟩:=inf e he;exact ⟨⟨k,k1,rfl⟩,⟨j,j1,rfl⟩⟩
 refine ⟨⟨abg (nM N _) (by omega),fun e he=>?_,hb⟩,?_,fun e he=>?_⟩
 · obtain ⟨⟨p1,p2⟩,q1,q2⟩:=ad8 (bT bc (hb e he).1) (bT bc (hb e he).2)
   obtain ⟨k,j,k1,j1,ne,_,rfl⟩:=inf e he;have:(f[k]!).1≠(f[j]!).1:=fun q=>ne (nL bc.2.2 k1 j1 q).symm
   unfold eZ at p1 q1;unfold jq;omega
 · have go: ∀n,n<=aeP f->(cB N n).Nodup:=by
    intro n
    induction n with
    |zero=>exact fun _=>acr
    |succ n ih=>
     intro hn;rw [cB,ad1];refine ⟨ih (by omega),?_,fun x hx y hy e=>?_⟩
     · unfold En;split
       · exact abc.2 ⟨adW,acr⟩
       exact acr
     subst e
     obtain ⟨k,k1,_,k3⟩:=Bq.1 hx;unfold En at hy;split at hy
     · have hy:=abk.1 hy
       rw [k3] at hy;have e1:=(Prod.mk.inj hy).1;rw [h.ids k (by omega),h.ids n (by omega)] at e1;have:=nL bc.2.2 (by omega) (by omega) e1;omega
     cases hy
   grind
 obtain ⟨k,j,k1,j1,_,p,rfl⟩:=inf e he
 rw [mA bc.2.2 j1 rfl,mA bc.2.2 k1 rfl];exact p
end
theorem ahh {f:List Pt} (bc:aT f) {t:Int×Int} (r:bu t) (eR:jb t) {i j:Nat} (hi:i<aeP f) (hj:j<aeP f) (fy:i≠j):cP f[i]! f[j]! t=aeR (aeU (Gj f t i j),0):=by
 have ne:(f[i]!).1≠(f[j]!).1:=fun h=>fy (nL bc.2.2 hi hj h)
 rcases nY (bc.2.1 _ (aK hi)) (bc.2.1 _ (aK hj)) eR r with h|⟨h,_⟩
 · rw [h,Do ne];rfl
 omega
def eI (es:List Nat):List Int:=es.map fun e:Nat=>(e:Int)
theorem U7 (E:List Int) (m:Nat) (x:Int) (h:m+1<=aeP E):(gy E m [x]).length=(aeP E):=by
 unfold gy
 grind
theorem aaA (es:List Nat):(eI es).length=(aeP es):=WF ..
theorem adj (es:List Nat) {j:Nat} (h:j<aeP es):(eI es)[j]! =(es[j]!:Int):=by rw [getElem!_pos _ j (by rw [aaA];exact h),getElem!_pos es j h];exact adX ..
theorem U8 (es:List Nat) (m:Nat):eI (es.take m)=(eI es).take m:=List.map_take ..
def o2 (f:List Pt) (t:Int×Int) (e c:Nat) (i:Nat) (ls:Int) (N:List Nd) (E:List Int):=
 (e,c,f,((aeP f):Int),(i:Int),f,t.1,t.2,(0:Int),ls,N,E)
def o1 (f:List Pt) (t:Int×Int) (e c:Nat) (i:Nat) (ls:Int) (N:List Nd) (E:List Int) (left:Int):=
 (e,c,(i:Int),f,((aeP f):Int),(i:Int),f,t.1,t.2,(0:Int),ls,N,E,(f[i]!).1,(f[i]!).2.1,(f[i]!).2.2,(f[i]!).1,left,(-1:Int))
def zx (f:List Pt) (N:List Nd) (es:List Nat) (i m:Nat):List Nd:=
 (if m=0 then N else N.set es[m-1]! ((N[es[m-1]!]!).1,(N[es[m-1]!]!).2.1,(i:Int)))++[((f[i]!).1,if m<(aeP es) then (es[m]!:Int) else -1,-1)]
theorem al5 {f:List Pt} (bc:aT f) {t:Int×Int} (r:bu t) (eR:jb t) {i:Nat} (hi:i<aeP f) {es:List Nat} (hes: ∀e∈es,e<i) {N:List Nd} (hN:(aeP N)=i) {ls:Int} {E:List Int} (hE:E.take (aeP es)=eI es) (le:(aeP es)<=aeP E) (lE:(aeP E)<=1000):
 ∀(e:Nat),e<=aeP es->(∀j,e<=j->j<aeP es-> ¬Gj f t es[j]! i)->
  ∃(m:Nat) (E':List Int),m<=e/\(0<m->Gj f t es[m-1]! i)/\(∀j,m<=j->j<aeP es-> ¬Gj f t es[j]! i)/\E'.take (m+1)=eI (es.take m++[i])/\m+1<=aeP E'/\aeP E'<=aeP E+1/\
   aq sQ (o1 f t e (aeP E) i ls N E (if e<(aeP es) then (es[e]!:Int) else -1))=aeR (.next (o2 f t (m+1) (aeP E') (i+1) (if m=0 then (i:Int) else ls) (zx f N es i m) E')):=by
 have f1:=bc.1;have sc:=aM (show i<1000000000 by omega);have put: ∀m,m<=aeP es-> ∃E':List Int,E'.take (m+1)=eI (es.take m++[i])/\m+1<=aeP E'/\aeP E'<=aeP E+1/\
  ((m+1<=aeP E->E'=gy E m [(i:Int)])/\(¬m+1<=aeP E->E'=E.take m++[(i:Int)])):=by
  intro m hm;have tm:E.take m=eI (es.take m):=by rw [U8,<- hE,aea,ae0 hm]
  have ei:eI (es.take m++[i])=eI (es.take m)++[(i:Int)]:=ad4 ..;have lm:(E.take m++[(i:Int)]).length=m+1:=by rw [abd,aa9,If];omega
  by_cases h:m+1<=aeP E
  · refine ⟨gy E m [(i:Int)],?_,?_,?_,fun _=>rfl,fun q=>absurd h q⟩
    · unfold gy
      rw [ei,<- tm,List.take_append_of_le_length (by omega),abz (by omega)]
    · unfold gy;rw [abd];omega
    unfold gy;rw [abd,lm,abE,If];omega
  grind
 have en: ∀(s:Nat),([(i:Int)]:List Int).length=1:=fun _=>rfl
 have aaB: ∀{a b:Nat},a<=b->Nat.ble a b=aeS:=fun h=>Nat.ble_eq_true_of_le h
 have al6: ∀{a b:Nat},¬a<=b->Nat.ble a b=aeT:=fun h=>by
  grind [Nat.le_of_ble_eq_true]
 intro e
 induction e with
 |zero=>
  intro _ tF;obtain ⟨E',e1,e2,e3,e4,e5⟩:=put 0 (ab4 _);refine ⟨0,E',NE _,fun h=>absurd h (aez _),tF,e1,e2,e3,au ?_⟩;have ap: ∀x:Nd,aX N [x]=aeR (N++[x]):=fun x=>bA (by rw [If];omega)
  have ap2:aX (E.take 0) [(i:Int)]=aeR (E.take 0++[(i:Int)]):=bA (by rw [If,aa9];omega);unfold sQ o1 o2 zx
  by_cases h:0+1<=aeP E
  · simp (disch:=omega) only [aF,az,ww,ap,ai,If,aaB h,v6,aec,ad9,sc,e4 h,if_true]
    rw [U7 _ _ _ h]
  grind
 |succ e ih=>
  intro he tF;have tk:E.take (e+1)=eI (es.take (e+1)):=by rw [U8,<- hE,aea,ae0 he]
  have lt:(eI (es.take (e+1))).length=e+1:=by rw [aaA,aa9];omega
  have ge:aD (E.take (e+1)) ((e:Nat):Int)=aeR (es[e]!:Int):=by rw [tk,ar _ e (by omega),adj _ (by rw [aa9];omega),w8 (by omega)]
  have ew:aa .i64 (((e+1:Nat):Int) -1)=((e:Nat):Int):=by rw [eD ⟨by omega,by omega⟩];omega
  have eb:es[e]!<i:=hes _ (aK (by omega));have gp:=ar f es[e]! (by omega);have ah:=ahh bc r eR (i:=es[e]!) (by omega) hi (by omega);have gn:=ar N es[e]! (by omega);have ahj:((f[i]!).1,(f[i]!).2.1,(f[i]!).2.2)=f[i]!:=rfl
  by_cases c:Gj f t es[e]! i
  · rw [ay c] at ah
    obtain ⟨E',e1,e2,e3,e4,e5⟩:=put (e+1) he;refine ⟨e+1,E',NE _,fun _=>c,tF,e1,e2,e3,au ?_⟩;have ap: ∀(y x:Nd),aX (N.set es[e]! y) [x]=aeR (N.set es[e]! y++[x]):=fun y x=>bA (by rw [If,ab1];omega)
    have ap2:aX (E.take (e+1)) [(i:Int)]=aeR (E.take (e+1)++[(i:Int)]):=bA (by rw [If,aa9];omega);unfold sQ o1 o2 zx;rw [show e+1-1=e from rfl,Do (adY e),Do (adY e)]
    by_cases h:e+1+1<=aeP E
    · simp (disch:=omega) only [aF,ay,v6,ew,ge,ai,gp,ahj,ah,gn,eE,ap,If,aaB h,aec,ad9,sc,e4 h]
      rw [U7 _ _ _ h]
    simp (disch:=omega) only [aF,ay,v6,ew,ge,ai,gp,ahj,ah,gn,eE,ap,If,al6 h,ww,ap2,aaB,sc,e5 h]
    rw [show (E.take (e+1)++[(i:Int)]).length=e+1+1 from by rw [abd,aa9,If];omega]
  rw [show aeU (Gj f (t.1,t.2) es[e]! i)=aeT from az c] at ah
  obtain ⟨m,E',h1,h2,h3,h4,h5,h6,h7⟩:=ih (by omega) (fun j j1 j2=>by
   by_cases q:j=e
   · rw [q];exact c
   exact tF j (by omega) j2)
  refine ⟨m,E',by omega,h2,h3,h4,h5,h6,?_⟩;rw [AC (by omega)] at h7;rw [<- h7];refine aJ ?_;unfold sQ o1;simp (disch:=omega) only [aF,ay,v6,ew,ge,ai,gp,ahj,ah,ww,ad9,aba]
theorem adk {f:List Pt} {N:List Nd} {es:List Nat} {i m:Nat} (hN:(aeP N)=i) (hes: ∀e∈es,e<i) (hm:m<=aeP es):
 (zx f N es i m).length=i+1/\(zx f N es i m)[i]! =((f[i]!).1,if m<(aeP es) then (es[m]!:Int) else -1,-1)/\
 ∀k,k<i->((zx f N es i m)[k]!).1=(N[k]!).1/\((zx f N es i m)[k]!).2.1=(N[k]!).2.1/\((0<m/\k=es[m-1]!)->((zx f N es i m)[k]!).2.2=(i:Int))/\(¬(0<m/\k=es[m-1]!)->((zx f N es i m)[k]!).2.2=(N[k]!).2.2):=by
 unfold zx
 by_cases m0:m=0
 · grind
 grind
theorem al7 {f:List Pt} (bc:aT f) {t:Int×Int} (r:bu t) (eR:jb t): ∀(d i:Nat) (es:List Nat) (N:List Nd) (ls:Int) (E:List Int),aeP f-i<=d->i<=aeP f->aeP N=i->(∀k,k<i->(N[k]!).1=(f[k]!).1)->
 yP (Gj f t) N 0 i ls es->E.take (aeP es)=eI es->aeP es<=aeP E->aeP E<=i->
 ∃(Rm:Int) (N':List Nd),aq pJ (o2 f t (aeP es) (aeP E) i ls N E)=aeR (⟨Rm,N'⟩,0)/\gO f t N' Rm:=by
 have f1:=bc.1;have fin: ∀(es:List Nat) (N:List Nd) (ls:Int) (E:List Int),aeP N=aeP f->(∀k,k<aeP f->(N[k]!).1=(f[k]!).1)->yP (Gj f t) N 0 (aeP f) ls es->
  ∃(Rm:Int) (N':List Nd),aq pJ (o2 f t (aeP es) (aeP E) (aeP f) ls N E)=aeR (⟨Rm,N'⟩,0)/\gO f t N' Rm:=fun es N ls E h1 h2 h3=>
  ⟨ls,N,au (by unfold pJ o2;simp),⟨h1,h2,h3.pp⟩⟩
 intro d
 induction d with
 |zero=>
  intro i es N ls E hd hi h1 h2 h3 _ _ _;have:i=(aeP f):=by omega
  simp_all
 |succ d ih=>
  intro i es N ls E hd hi h1 h2 h3 h4 h5 h6
  by_cases he:i=aeP f
  · grind
  have xk:i<(aeP f):=by omega
  have o:=Bp bc.2.2 t;have mem:=h3.mem;have hes:=fun e he=>(mem e he).2
  obtain ⟨m,E',m1,m2,m3,m4,m5,m6,m7⟩:=al5 bc r eR xk hes h1 h4 h5 (by omega) (aeP es) (NE _) (fun j j1 j2=>by omega);rw [Do (aez _)] at m7;have st:pJ (o2 f t (aeP es) (aeP E) i ls N E)=aeR (.next (o2 f t (m+1) (aeP E') (i+1) (if m=0 then (i:Int) else ls) (zx f N es i m) E')):=by
   unfold pJ
   conv=>lhs;unfold o2
   simp (disch:=omega) only [ay,v6,ar f i xk,ai];exact m7
  obtain ⟨a1,a2,a3⟩:=adk h1 hes m1;have sp:=h3.add o m (ab4 _) xk m1 (fun j hj=>by
   by_cases q:j=m-1
   · grind
   · have hj':=hes _ (aK (show j<(aeP es) by omega))
     have Fx:=hes _ (aK (show m-1<(aeP es) by omega));exact o.tr _ es[m-1]! _ (by omega) (by omega) xk (h3.chain j (m-1) (by omega) (by omega)) (m2 (by omega))) m3
   (by rw [a2]) (by rw [a2]) (fun k _ hk=>by
    grind)
  have le:(es.take m++[i]).length=m+1:=by grind
  rw [aJ st];have:=ih (i+1) (es.take m++[i]) (zx f N es i m) (if m=0 then (i:Int) else ls) E' (by omega) (by omega) a1 (fun k hk=>by
   grind) sp (by rw [le];exact m4) (by omega) (by omega)
  rw [le] at this;exact this
theorem U9 {f:List Pt} (bc:aT f) {t:Int×Int} (r:bu t) (eR:jb t): ∃(ls:Int) (N:List Nd),rD ⟨f⟩ t=aeR (⟨ls,N⟩,0)/\gO f t N ls:=by
 obtain ⟨ls,N,h1,h2⟩:=al7 bc r eR (aeP f) 0 [] [] _ [] (by omega) (by omega) rfl (fun k hk=>by omega) (.nil (NE _)) rfl (NE _) (NE _);refine ⟨ls,N,?_,h2⟩;have hc:cY ⟨f⟩=aeR 0:=by rw [fq];exact congrArg aeR (gF.2 bc)
 unfold rD Ba;rw [hc,ai,aY rfl,ww,bQ eR,AC r,ai,ai,aY rfl,ww];exact h1
theorem ahk {f:List Pt} (bc:aT f) {t:Int×Int} (eR:jb t) {a b:Nat} (hb:b<=aeP f): ∀(d j C1:Nat),b-j<=d->j<=b->BK (Gj f t) a j C1-> ∃i:Nat,aq lA ((b:Int),(C1:Int),(j:Int),f,t)=aeR (i:Int)/\BK (Gj f t) a b i:=by
 have f1:=bc.1;have o:=Bp bc.2.2 t;have fin: ∀C1:Nat,BK _ a b C1-> ∃i:Nat,aq lA ((b:Int),(C1:Int),(b:Int),f,t)=aeR (i:Int)/\BK (Gj f t) a b i:=fun C1 h=>⟨C1,au (by unfold lA;simp),h⟩
 intro d
 induction d with
 |zero=>
  grind
 |succ d ih=>
  intro j C1 hd hj h
  by_cases he:j=b
  · grind
  have h1:=h.lo;have h2:=h.hi;have sc:=aM (show j<1000000000 by omega);have ld:=CR (bc.2.1 _ (aK (show j<(aeP f) by omega))) (bc.2.1 _ (aK (show C1<(aeP f) by omega))) eR
  by_cases c:Gj f t j C1
  · rw [show aeU (leads f[j]! f[C1]! t)=aeS from ay c] at ld
    rw [aJ (y:=((b:Int),(j:Int),((j+1:Nat):Int),f,t)) (by unfold lA;simp (disch:=omega) only [ay,v6,az,ww,ar,ai,ld,sc])];refine ih _ j (by omega) (by omega) ⟨by omega,by omega,fun k k1 k2 k3=>?_⟩
    by_cases q:k=C1
    · rw [q];exact c
    exact o.tr j C1 k (by omega) (by omega) (by omega) c (h.top k k1 (by omega) q)
  rw [show aeU (leads f[j]! f[C1]! t)=aeT from az c] at ld
  rw [aJ (y:=((b:Int),(C1:Int),((j+1:Nat):Int),f,t)) (by unfold lA;simp (disch:=omega) only [ay,v6,az,ww,ar,ai,ld,sc])];refine ih _ C1 (by omega) (by omega) ⟨h1,by omega,fun k k1 k2 k3=>?_⟩
  by_cases q:k=j
  · rw [q];exact o.tot j C1 (by omega) (by omega) (by omega) c
  exact h.top k k1 (by omega) k3
theorem ahl {f:List Pt} (bc:aT f) {t:Int×Int} (eR:jb t) {a b:Nat} (Po:a<b) (hb:b<=aeP f): ∃i:Nat,zV ⟨f⟩ t (a:Int) (b:Int)=aeR (i:Int)/\BK (Gj f t) a b i:=by have f1:=bc.1;obtain ⟨i,h1,h2⟩:=ahk bc eR hb (b- (a+1)) _ a (by omega) (by omega) (show BK (Gj f t) a (a+1) a from ⟨by omega,by omega,fun k k1 k2 k3=>by omega⟩);refine ⟨i,?_,h2⟩;unfold zV;rw [aJ (y:=((b:Int),(a:Int),((a+1:Nat):Int),f,t)) (by unfold lA;simp (disch:=omega) only [ay,v6,aM])];exact h1
theorem Rn (f:List Pt) (t:Int×Int) (a:Nat):zV ⟨f⟩ t (a:Int) (a:Int)=aeR (-1):=by refine au ?_;unfold lA;simp
theorem adl {f:List Pt} (bc:aT f) {t:Int×Int} (eR:jb t): ∀(d m a b:Nat) (N:List Nd),b-a<=d->d<m->a<=b->b<=aeP f->aeP N=aeP f->
 ∃(r:Int) (N':List Nd),kD m (f,t.1,t.2,0,(a:Int),(b:Int),N)=aeR (r,N')/\aeP N'=aeP f/\(∀k:Nat,(N'[k]!).1=(N[k]!).1)/\(∀k:Nat,(k<a\/b<=k)->N'[k]! =N[k]!)/\nZ (Gj f t) N' a b r:=by
 have f1:=bc.1;intro d
 induction d with
 |zero=>
  intro m a b N hd hm Po hb hN;have:a=b:=by omega
  subst this;cases m with
  |zero=>omega
  |succ m=>refine ⟨-1,N,?_,hN,fun _=>rfl,fun _ _=>rfl,.nil (NE _)⟩;show gA _ _=_;unfold gA;simp (disch:=omega) only [show ((t.1,t.2):Int×Int)=t from rfl,Rn f t a,ai,az,ww,beq_self_eq_true,v6]
 |succ d ih=>
  intro m a b N hd hm Po hb hN;cases m with
  |zero=>omega
  |succ m=>
  by_cases e:a=b
  · subst e
    refine ⟨-1,N,?_,hN,fun _=>rfl,fun _ _=>rfl,.nil (NE _)⟩;show gA _ _=_;unfold gA;simp (disch:=omega) only [show ((t.1,t.2):Int×Int)=t from rfl,Rn f t a,ai,az,ww,beq_self_eq_true,v6]
  obtain ⟨i,t1,t2⟩:=ahl bc eR (show a<b by omega) hb;have lo:=t2.lo;have hi:=t2.hi;obtain ⟨l,N1,g1,g2,g3,g4,g5⟩:=ih m a i N (by omega) (by omega) lo (by omega) hN;have gi:=ar N1 i (by omega);obtain ⟨rr,N2,k1,k2,k3,k4,k5⟩:=ih m (i+1) b (N1.set i ((N1[i]!).1,l,(N1[i]!).2.2)) (by omega) (by omega) (by omega) hb (by grind);have gj:=ar N2 i (by omega);have n2i:N2[i]! =((N1[i]!).1,l,(N1[i]!).2.2):=by rw [k4 i (.inl (by omega)),cf,AC ⟨rfl,by omega⟩]
  have n3i:(N2.set i ((N2[i]!).1,(N2[i]!).2.1,rr))[i]! =((N1[i]!).1,l,rr):=by grind
  have n3: ∀k,k≠i->(N2.set i ((N2[i]!).1,(N2[i]!).2.1,rr))[k]! =N2[k]!:=fun k hk=>by rw [cf,Do (fun w=>hk w.1)]
  have n1: ∀k,k≠i->(N1.set i ((N1[i]!).1,l,(N1[i]!).2.2))[k]! =N1[k]!:=fun k hk=>by rw [cf,Do (fun w=>hk w.1)]
  refine ⟨(i:Int),N2.set i ((N2[i]!).1,(N2[i]!).2.1,rr),?_,by grind,fun k=>?_,fun k hk=>?_,?_⟩
  · show gA _ _=_
    unfold gA;simp (disch:=omega) only [show ((t.1,t.2):Int×Int)=t from rfl,t1,ai,ay,v6,g1,gi,eE,aM,k1,gj,ab1,k2,hN,beq_self_eq_true]
  · by_cases q:k=i
    · rw [q,n3i,<- g3 i]
    rw [n3 k q,k3 k,n1 k q,g3 k]
  · rw [n3 k (by omega),k4 k (by omega),n1 k (by omega),g4 k (by omega)]
  refine .node t2 ?_ ?_
  · rw [n3i]
    refine g5.frame fun k h1 h2=>?_
    rw [n3 k (by omega),k4 k (.inl (by omega)),n1 k (by omega)]
  rw [n3i]
  refine k5.frame fun k h1 h2=>?_
  rw [n3 k (by omega)]
theorem W0 {f:List Pt} (bc:aT f) {t:Int×Int} (eR:jb t): ∃(ls:Int) (N:List Nd),A4 ⟨f⟩ t=aeR ⟨ls,N⟩/\gO f t N ls:=by
 have f1:=bc.1
 let ini:Nat->List Nd:=fun i=>(f.take i).map fun p=>(p.1,0,0)
 have il: ∀i,i<=aeP f->(ini i).length=i:=fun i hi=>by show (aef _ _).length=_;rw [WF,aa9];omega
 have key:=bg (body:=qe) (fun i=>((i:Int),f,t.1,t.2,0,0,ini i)) (aeP f) (fun i hi=>by
  have nx:ini (i+1)=ini i++[((f[i]!).1,0,0)]:=by show aef _ _=aef _ _++_;rw [dG hi,ad4];rfl
  unfold qe;simp (disch:=omega) only [aF,ay,v6,ar f i hi,ai,aM,nx];rw [bA (by rw [il i (by omega),If];omega),ai])
 obtain ⟨r,N,g1,g2,g3,_,g5⟩:=adl bc eR (aeP f) 1000000 0 (aeP f) _ (by omega) (by omega) (by omega) (NE _) (il _ (NE _));refine ⟨r,N,?_,⟨g2,fun k hk=>?_,g5⟩⟩
 · unfold A4 EU
   rw [show aq qe (0,f,t.1,t.2,0,0,[])=_ from key];rw [au (r:=(⟨r,N⟩:Tree)) (by unfold qe;have g1':ug (f,t.1,t.2,0,0,((aeP f):Int),ini (aeP f))=aeR _:=g1;simp (disch:=omega) only [aF,az,ww,g1',ai]),ai]
 grind
def note (U:List Int) (c:Int) (i:Nat):List Int:=if 0<=c then U.set c.toNat (i:Int) else U
def TB (N:List Nd) (U:List Int):Nat->List Int
 |0=>U
 |i+1=>note (note (TB N U i) (N[i]!).2.1 i) (N[i]!).2.2 i
theorem C2 (U:List Int) (c:Int) (i:Nat):(note U c i).length=(aeP U):=by unfold note;split<;>simp
theorem Br (N:List Nd) (U:List Int): ∀i,(TB N U i).length=aeP U
 |0=>rfl
 |i+1=>by rw [TB,C2,C2,Br N U i]
theorem Nf (U:List Int) (c:Int) (i k:Nat) (hk:k<aeP U):(note U c i)[k]! =if c=(k:Int) then (i:Int) else U[k]!:=by
 unfold note
 grind
theorem W3 {α:Type} [Inhabited α] {n i:Nat} (a:α) (h:i<n):(EQ n a)[i]! =a:=by
 grind
section
variable {f : List Pt} {t : Int × Int} {N : List Nd} {r : Int}
theorem gO.link (h:gO f t N r) {j:Nat} (hj:j<aeP f) {c:Int} (hc:(N[j]!).2.1=c\/(N[j]!).2.2=c):c= -1\/(0<=c/\c<aeP N):=by
 have ln:=h.len;rcases h.pp.kids j (ab4 _) hj c hc with e|⟨k,e,_,k2,_⟩
 · exact .inl e
 omega
theorem gO.ahm (h:gO f t N r) {U:List Int} (hU:(aeP U)=aeP N): ∀i,i<=aeP N-> ∀k,k<aeP N->(TB N U i)[k]! =if tg N k<i then (tg N k:Int) else U[k]!
 |0,_,k,_=>by rfl
 |i+1,hi,k,hk=>by
  have ln:=h.len;have ih:=h.ahm hU i (by omega) k hk;have p:=h.par (k:=k) (by omega);rw [TB,Nf _ _ _ _ (by rw [C2,Br];omega),Nf _ _ _ _ (by rw [Br];omega),ih]
  by_cases hb:Below N k i
  · have e:=p.2.2 i (by omega) hb
    rw [AC (show tg N k<i+1 by omega),<- e];rcases hb with q|q
    · omega
    rw [AC q]
  have n1:=fun q=>hb (.inl q)
  have n2:=fun q=>hb (.inr q)
  grind
def m1S (N:List Nd) (r:Int) (i:Nat) (j:Int) (U:List Int):=((i:Int),N,((aeP N):Int),(i:Int),(N[i]!).2.1,(N[i]!).2.2,j,(0:Int),r,N,U)
def m3S (N:List Nd) (r:Int) (i:Nat) (U:List Int):=(N,((aeP N):Int),(i:Int),(0:Int),r,N,U)
theorem I9 {U:List Int} {c:Int} (h0:0<=c) (h:c<aeP U): ∃x,aD U c=aeR x:=⟨_,kN h0 h⟩
theorem I' {U:List Int} {c:Int} (h0:0<=c) (x:Int):cA U c x=U.set c.toNat x:=by rfl
theorem adm (h:gO f t N r) (hN:(aeP N)<=1000) {i:Nat} (hi:i<aeP N) {U:List Int} (hU:(aeP U)=aeP N):aq kI (m1S N r i 0 U)=aeR (.next (m3S N r (i+1) (note (note U (N[i]!).2.1 i) (N[i]!).2.2 i))):=by
 have ln:=h.len;have l1:=h.link (j:=i) (by omega) (.inl rfl);have l2:=h.link (j:=i) (by omega) (.inr rfl);have s1:kI (m1S N r i 0 U)=aeR (.next (m1S N r i 1 (note U (N[i]!).2.1 i))):=by
  unfold kI m1S note;simp (disch:=omega) only [ay,v6,beq_self_eq_true,show aa .i64 (0+1)=1 from eD ⟨by omega,by omega⟩]
  by_cases q:0<=(N[i]!).2.1
  · obtain ⟨x,hx⟩:=I9 (U:=U) q (by omega)
    rw [ay q,v6,hx,ai,I' q,AC q]
  grind
 have s2: ∀V:List Int,aeP V=aeP N->kI (m1S N r i 1 V)=aeR (.next (m1S N r i 2 (note V (N[i]!).2.2 i))):=by
  intro V hV;unfold kI m1S note;simp (disch:=omega) only [ay,v6,show ((1:Int)==0)=aeT from rfl,ww,beq_self_eq_true,show aa .i64 (1+1)=2 from eD ⟨by omega,by omega⟩]
  by_cases q:0<=(N[i]!).2.2
  · obtain ⟨x,hx⟩:=I9 (U:=V) q (by omega)
    rw [ay q,v6,hx,ai,I' q,AC q]
  grind
 rw [aJ s1,aJ (s2 _ (by rw [C2];exact hU))];refine au ?_;unfold kI m1S m3S;simp (disch:=omega) only [az,ww,aM]
theorem TC (h:gO f t N r) (hN:(aeP N)<=1000):aq mR (((aeP N):Int),0,0,r,N,EQ (aeP N) 0)=aeR (⟨r,N⟩,cB N (aeP N)):=by
 have ln:=h.len;have k4:=bg (body:=mR) (fun i=>(((aeP N):Int),(i:Int),(0:Int),r,N,EQ i (-1)++EQ (aeP N-i) 0)) (aeP N) (fun i hi=>by
  have ll:(EQ i (-1:Int)++EQ (aeP N-i) 0).length=(aeP N):=by grind
  have e:(EQ i (-1:Int)++EQ (aeP N-i) 0).set i (-1)=EQ (i+1) (-1)++EQ (aeP N- (i+1)) 0:=by rw [show (aeP N)-i=(aeP N- (i+1))+1 by omega,List.replicate_succ,List.set_append_right _ _ (by simp),aaE,Nat.sub_self,List.set_cons_zero,List.replicate_succ',List.append_assoc];rfl
  unfold mR;simp (disch:=omega) only [ay,v6,ar,ai,eE,e,aM])
 have e0:EQ 0 (-1:Int)++EQ (aeP N-0) 0=EQ (aeP N) 0:=rfl;have e1:EQ (aeP N) (-1:Int)++EQ (aeP N-(aeP N)) 0=EQ (aeP N) (-1):=by simp
 rw [e0,e1] at k4;rw [show aq mR (((aeP N):Int),0,0,r,N,EQ (aeP N) 0)=_ from k4];have lU:(EQ (aeP N) (-1:Int)).length=(aeP N):=aaE ..;have k3:=bg (body:=mQ) (fun i=>m3S N r i (TB N (EQ (aeP N) (-1)) i)) (aeP N) (fun i hi=>by
  have g:=ar N i hi;unfold mQ
  conv=>lhs;unfold m3S
  simp (disch:=omega) only [ay,g,ai];exact adm h hN hi (by rw [Br,lU]))
 have up:=h.ahm lU (aeP N) (NE _);have k2:=bg (body:=mP) (fun i=>(N,((aeP N):Int),(i:Int),(0:Int),r,N,TB N (EQ (aeP N) (-1)) (aeP N),cB N i)) (aeP N) (fun i hi=>by
  have g:=ar N i hi;have gu:=ar (TB N (EQ (aeP N) (-1)) (aeP N)) i (by rw [Br,lU];exact hi);have el:=nM N i;rw [up i hi] at gu;unfold mP;rw [show cB N (i+1)=cB N i++En N i from rfl];unfold En
  by_cases q:tg N i<aeP N
  · rw [AC q] at gu
    simp (disch:=omega) only [ay,v6,g,gu,ai,ar N (tg N i) q,aM,AC q]
    grind [bA,If,ai]
  rw [Do q,W3 (-1) hi] at gu
  simp (disch:=omega) only [ay,v6,g,gu,ai,az,ww,aM,Do q,abe])
 have f2:aq mP (N,((aeP N):Int),0,0,r,N,TB N (EQ (aeP N) (-1)) (aeP N),[])=aeR (.done (.done (⟨r,N⟩,cB N (aeP N)))):=by rw [show aq mP (N,((aeP N):Int),0,0,r,N,TB N (EQ (aeP N) (-1)) (aeP N),[])=_ from k2];refine au ?_;unfold mP;simp
 have f3:aq mQ (m3S N r 0 (EQ (aeP N) (-1)))=aeR (.done (⟨r,N⟩,cB N (aeP N))):=by
  rw [show aq mQ (m3S N r 0 (EQ (aeP N) (-1)))=_ from k3];refine au ?_;unfold mQ m3S
  grind
 refine au ?_;unfold mR;simp (disch:=omega) only [aF,az,ww];exact f3
def q1S (N:List Nd) (r:Int) (i:Nat) (j:Int) (U:List Int):=((i:Int),N,((aeP N):Int),(i:Int),(N[i]!).2.1,(N[i]!).2.2,j,r,N,U)
def q3S (N:List Nd) (r:Int) (i:Nat) (U:List Int):=(N,((aeP N):Int),(i:Int),r,N,U)
theorem adn (h:gO f t N r) (hN:(aeP N)<=1000) {i:Nat} (hi:i<aeP N) {U:List Int} (hU:(aeP U)=aeP N):aq kM (q1S N r i 0 U)=aeR (.next (q3S N r (i+1) (note (note U (N[i]!).2.1 i) (N[i]!).2.2 i))):=by
 have ln:=h.len;have l1:=h.link (j:=i) (by omega) (.inl rfl);have l2:=h.link (j:=i) (by omega) (.inr rfl);have s1:kM (q1S N r i 0 U)=aeR (.next (q1S N r i 1 (note U (N[i]!).2.1 i))):=by
  unfold kM q1S note;simp (disch:=omega) only [ay,v6,beq_self_eq_true,show aa .i64 (0+1)=1 from eD ⟨by omega,by omega⟩]
  by_cases q:0<=(N[i]!).2.1
  · obtain ⟨x,hx⟩:=I9 (U:=U) q (by omega)
    rw [ay q,v6,hx,ai,I' q,AC q]
  grind
 have s2: ∀V:List Int,aeP V=aeP N->kM (q1S N r i 1 V)=aeR (.next (q1S N r i 2 (note V (N[i]!).2.2 i))):=by
  intro V hV;unfold kM q1S note;simp (disch:=omega) only [ay,v6,show ((1:Int)==0)=aeT from rfl,ww,beq_self_eq_true,show aa .i64 (1+1)=2 from eD ⟨by omega,by omega⟩]
  by_cases q:0<=(N[i]!).2.2
  · obtain ⟨x,hx⟩:=I9 (U:=V) q (by omega)
    rw [ay q,v6,hx,ai,I' q,AC q]
  grind
 rw [aJ s1,aJ (s2 _ (by rw [C2];exact hU))];refine au ?_;unfold kM q1S q3S;simp (disch:=omega) only [az,ww,aM]
theorem TD (h:gO f t N r) (hN:(aeP N)<=1000):o8 ⟨r,N⟩=aeR (cB N (aeP N)):=by
 have ln:=h.len;have lU:(EQ (aeP N) (0:Int)).length=(aeP N):=aaE ..;have mk:qd ((aeP N):Int) (0:Int)=aeR (EQ (aeP N) 0):=by unfold qd;rw [AC ⟨by omega,by omega⟩,aba]
 have k3:=bg (body:=o7) (fun i=>q3S N r i (TB N (EQ (aeP N) 0) i)) (aeP N) (fun i hi=>by
  have g:=ar N i hi;unfold o7
  conv=>lhs;unfold q3S
  simp (disch:=omega) only [ay,g,];exact adn h hN hi (by rw [Br,lU]))
 have up:=h.ahm lU (aeP N) (NE _);have k2:=bg (body:=mT) (fun i=>(N,((aeP N):Int),(i:Int),r,N,TB N (EQ (aeP N) 0) (aeP N),cB N i)) (aeP N) (fun i hi=>by
  have g:=ar N i hi;have gu:=ar (TB N (EQ (aeP N) 0) (aeP N)) i (by rw [Br,lU];exact hi);have el:=nM N i;have p:=h.par (k:=i) (by omega);rw [up i hi] at gu;unfold mT;rw [show cB N (i+1)=cB N i++En N i from rfl];unfold En
  by_cases q:(i:Int)=r
  · have e:=p.1 q
    simp (disch:=omega) only [ay,v6,g,ai,aY q,ww,aM,Do,abe]
  have e:=(p.2.1 q).1
  simp (disch:=omega) only [ay,v6,g,ai,db q,gu,ar N _ e,aM,AC e];rw [bA (by rw [If];omega),ai])
 have f2:aq mT (N,((aeP N):Int),0,r,N,TB N (EQ (aeP N) 0) (aeP N),[])=aeR (.done (cB N (aeP N))):=by rw [show aq mT (N,((aeP N):Int),0,r,N,TB N (EQ (aeP N) 0) (aeP N),[])=_ from k2];refine au ?_;unfold mT;simp (disch:=omega) only [az,ww]
 unfold o8;simp [mk,];rw [show aq o7 (N,((aeP N):Int),0,r,N,EQ (aeP N) 0)=_ from k3];refine au ?_;unfold o7 q3S
 grind
theorem ado (h:gO f t N r) (hN:(aeP N)<=1000) {i:Nat} (hi:i<aeP N):aq ru ((i:Int),0,r,N,cB N i)=aeR (.next (((i+1:Nat):Int),r,N,cB N (i+1))):=by
 have ln:=h.len;have p:=h.par (k:=i) (by omega);have el:=nM N i;have g:=ar N i hi;have key:=bg (body:=ru) (fun j=>((i:Int),(j:Int),r,N,cB N i++(if tg N i<j then [((N[i]!).1,(N[tg N i]!).1)] else []))) (aeP N) (fun j hj=>by
  have gj:=ar N j hj;unfold ru
  by_cases hb:Below N i j
  · have e:=p.2.2 j hj hb
    rw [Do (by omega),AC (by omega),abe];have ap:aX (cB N i) [((N[i]!).1,(N[j]!).1)]=aeR (cB N i++[((N[i]!).1,(N[j]!).1)]):=bA (by grind)
    by_cases q:(N[j]!).2.1=(i:Int)
    · simp (disch:=omega) only [aF,ay,v6,gj,g,ai,lL q,ap,aM,<- e]
    have q2:=hb.resolve_left q
    simp (disch:=omega) only [aF,ay,v6,gj,g,ai,jm q,ww,lL q2,ap,aM,<- e]
  have ne:tg N i≠j:=fun q=>by
   grind
  have n1:=fun q=>hb (.inl q)
  have n2:=fun q=>hb (.inr q)
  have e:(if tg N i<j+1 then [((N[i]!).1,(N[tg N i]!).1)] else [])=(if tg N i<j then [((N[i]!).1,(N[tg N i]!).1)] else []):=by
   grind
  simp (disch:=omega) only [aF,ay,v6,gj,ai,jm n1,jm n2,ww,aM,e])
 have e0:(if tg N i<0 then [((N[i]!).1,(N[tg N i]!).1)] else [])=[]:=Do (Nat.not_lt_zero _);rw [e0,abe] at key;rw [show aq ru ((i:Int),0,r,N,cB N i)=_ from key];refine au ?_;unfold ru;simp (disch:=omega) only [aF,az,ww,aM];rfl
theorem adp (h:gO f t N r) (hN:(aeP N)<=1000):F3 ⟨r,N⟩=aeR (cB N (aeP N)):=by have k:=bg (body:=vE) (fun i=>((i:Int),r,N,cB N i)) (aeP N) (fun i hi=>by unfold vE;simp (disch:=omega) only [aF,ay,];exact ado h hN hi);unfold F3;rw [show aq vE (0,r,N,[])=_ from k];refine au ?_;unfold vE;simp
end
theorem OR {f:List Pt} (bc:aT f) {t:Int×Int} (r:bu t) (eR:jb t): ∃(ls:Int) (N:List Nd),rE ⟨f⟩ t=aeR (⟨ls,N⟩,cB N (aeP f))/\gO f t N ls:=by
 have f1:=bc.1;obtain ⟨ls,N,h1,h2⟩:=U9 bc r eR;have ln:=h2.len;have mk:qd ((aeP N):Int) (0:Int)=aeR (EQ (aeP N) 0):=by unfold qd;rw [AC ⟨by omega,by omega⟩,aba]
 unfold rE
 grind [TC]
theorem TE:sR=kJ:=rfl
theorem U' (r r':Int) (a b:List Nd) (hl:(aeP a)<=1000000):rl ⟨r,a⟩ ⟨r',b⟩=aeR (aeU (r=r'/\a=b)):=by
 unfold rl;simp only [aF]
 by_cases h0:r=r'
 case neg=>grind
 rw [aY h0,ww]
 by_cases h:(aeP a)=aeP b
 case neg=>rw [db (by omega),v6,az (fun q=>h (by rw [q.2]))]
 rw [aY (by omega),ww];have key:=kQ (body:=sx) (fun i=>((i:Int),r,a,r',b)) (aeP a) (fun i=>a[i]! =b[i]!) (r:=aeT) (e:=aeS) (fun i hi=>by
  unfold sx;simp (disch:=omega) only [ar,aM]
  grind) (by
  unfold sx;simp)
 refine (key).trans ?_
 by_cases q:a=b
 · grind
 rw [Do (fun w=>q (mW h w)),az (fun w=>q w.2)]
theorem Va (c:aH) (es:List (Int×Int)) (h1:(aeP es)<=1000000) (_:(aeP c.af.ce)<=1000000):
 rF c es=aeR (aeU (aeP es=aeP c.af.ce/\ ∀i,i<aeP c.af.ce->(c.af.ce[i]!).2∈es)):=by
 unfold rF eX fJ;simp only [aF]
 by_cases h0:(aeP es)=aeP c.af.ce
 case neg=>rw [jm (by omega),ww,az (fun q=>h0 q.1)]
 rw [lL (by omega),v6];have key:=pf (body:=bS) (fun i=>(c.af.ce,es,((aeP c.af.ce):Int),(i:Int))) (aeP c.af.ce) (fun i=>(c.af.ce[i]!).2∉es) (fun i=>(i:Int)) (e:= -1) (fun i hi=>by
  unfold bS zg;simp only [ay (show (i:Int)<((aeP c.af.ce):Int) by omega),v6,ar c.af.ce i hi,ai,jX es _ h1,aM (show i<1000000000 by omega)];refine ⟨fun q=>?_,fun q=>?_⟩
  · rw [az q];rfl
  · rw [ay (UV.1 q)];rfl) (by
  unfold bS;simp only [az (show¬((aeP c.af.ce):Int)<((aeP c.af.ce):Int) by omega),ww])
 by_cases hx: ∀i,i<aeP c.af.ce->(c.af.ce[i]!).2∈es
 · rw [show aq bS (c.af.ce,es,((aeP c.af.ce):Int),0)=_ from key.2 (fun i hi=>UV.2 (hx i hi)),ai,ai,az (by omega),ay ⟨h0,hx⟩]
   rfl
 obtain ⟨i,hi⟩:=abv.1 hx
 obtain ⟨hi,hn⟩:=aby.1 hi;obtain ⟨m,m1,m2,m3⟩:=least (c:=fun i=>(c.af.ce[i]!).2∉es) ⟨i,hi,hn⟩;rw [show aq bS (c.af.ce,es,((aeP c.af.ce):Int),0)=_ from key.1 m m1 m2 m3,ai,ai,ay (by omega),az (fun w=>hx w.2)];rfl
structure gH (k:bC):Prop where
 fw:aQ k.kw
 pp:gO k.kw.io.am k.kw.ii k.pp.lw k.pp.ls
 cert:(k.kw.af.ce.map fun x=>x.2).Perm (cB k.pp.lw (aeP k.kw.io.am))
theorem IP {c:aH} (ok:aQ c) {N:List Nd} {r:Int} (_:gO c.io.am c.ii N r):
 ((cB N (aeP c.io.am)).length=aeP c.af.ce/\ ∀i,i<aeP c.af.ce->(c.af.ce[i]!).2∈cB N (aeP c.io.am))↔(c.af.ce.map fun x=>x.2).Perm (cB N (aeP c.io.am)):=by
 have cl:(c.af.ce.map fun x=>x.2).length=(aeP c.af.ce):=WF ..;constructor
 · rintro ⟨h1,h2⟩
   refine ft (ja ok.uw) (fun x hx=>?_) (by omega);obtain ⟨i,hi,rfl⟩:=dy.2 hx;exact h2 i hi
 intro h
 exact ⟨by rw [<- h.length_eq,cl],fun i hi=>h.mem_iff.1 (dy.1 ⟨i,hi,rfl⟩)⟩
theorem OS {c:aH} (ok:aQ c) {N:List Nd} {r:Int} (tr:gO c.io.am c.ii N r):
 (aeP c.af.ce=(cB N (aeP c.io.am)).length/\ ∀i,i<(cB N (aeP c.io.am)).length->qR c.af.ce (cB N (aeP c.io.am))[i]!/\leads (bm c.io.am ((cB N (aeP c.io.am))[i]!).2) (bm c.io.am ((cB N (aeP c.io.am))[i]!).1) c.ii)↔(c.af.ce.map fun x=>x.2).Perm (cB N (aeP c.io.am)):=by
 have cl:(c.af.ce.map fun x=>x.2).length=(aeP c.af.ce):=WF ..;obtain ⟨_,nd,ld⟩:=tr.Nc ok.eM;constructor
 · rintro ⟨h1,h2⟩
   refine (ft nd (fun x hx=>?_) (by omega)).symm;obtain ⟨i,hi,rfl⟩:=aS.1 hx;exact dy.1 (h2 i hi).1
 intro h
 exact ⟨by rw [<- h.length_eq,cl],fun i hi=>⟨dy.2 (h.mem_iff.2 (aK hi)),ld _ (aK hi)⟩⟩
theorem oa {k:bC} (fit:mY k.kw):iL k=aeR (if gH k then 0 else 8):=by
 unfold iL;rw [ia fit,ai]
 by_cases ok:aQ k.kw
 case neg=>rw [Do ok,Do (fun h=>ok h.fw)];rfl
 rw [AC ok,aY rfl,ww];have bd:=ok.bd;obtain ⟨r,N,h1,h2⟩:=OR ok.eM ok.hZ ok.dw;have same: ∀h:gH k,N=k.pp.lw/\r=k.pp.ls:=fun h=>h2.same ok.eM.2.2 h.pp
 rw [h1,ai]
 by_cases hr:r=k.pp.ls
 case neg=>grind
 have ln:=h2.len;rw [aY hr,ww,TE,Bj N k.pp.lw (by omega),ai]
 by_cases hn:N=k.pp.lw
 case neg=>grind
 have el:=nM N (aeP k.kw.io.am);rw [ay hn,abn,ww];show (rF k.kw (cB N (aeP k.kw.io.am))).bind _=_;rw [Va k.kw _ (by omega) (by omega),ai];have iff:=IP ok h2
 by_cases hj:(cB N (aeP k.kw.io.am)).length=aeP k.kw.af.ce/\ ∀i,i<aeP k.kw.af.ce->(k.kw.af.ce[i]!).2∈cB N (aeP k.kw.io.am)
 · rw [ay hj,AC (⟨ok,by grind,by grind⟩)];rfl
 rw [az hj,Do (fun h:gH k=>hj (iff.2 (by rw [hn];exact h.cert)))];rfl
theorem C3 {k:bC} (fit:mY k.kw):ry k=aeR (if gH k then 0 else 8):=by
 unfold ry;rw [tc fit,ai]
 by_cases ok:aQ k.kw
 case neg=>rw [Do ok,Do (fun h=>ok h.fw)];rfl
 rw [AC ok,aY rfl,ww];have bd:=ok.bd;obtain ⟨r,N,h1,h2⟩:=W0 ok.eM ok.dw;have same: ∀h:gH k,N=k.pp.lw/\r=k.pp.ls:=fun h=>h2.same ok.eM.2.2 h.pp
 have ln:=h2.len;have atg:k.pp=⟨k.pp.ls,k.pp.lw⟩:=rfl;rw [h1,ai,atg,U' _ _ _ _ (by omega),ai]
 by_cases hn:r=k.pp.ls/\N=k.pp.lw
 case neg=>grind
 obtain ⟨xX,_,_⟩:=h2.Nc ok.eM;rw [ay hn,abn,ww,adp h2 (by omega),ai,ln,I7 ok _ xX.kn,ai];have iff:=OS ok h2
 by_cases hj:(aeP k.kw.af.ce)=(cB N (aeP k.kw.io.am)).length/\ ∀i,i<(cB N (aeP k.kw.io.am)).length->qR k.kw.af.ce (cB N (aeP k.kw.io.am))[i]!/\leads (bm k.kw.io.am ((cB N (aeP k.kw.io.am))[i]!).2) (bm k.kw.io.am ((cB N (aeP k.kw.io.am))[i]!).1) k.kw.ii
 · rw [ay hj,AC (⟨ok,by grind,by grind⟩)];rfl
 rw [az hj,Do (fun h:gH k=>hj (iff.2 (by rw [hn.2];exact h.cert)))];rfl
structure OT (k:bC):Prop where
 c:BJ k.kw
 n:(aeP k.pp.lw)<=1000
theorem Is {k:bC} (h:OT k):jw k k=aeR aeS:=by have hn:=h.n;unfold jw;rw [Bk h.c,ai,v6,U' k.pp.ls k.pp.ls k.pp.lw k.pp.lw (by omega),ai,ay ⟨rfl,rfl⟩]
theorem OU (k:bC):vA k=aeR aeS\/(vA k=aeR aeT/\OT k):=by
 unfold vA CF
 rcases yM k.kw with e|⟨e,sh⟩
 · grind
 rw [e,ai,ww,ai,aF]
 by_cases h:70<aeP k.pp.lw
 · grind
 rw [az (by omega)];exact .inr ⟨rfl,sh,by omega⟩
theorem K7 {α:Type} [BEq α] [LawfulBEq α]: ∀{a b:List α},a.Nodup->(∀x∈a,x∈b)->aeP a<=aeP b
 | [],_,_,_=>ab4 _
 |x::a,b,hd,h=>by
  rw [abc] at hd;have:=K7 (b:=b.erase x) hd.2 (fun y hy=>by rw [acl (fun e=>hd.1 (by rw [<- e];exact hy))];exact h y (IR _ hy))
  grind
theorem yQ {α:Type} [BEq α] [LawfulBEq α] {a b:List α} (ha:a.Nodup) (hb:b.Nodup) (h1: ∀x∈a,x∈b) (h2: ∀x∈b,x∈a):a.Perm b:=ft ha h1 (K7 hb h2)
theorem E4 {c:aH} (ok:aQ c) {es:List _} (xX:ve c.io.am es) (pm:(c.af.ce.map fun x=>x.2).Perm es):oY c c.io es=aeR (c,0):=by
 have bd:=ok.bd;have el:=xX.len;have k1:=bg (body:=dF) (fun i=>kP c c.io.am es i c) (aeP c.af.ce) (fun i hi=>by have D1:=pm.mem_iff.1 (dy.1 ⟨i,hi,rfl⟩);unfold dF kP;simp (disch:=omega) only [ay,v6,ar c.af.ce i hi,ai,jX _ _ xX.len,abn,ww,aM]);refine (k1).trans (au ?_);unfold dF kP;simp (disch:=omega) only [az,Bj,];have k2:=bg (body:=dX) (fun i=>eP es i c) (aeP es) (fun i hi=>by have D1:=dy.2 (pm.mem_iff.2 (aK hi));unfold dX eP;simp (disch:=omega) only [ay,v6,ar es i hi,ai,DI,KS,aM]);refine (k2).trans (au ?_);unfold dX eP;simp
structure W4 (R:bC) (F:List Pt) (t:Int×Int):Prop where
 ok:gH R
 eM:R.kw.io.am=F
 ii:R.kw.ii=t
abbrev noH:bC:=⟨cS,⟨0,[]⟩⟩
theorem K8 {k:bC} (ok:gH k) {F:List Pt} (nb:aT F): ∃R:bC×Int,
 ((rD ⟨F⟩ k.kw.ii).bind fun a2=>(o8 a2.1).bind fun l3=>(fL k.kw ⟨F⟩ l3).bind fun a4=>
  bif a4.2 !=0 then aeR (bC.mk (aH.mk (0,0) (Field.mk []) (bX.mk 0 []) (aV.mk (bD.mk [] [] []) [] []) []) (Tree.mk 0 []),a4.2) else aeR (bC.mk a4.1 a2.1,0))=aeR R/\
 (R=(noH,18)\/R.2=0/\W4 R.1 F k.kw.ii)/\(F=k.kw.io.am->R=(k,0)):=by
 obtain ⟨r,N,h1,h2⟩:=U9 nb ok.fw.hZ ok.fw.dw;have ln:=h2.len;have el:=nM N (aeP F);obtain ⟨xX,nd,_⟩:=h2.Nc nb;have:=nb.1;obtain ⟨S,r1,r3⟩:=Ad ok.fw nb xX nd (by omega);rw [<- ln] at r1;have ee:=TD h2 (by omega);refine ⟨if S.2=0 then (⟨S.1,⟨r,N⟩⟩,0) else (noH,S.2),?_,?_,fun hF=>?_⟩
 · rw [h1,ai,ee,ai,r1,ai]
   by_cases c:S.2=0
   · rw [AC c,aY c];rfl
   grind
 · rcases r3 with ⟨q0,qq⟩|he
   · rw [AC q0]
     refine .inr ⟨rfl,⟨qq.ok,?_,?_⟩,qq.eM,qq.ii⟩
     · show gO S.1.io.am S.1.ii N r
       rw [qq.eM,qq.ii];exact h2
     rw [qq.eM]
     exact yQ (ja qq.ok.uw) nd (fun x hx=>by obtain ⟨y,hy,rfl⟩:=ab3.1 hx;exact qq.sub y hy) (fun x hx=>dy.1 (qq.has x hx))
   simp_all
 subst hF
 obtain ⟨e1,e2⟩:=h2.same nb.2.2 ok.pp;obtain ⟨c,⟨r',N'⟩⟩:=k;subst e1 e2;have rs:=E4 ok.fw xX ok.cert;have rn:=xQ ok.fw nb (by have:=nM N (aeP c.io.am);have h2:=nb.1;omega) (fun _=>rs);rw [AC (by unfold mB;rw [Do (UV.2 xX.cv),Do (UV.2 nd),Do (fun h=>h xX.kn)]),<- ln] at rn
 grind
theorem aaC {k:bC} (ok:gH k) (p:Pt):(∃e:Int,e≠0/\dY k.kw.io p=aeR (⟨[]⟩,e)/\w7 k p=aeR (noH,e))\/
 ∃m,Na k.kw.io.am p m/\ ¬dO k.kw.io.am p.1/\eZ p/\aeP k.kw.io.am<64/\dY k.kw.io p=aeR (⟨p6 k.kw.io.am m p⟩,0)/\
  ∃R:bC×Int,w7 k p=aeR R/\(R=(noH,18)\/R.2=0/\W4 R.1 (p6 k.kw.io.am m p) k.kw.ii):=by
 have c1:=oa ok.fw.fit;have bc:=ok.fw.eM;rcases tf bc p with ⟨e,e0,t1⟩|⟨m,hm,hp,po,iz,t1⟩
 · have t1:dY k.kw.io p=aeR _:=t1
   refine .inl ⟨e,e0,t1,?_⟩;unfold w7 hO yG
   grind
 have t1:dY k.kw.io p=aeR _:=t1
 obtain ⟨R,s1,s2,_⟩:=K8 ok (I8 bc po hm iz);unfold w7 hO yG
 grind
theorem W5 {k:bC} (ok:gH k) (id:Int):(¬dO k.kw.io.am id/\dL k.kw.io id=aeR (⟨[]⟩,6)/\uu k id=aeR (noH,6))\/
 ∃q,q<aeP k.kw.io.am/\(k.kw.io.am[q]!).1=id/\dL k.kw.io id=aeR (⟨k.kw.io.am.eraseIdx q⟩,0)/\
  ∃R:bC×Int,uu k id=aeR R/\(R=(noH,18)\/R.2=0/\W4 R.1 (k.kw.io.am.eraseIdx q) k.kw.ii):=by
 have c1:=oa ok.fw.fit;rw [AC ok] at c1;have bc:=ok.fw.eM
 by_cases NZ:dO k.kw.io.am id
 case neg=>have t1:=wW bc NZ;refine .inl ⟨NZ,t1,?_⟩;unfold uu gK wT;rw [c1,ai,aY rfl,ww,t1];rfl
 obtain ⟨q,hq,rfl⟩:=NZ;have t1:=Bo bc hq;have t1:dL k.kw.io _=aeR _:=t1;obtain ⟨R,s1,s2,_⟩:=K8 ok (Gi bc q);unfold uu gK wT
 grind
theorem Ro {k:bC} (ok:gH k) (p:Pt):(∃e:Int,e≠0/\cd k.kw.io p=aeR (⟨[]⟩,e)/\pM k p=aeR (noH,e))\/
 ∃q,q<aeP k.kw.io.am/\(k.kw.io.am[q]!).1=p.1/\eZ p/\cd k.kw.io p=aeR (⟨k.kw.io.am.set q p⟩,0)/\
  ∃R:bC×Int,pM k p=aeR R/\(R=(noH,18)\/R.2=0/\W4 R.1 (k.kw.io.am.set q p) k.kw.ii)/\(k.kw.io.am.set q p=k.kw.io.am->R=(k,0)):=by
 have c1:=oa ok.fw.fit;have bc:=ok.fw.eM;rcases oz bc p with ⟨e,e0,t1⟩|⟨q,hq,he,po,t1⟩
 · have t1:cd k.kw.io p=aeR _:=t1
   refine .inl ⟨e,e0,t1,?_⟩;unfold pM fO s5
   grind
 have t1:cd k.kw.io p=aeR _:=t1
 obtain ⟨R,s1,s2,s3⟩:=K8 ok (OQ bc po hq he);unfold pM fO s5
 grind
theorem Ja {f:List Pt} {m:Nat} {p q:Pt}:q∈p6 f m p↔q=p\/q∈f:=by
 unfold p6
 grind [abo,abu,ad6]
theorem DM {f:List Pt} (hs:fo f) {q:Nat} (hq:q<aeP f) {p:Pt}:p∈f.eraseIdx q↔p∈f/\p.1≠(f[q]!).1:=by
 rw [List.mem_eraseIdx_iff_getElem];constructor
 · rintro ⟨i,hi,fy,rfl⟩
   refine ⟨List.getElem_mem _,fun e=>?_⟩;rw [<- getElem!_pos f i hi] at e;rcases PP i q with c|c|c
   · have:=eO hs c hq;omega
   · exact fy c
   have:=eO hs c hi;omega
 rintro ⟨hp,fy⟩
 obtain ⟨i,hi,rfl⟩:=aS.1 hp
 grind
theorem Gk {f:List Pt} (hs:fo f) {q:Pt} (h:q∈f):bm f q.1=q:=by obtain ⟨i,hi,rfl⟩:=aS.1 h;exact mA hs hi rfl
theorem DN {f:List Pt} (hs:fo f) {x:Int} (h:dO f x):bm f x∈f/\(bm f x).1=x:=by
 obtain ⟨i,hi,rfl⟩:=h
 grind [Gk,aK]
theorem Hy {f g:List Pt} (hf:fo f) (hg:fo g) {x:Int} (h:dO f x) (hm:bm f x∈g):bm g x=bm f x:=by
 grind [Gk,DN]
theorem pQ {f:List Pt} (hs:fo f) (t:Int×Int):SO (fun a b=>leads (bm f a) (bm f b) t) (dO f) where
 irr:=fun a _ h=>vM h h
 tr:=fun _ _ _ _ _ _ h k=>Ip h k
 tot:=fun a b ha hb fy=>by
  grind [pq,DN]
abbrev pW (f:List Pt) (t:Int×Int) (a b:Int):Prop:=leads (bm f a) (bm f b) t
theorem Ng {f:List Pt} (hs:fo f) {t:Int×Int} {l:List Int} (hp: ∀x∈l,dO f x) (nd:l.Nodup):(∀e∈eH l,leads (bm f e.2) (bm f e.1) t)↔Hp (pW f t) l:=by
 constructor
 · intro h j h1 h2 c
   have hm:(l[j]!,l[par j]!)∈eH l:=by
    refine aS.2 ⟨j-1,by rw [lW];omega,?_⟩
    grind [yN]
   exact vM c (h _ hm)
 intro h e he
 obtain ⟨i,hi,rfl⟩:=aS.1 he;rw [lW] at hi;rw [yN l hi];have:=h (i+1) (by omega) (by omega);have pe:par (i+1)=i / 2:=by rfl
 rw [pe] at this;refine pq t ?_ this;rw [(DN hs (hp _ (aK (by omega)))).2,(DN hs (hp _ (aK (by omega)))).2];exact fun e=>bI.1 nd (i / 2) (i+1) (by omega) (by omega) e.symm
structure W6 (R:bE) (F:List Pt) (t:Int×Int):Prop where
 ok:jP R
 eM:R.kw.io.am=F
 ii:R.kw.ii=t
theorem jP.len {k:bE} (h:jP k):(aeP k.bv)=(aeP k.kw.io.am):=by rw [<- h.perm.length_eq];exact WF ..
theorem jP.bd {k:bE} (h:jP k):(aeP k.bv)<=64:=by have:=h.len;have:=h.fw.eM.1;omega
theorem jP.has {k:bE} (h:jP k): ∀x∈k.bv,dO k.kw.io.am x:=fun _ hx=>dz.1 (h.perm.mem_iff.2 hx)
theorem jP.nd {k:bE} (h:jP k):k.bv.Nodup:=h.perm.nodup_iff.1 (eF h.fw.eM.2.2)
theorem jP.hp {k:bE} (h:jP k):Hp (pW k.kw.io.am k.kw.ii) k.bv:=(Ng h.fw.eM.2.2 h.has h.nd).1 h.lead
abbrev noK:bE:=⟨cS,[]⟩
theorem It {c:aH} (ok:aQ c) {f:List Pt} (bc:aT f) {l:List Int} (pm:(ed f).Perm l):
 ∃R:bE×Int,bo c ⟨f⟩ l=aeR R/\(R=(noK,18)\/R.2=0/\R.1.bv=l/\BI c f (eH l) R.1.kw)/\(f=c.io.am->(c.af.ce.map fun x=>x.2).Perm (eH l)->R=(⟨c,l⟩,0)):=by
 have f1:=bc.1;have ln:(aeP l)=(aeP f):=by rw [<- pm.length_eq];exact WF ..
 have xX:=K2 bc pm;have nd:=pm.nodup_iff.1 (eF bc.2.2);obtain ⟨r,r1,r3⟩:=OL ok bc xX;have ee:mB f (eH l)=0:=by unfold mB;rw [Do (UV.2 xX.cv),Do (UV.2 (yO nd)),Do (fun h=>h xX.kn)]
 have rn:=xQ ok bc (es:=eH l) (by rw [lW];omega) (fun _=>r1);rw [AC ee] at rn;rcases r3 with ⟨q0,q⟩|he
 · refine ⟨(⟨r.1,l⟩,0),?_,.inr ⟨rfl,rfl,q⟩,fun hf hc=>?_⟩
   · unfold bo
     rw [C0 l (by omega),ai,rn,ai,q0];rfl
   subst hf
   have:=E4 ok xX hc;have e:r=(c,0):=ae3 (r1.symm.trans this);rw [e]
 refine ⟨(noK,18),?_,.inl rfl,fun hf hc=>?_⟩
 · unfold bo
   rw [C0 l (by omega),ai,rn,ai,he];rfl
 subst hf
 have:=E4 ok xX hc;have e:r=(c,0):=ae3 (r1.symm.trans this);rw [he] at e;cases e
theorem BI.bv {c:aH} {f:List Pt} (bc:aT f) {l:List Int} (pm:(ed f).Perm l) {R:bE} (e:R.bv=l) (q:BI c f (eH l) R.kw) (h:Hp (pW f c.ii) l):W6 R f c.ii:=by
 have nd:=pm.nodup_iff.1 (eF bc.2.2);refine ⟨⟨q.ok,by rw [q.eM,e];exact pm,?_,?_⟩,q.eM,q.ii⟩
 · rw [e]
   exact yQ (ja q.ok.uw) (yO nd) (fun x hx=>by obtain ⟨y,hy,rfl⟩:=ab3.1 hx;exact q.sub y hy) (fun x hx=>dy.1 (q.has x hx))
 rw [e,q.eM,q.ii]
 exact (Ng bc.2.2 (fun x hx=>dz.1 (pm.mem_iff.2 hx)) nd).2 h
noncomputable def Cx (c:aH) (f:List Pt) (l:List Int):bE×Int:=(bo c ⟨f⟩ l).getD (noK,0)
theorem Jb {c:aH} (ok:aQ c) {f:List Pt} (bc:aT f) {l:List Int} (pm:(ed f).Perm l):bo c ⟨f⟩ l=aeR (Cx c f l):=by obtain ⟨R,h,_⟩:=It ok bc pm;unfold Cx;rw [h];rfl
theorem Gl {c:aH} (ok:aQ c) {f:List Pt} (bc:aT f) {l:List Int} (pm:(ed f).Perm l) (hh:Hp (pW f c.ii) l):
 (Cx c f l=(noK,18)\/(Cx c f l).2=0/\W6 (Cx c f l).1 f c.ii/\(Cx c f l).1.bv=l)/\(f=c.io.am->(c.af.ce.map fun x=>x.2).Perm (eH l)->Cx c f l=(⟨c,l⟩,0)):=by
 obtain ⟨R,h,k1,k2⟩:=It ok bc pm;have e:Cx c f l=R:=by unfold Cx;rw [h];rfl
 rw [e];exact ⟨k1.imp id fun ⟨a,b,d⟩=>⟨a,d.bv bc pm b hh,b⟩,k2⟩
theorem aaD {k:bE} (ok:jP k) (p:Pt):(∃e:Int,e≠0/\dY k.kw.io p=aeR (⟨[]⟩,e)/\w5 k p=aeR (noK,e))\/
 ∃m,Na k.kw.io.am p m/\ ¬dO k.kw.io.am p.1/\eZ p/\aeP k.kw.io.am<64/\dY k.kw.io p=aeR (⟨p6 k.kw.io.am m p⟩,0)/\
  ∃R:bE×Int,w5 k p=aeR R/\(R=(noK,18)\/R.2=0/\W6 R.1 (p6 k.kw.io.am m p) k.kw.ii):=by
 have c1:=ph ok.fw.fit (by have:=ok.bd;omega);rw [AC ok] at c1;have bc:=ok.fw.eM;rcases tf bc p with ⟨e,e0,t1⟩|⟨m,hm,hp,po,iz,t1⟩
 · have t1:dY k.kw.io p=aeR (⟨[]⟩,e):=t1
   refine .inl ⟨e,e0,t1,?_⟩;unfold w5;grind
 have nb:=I8 bc po hm iz;have Vb: ∀x,dO k.kw.io.am x->bm (p6 k.kw.io.am m p) x=bm k.kw.io.am x:=fun x hx=>Hy bc.2.2 nb.2.2 hx (Ja.2 (.inr (DN bc.2.2 hx).1))
 have hn:=ok.len;have pm:(ed (p6 k.kw.io.am m p)).Perm (k.bv++[p.1]):=by
  have e1:ed (p6 k.kw.io.am m p)=(ed k.kw.io.am).take m++p.1::(ed k.kw.io.am).drop m:=by unfold p6 ed;simp
  rw [e1];refine List.perm_middle.trans ?_;rw [ad6];exact (aet _ ok.perm).trans (List.perm_append_singleton _ _).symm
 have ll:(k.bv++[p.1]).length=aeP k.bv+1:=by simp
 have lo:k9 (p6 k.kw.io.am m p) (aeP k.bv+1) (k.bv++[p.1]):=⟨ll,by omega,fun y hy=>dz.1 (pm.mem_iff.2 hy),pm.nodup_iff.1 (eF nb.2.2)⟩;have go:=al4 (P:=p) (c0:=p) ⟨ok.fw,nb⟩ ll (fun l hl=>Jb ok.fw nb (pm.trans hl.symm)) (aeP k.bv) (k.bv++[p.1]) (by omega) lo (abA _);have pr:=Bn (p6 k.kw.io.am m p) k.kw.ii (aeP k.bv) (k.bv++[p.1]) (by omega);have ew:aa .i64 (((aeP k.bv+1:Nat):Int) -1)=((aeP k.bv):Int):=by grind [eD]
 have ap:aX k.bv [p.1]=aeR (k.bv++[p.1]):=bA (by grind);have hh:Hp (pW (p6 k.kw.io.am m p) k.kw.ii) (nv (p6 k.kw.io.am m p) k.kw.ii (aeP k.bv) (k.bv++[p.1])):=by
  refine M8 (pQ nb.2.2 k.kw.ii) (fun _ _=>aeI) _ _ lo.hp ⟨by omega,fun j j1 j2 j3=>?_,fun j j1 j2 j3 j4=>by grind⟩;have b1:(k.bv++[p.1])[j]! =k.bv[j]!:=by grind
  have b2:(k.bv++[p.1])[par j]! =k.bv[par j]!:=by grind
  rw [b1,b2];have hj:=ok.has _ (aK (show j<(aeP k.bv) by omega));have hq:=ok.has _ (aK (show par j<(aeP k.bv) by grind));show¬leads _ _ _;rw [Vb _ hj,Vb _ hq];exact ok.hp j j1 (by omega)
 refine .inr ⟨m,hm,hp,po,iz,t1,_,?_,((Gl ok.fw nb (pm.trans pr.symm) hh).1).imp id fun h=>⟨h.1,h.2.1⟩⟩;unfold w5;simp (disch:=omega) only [c1,ai,t1,cj,ap,beq_self_eq_true,aF,ll,ew];exact go
theorem Vc {f:List Pt} {q:Nat} (hq:q<aeP f) {p:Pt} (he:(f[q]!).1=p.1):ed (f.set q p)=ed f:=by
 unfold ed;refine List.ext_getElem? fun j=>?_
 grind
theorem Rp {k:bE} (ok:jP k) (p:Pt):(∃e:Int,e≠0/\cd k.kw.io p=aeR (⟨[]⟩,e)/\pK k p=aeR (noK,e))\/
 ∃q,q<aeP k.kw.io.am/\(k.kw.io.am[q]!).1=p.1/\eZ p/\cd k.kw.io p=aeR (⟨k.kw.io.am.set q p⟩,0)/\
  ∃R:bE×Int,pK k p=aeR R/\(R=(noK,18)\/R.2=0/\W6 R.1 (k.kw.io.am.set q p) k.kw.ii)/\(k.kw.io.am.set q p=k.kw.io.am->R=(k,0)):=by
 have c1:=ph ok.fw.fit (by have:=ok.bd;omega);rw [AC ok] at c1;have bc:=ok.fw.eM;have f1:=bc.1;rcases oz bc p with ⟨e,e0,t1⟩|⟨q,hq,he,po,t1⟩
 · have t1:cd k.kw.io p=aeR (⟨[]⟩,e):=t1
   refine .inl ⟨e,e0,t1,?_⟩;unfold pK;grind
 have nb:=OQ bc po hq he;have Vb: ∀x,dO k.kw.io.am x->x≠p.1->bm (k.kw.io.am.set q p) x=bm k.kw.io.am x:=fun x hx fy=>by
  refine Hy bc.2.2 nb.2.2 hx ?_;obtain ⟨i,hi,rfl⟩:=hx;rw [mA bc.2.2 hi rfl];refine aS.2 ⟨i,by rw [ab1];exact hi,?_⟩
  grind
 have hn:=ok.len;have pm:(ed (k.kw.io.am.set q p)).Perm k.bv:=by rw [Vc hq he];exact ok.perm
 have aho:=ok.perm.mem_iff.1 (dz.2 ⟨q,hq,he⟩);obtain ⟨a,a1,a2,a3⟩:=Ae (by omega) aho;have lo:k9 (k.kw.io.am.set q p) (aeP k.bv) k.bv:=⟨rfl,by omega,fun y hy=>dz.1 (pm.mem_iff.2 hy),pm.nodup_iff.1 (eF nb.2.2)⟩;have go:=al3 (P:=p) ⟨ok.fw,nb⟩ rfl (fun l hl=>Jb ok.fw nb (pm.trans hl.symm)) a k.bv a1 lo (abA _);have pr:=Bn (k.kw.io.am.set q p) k.kw.ii a k.bv a1;have ri:=(K4 (k.kw.io.am.set q p) k.kw.ii a k.bv a1).1;have pk:=(K5 (k.kw.io.am.set q p) k.kw.ii _ (nv (k.kw.io.am.set q p) k.kw.ii a k.bv) (vL (k.kw.io.am.set q p) k.kw.ii a k.bv) (NE _) (by rw [pr.length_eq];exact ri)).trans pr;have nea: ∀j,j<aeP k.bv->j≠a->k.bv[j]!≠p.1:=fun j hj fy e=>by
  rcases PP j a with c|c|c
  · exact bI.1 ok.nd j a c a1 (e.trans a2.symm)
  · exact fy c
  exact bI.1 ok.nd a j c hj (a2.trans e.symm)
 have hh:=Iq (pQ nb.2.2 k.kw.ii) (fun _ _=>aeI) lo.hp a1 (fun j j1 j2 j3 j4=>by
  have q2:par j<(aeP k.bv):=by grind
  show¬leads _ _ _;rw [Vb _ (ok.has _ (aK j2)) (nea j j2 j3),Vb _ (ok.has _ (aK q2)) (nea _ q2 j4)];exact ok.hp j j1 j2) (fun j j1 j2 j3 j4=>by
  have q2:par a<(aeP k.bv):=by grind
  have n1:j≠a:=by grind
  have n2:par a≠a:=by grind
  show¬leads _ _ _;rw [Vb _ (ok.has _ (aK j2)) (nea j j2 n1),Vb _ (ok.has _ (aK q2)) (nea _ q2 n2)];have h1:=ok.hp j j1 j2;rw [j3] at h1;exact (pQ bc.2.2 k.kw.ii).ntr (ok.has _ (aK j2)) (ok.has _ (aK a1)) (ok.has _ (aK q2)) h1 (ok.hp a j4 a1))
 obtain ⟨s1,s2⟩:=Gl ok.fw nb (pm.trans pk.symm) hh;refine .inr ⟨q,hq,he,po,t1,_,?_,s1.imp id fun h=>⟨h.1,h.2.1⟩,fun hF=>?_⟩
 · unfold pK
   simp (disch:=omega) only [c1,ai,t1,cj,beq_self_eq_true,a3];exact go
 have so:=pQ nb.2.2 k.kw.ii
 have e0:Hp (pW (k.kw.io.am.set q p) k.kw.ii) k.bv:=by rw [hF];exact ok.hp
 obtain ⟨e1,e2⟩:=M9 (fun h0=>e0 a h0 a1);have e3:=M' so (fun _ _=>aeI) (fun j hj=>lo.hp _ (aK hj)) e0 a1;rw [e1,e2,e3] at s2 ⊢;exact s2 hF ok.cert
theorem W7 {k:bE} (ok:jP k) (id:Int):(¬dO k.kw.io.am id/\dL k.kw.io id=aeR (⟨[]⟩,6)/\qM k id=aeR (noK,6))\/
 ∃q,q<aeP k.kw.io.am/\(k.kw.io.am[q]!).1=id/\dL k.kw.io id=aeR (⟨k.kw.io.am.eraseIdx q⟩,0)/\
  ∃R:bE×Int,qM k id=aeR R/\(R=(noK,18)\/R.2=0/\W6 R.1 (k.kw.io.am.eraseIdx q) k.kw.ii):=by
 have c1:=ph ok.fw.fit (by have:=ok.bd;omega);rw [AC ok] at c1;have hl:=ok.bd;have bc:=ok.fw.eM;have f1:=bc.1
 by_cases NZ:dO k.kw.io.am id
 case neg=>have t1:=wW bc NZ;have t1:dL k.kw.io id=aeR (⟨[]⟩,6):=t1;refine .inl ⟨NZ,t1,?_⟩;unfold qM;grind
 have aho:=ok.perm.mem_iff.1 (dz.2 NZ);obtain ⟨q,hq,rfl⟩:=NZ;have t1:=Bo bc hq;have t1:dL k.kw.io (k.kw.io.am[q]!).1=aeR (⟨k.kw.io.am.eraseIdx q⟩,0):=t1;have nb:=Gi bc q;have fl:(k.kw.io.am.eraseIdx q).length=aeP k.kw.io.am-1:=Ge hq;have hn:=ok.len;have nd:=ok.nd;have Vb: ∀x,dO k.kw.io.am x->x≠(k.kw.io.am[q]!).1->bm (k.kw.io.am.eraseIdx q) x=bm k.kw.io.am x:=fun x hx fy=>by
  obtain ⟨y1,y2⟩:=DN bc.2.2 hx;exact Hy bc.2.2 nb.2.2 hx ((DM bc.2.2 hq).2 ⟨y1,by omega⟩)
 obtain ⟨a,a1,a2,a3⟩:=Ae (by omega) aho;have lst:(aeP k.bv)-1<(aeP k.bv):=by omega
 have ew:aa .i64 (((aeP k.bv):Int) -1)=((aeP k.bv-1:Nat):Int):=u7 (by omega) (by omega);have ga:=ar k.bv a a1;have gl:=ar k.bv (aeP k.bv-1) lst;have nea: ∀j,j<aeP k.bv->j≠a->k.bv[j]!≠(k.kw.io.am[q]!).1:=fun j hj fy e=>by
  rcases PP j a with c|c|c
  · exact bI.1 ok.nd j a c a1 (e.trans a2.symm)
  · exact fy c
  exact bI.1 ok.nd a j c hj (a2.trans e.symm)
 generalize hL:k.bv.set a k.bv[aeP k.bv-1]! =L;have Ll:(aeP L)=(aeP k.bv):=by grind
 generalize hm:(aeP k.bv)-1=m at*;have em:L=L.take m++[L[m]!]:=by
  grind [Z7,ad3]
 have ll:(L.take m).length=m:=by grind
 have bl: ∀j,j<m->(L.take m)[j]! =if j=a then k.bv[m]! else k.bv[j]!:=fun j hj=>by
  grind
 have ps:(L.take m++[(k.kw.io.am[q]!).1]).Perm k.bv:=by
  have e:gg k.bv a m=L.take m++[(k.kw.io.am[q]!).1]:=by unfold gg;rw [hL,a2,List.set_eq_take_append_cons_drop,AC (by omega),ad3 (by omega)]
  grind [jr]
 have pm:(ed (k.kw.io.am.eraseIdx q)).Perm (L.take m):=by
  refine ft (eF nb.2.2) (fun y hy=>?_) (by rw [ll];show m<=(aef _ _).length;rw [WF];omega);obtain ⟨p,hp,rfl⟩:=ab3.1 hy;obtain ⟨h1,h2⟩:=(DM bc.2.2 hq).1 hp;have:=ps.mem_iff.2 (ok.perm.mem_iff.1 (ab3.2 ⟨p,h1,rfl⟩))
  grind
 have lo:k9 (k.kw.io.am.eraseIdx q) m (L.take m):=⟨ll,by omega,fun y hy=>dz.1 (pm.mem_iff.2 hy),pm.nodup_iff.1 (eF nb.2.2)⟩;have tok:p7 k (k.kw.io.am.eraseIdx q):=⟨ok.fw,nb⟩;have s1:gW L 0 (m:Int)=aeR (L.take m):=pO L m (by omega);have cl:cw k.bv=aeR k.bv:=cj (by omega)
 by_cases ha:a<m
 · have go:=alY (k:=k) (n0:=aeP k.bv) (x:=L[m]!) tok (c0:=k.bv) (c1:=a) (c2:=k.bv[m]!) (by omega) (R:=Cx k.kw (k.kw.io.am.eraseIdx q)) (l0:=L.take m) (fun l hl=>Jb ok.fw nb (pm.trans hl.symm)) a (L.take m) ha lo (abA _)
   rw [<- em] at go;have pr:=Bn (k.kw.io.am.eraseIdx q) k.kw.ii a (L.take m) (by omega);have ri:=(K4 (k.kw.io.am.eraseIdx q) k.kw.ii a (L.take m) (by omega)).1;have pk:=(K5 (k.kw.io.am.eraseIdx q) k.kw.ii _ (nv (k.kw.io.am.eraseIdx q) k.kw.ii a (L.take m)) (vL (k.kw.io.am.eraseIdx q) k.kw.ii a (L.take m)) (NE _) (by rw [pr.length_eq];exact ri)).trans pr;have hh:=Iq (pQ nb.2.2 k.kw.ii) (P:=pW (k.kw.io.am.eraseIdx q) k.kw.ii) (l:=L.take m) (a:=a) (fun _ _=>aeI) lo.hp (by omega) (fun j j1 j2 j3 j4=>by
    rw [ll] at j2;have q2:par j<m:=by simp only [par];omega
    rw [bl j j2,bl _ q2,Do j3,Do j4];show¬leads _ _ _;rw [Vb _ (ok.has _ (aK (by omega))) (nea j (by omega) j3),Vb _ (ok.has _ (aK (by omega))) (nea _ (by omega) j4)];exact ok.hp j j1 (by omega)) (fun j j1 j2 j3 j4=>by
    rw [ll] at j2;have q2:par a<m:=by simp only [par];omega
    have n1:j≠a:=by simp only [par] at j3;omega
    have n2:par a≠a:=by simp only [par];omega
    rw [bl j j2,bl _ q2,Do n1,Do n2];show¬leads _ _ _;rw [Vb _ (ok.has _ (aK (by omega))) (nea j (by omega) n1),Vb _ (ok.has _ (aK (by omega))) (nea _ (by omega) n2)];have h1:=ok.hp j j1 (by omega);rw [j3] at h1;exact (pQ bc.2.2 k.kw.ii).ntr (ok.has _ (aK (by omega))) (ok.has _ (aK a1)) (ok.has _ (aK (by omega))) h1 (ok.hp a j4 a1))
   refine .inr ⟨q,hq,rfl,t1,_,?_,((Gl ok.fw nb (pm.trans pk.symm) hh).1).imp id fun h=>⟨h.1,h.2.1⟩⟩;unfold qM;rw [c1,ai,aY rfl,ww,t1,ai,aY rfl,ww,cl,ai,a3,ai];simp (disch:=omega) only [aF,ew,gl,ai,ga,eE,hL,s1,ay,v6,beq_self_eq_true];rw [show ((m:Nat):Int).toNat=m from aba m,Ll];exact go
 have hh:Hp (pW (k.kw.io.am.eraseIdx q) k.kw.ii) (L.take m):=fun j j1 j2=>by
  rw [ll] at j2;have q2:par j<m:=by simp only [par];omega
  rw [bl j j2,bl _ q2,Do (by omega),Do (by omega)];show¬leads _ _ _;rw [Vb _ (ok.has _ (aK (by omega))) (nea j (by omega) (by omega)),Vb _ (ok.has _ (aK (by omega))) (nea _ (by omega) (by omega))];exact ok.hp j j1 (by omega)
 refine .inr ⟨q,hq,rfl,t1,_,?_,((Gl ok.fw nb pm hh).1).imp id fun h=>⟨h.1,h.2.1⟩⟩;unfold qM;rw [c1,ai,aY rfl,ww,t1,ai,aY rfl,ww,cl,ai,a3,ai];simp (disch:=omega) only [aF,ew,gl,ai,ga,eE,hL,s1,az,ww];rw [show ((m:Nat):Int).toNat=m from aba m,Jb ok.fw nb pm,ai]
def BZ (c:aH) (to:Int×Int):Prop:=0<aeP c.ae.bv/\gE (Ev.at c.ae.bv[0]!) to<=0
theorem BZ.late {c:aH} {to:Int×Int} (jp:BZ c to): ¬gE to (Ev.at c.ae.bv[0]!)<0:=fun h=>by have h2:=jp.2;rw [oy] at h;unfold gE at h2;rcases dM ((Ev.at c.ae.bv[0]!).1*to.2) (to.1*(Ev.at c.ae.bv[0]!).2) with ⟨a,b⟩|⟨a,b⟩|⟨a,b⟩<;>omega
theorem Gm {c:aH} (ok:aQ c) {to:Int×Int} (rt:bu to) (eR:jb to) (le: ¬gE to c.ii<0):vH c to=aeR (aeU (BZ c to),0):=by
 unfold vH;rw [ia ok.fit,AC ok,ai,bQ eR,AC rt,ai,aY (by decide),ww,vX eR ok.dw,AC ⟨rt,ok.hZ⟩,ai,az le,ww];unfold EW;rw [lh _ ok.fit.ag,AC ok.oj,ai,aY rfl,ww]
 by_cases h:0<aeP c.ae.bv
 · have ev:=ok.oj.ev 0 h
   have g:=ar c.ae.bv 0 h;rw [show ((0:Nat):Int)=0 from rfl] at g;rw [jm (by grind),ww,g,ai,ai,aY rfl,ww,vX ev.2.1 eR,AC ⟨ev.1,rt⟩,ai]
   by_cases h2:gE (Ev.at c.ae.bv[0]!) to<=0
   · rw [ay (show BZ c to from ⟨h,h2⟩),ay h2]
   rw [az (fun k:BZ c to=>h2 k.2),az h2]
 rw [lL (by grind),v6,ai,az (fun k:BZ c to=>h k.1)]
 rfl
abbrev Pu (c:aH) (t:Int×Int):aH:=⟨t,c.io,c.af,c.ae,c.jp⟩
theorem C4 {c:aH} (ok:aQ c) {to:Int×Int} (rt:bu to) (eR:jb to) (le: ¬gE to c.ii<0) (jp:BZ c to):
 ∃(x:Int×Int) (c1:aH),jz c to=aeR (c1,c.ae.bv[0]!,x,0)/\aQ c1/\c1.io=c.io/\j7 c.io.am x/\iZ c1=iZ c+1/\c1.ii=Ev.at c.ae.bv[0]!:=by
 obtain ⟨i,c',hi,num,r1,Gb,hf,hc,_⟩:=K0 ok jp.1;have g:=ar c.ae.bv 0 jp.1;rw [show ((0:Nat):Int)=0 from rfl] at g;have IA:(aeP c'.af.ce)=aeP c.af.ce-1:=by rw [hc];exact List.length_eraseIdx_of_lt hi
 have hcn:c'.af.aU=c.af.aU:=by rw [hc];rfl
 refine ⟨(c.af.ce[i]!).2,Pu c' _,?_,Gb,hf,ok.known i hi,?_,rfl⟩
 · unfold jz
   rw [Gm ok rt eR le,ai,lL rfl,v6,ay jp,abn,ww,aY rfl,ww,g,ai,r1,ai,aY rfl,ww]
 unfold iZ
 grind
theorem Gn {c:aH} (ok:aQ c) {to:Int×Int} (rt:bu to) (eR:jb to) (le: ¬gE to c.ii<0) (jp: ¬BZ c to):jz c to=aeR (cS,(0,0,0,0,0),(0,0),6):=by unfold jz;rw [Gm ok rt eR le,ai,lL rfl,v6,az jp];rfl
theorem Jc {c:aH} (ok:aQ c) {to:Int×Int} (rt:bu to) (eR:jb to) (le: ¬gE to c.ii<0) (jp: ¬BZ c to):qL c to=aeR (Pu c to,0):=by unfold qL;rw [Gm ok rt eR le,ai,lL rfl,v6,az jp,ww,aY rfl,ww,lV ok,ai]
theorem W8 {c:aH} (ok:aQ c) (l:List Int) {to:Int×Int} (rt:bu to) (eR:jb to) (le: ¬gE to c.ii<0) (jp: ¬BZ c to):jW ⟨c,l⟩ to=aeR (⟨cS,[]⟩,(0,0),6):=by
 unfold jW
 grind [Gn,ai]
def aP (c:aH) (l:List Int) (to:Int×Int) (out:List (Int×Int)):=
 (c.ii.1,c.ii.2,c.io.am,c.af.aU,c.af.ce,c.ae.aj.aC,c.ae.aj.be,c.ae.aj.bi,c.ae.bv,c.ae.aB,c.jp,l,to.1,to.2,(0:Int),(0:Int),(0:Int),out)
theorem tj {c:aH} (ok:aQ c): -200<=iZ c/\iZ c<=1000000:=by have h1:=ok.uw.len;have h2:=ok.uw.n0;have h3:=ok.uw.n1;unfold iZ;omega
theorem Nh {c:aH} (ok:aQ c) {to:Int×Int} (rt:bu to) (jp: ¬BZ c to) {y:vY} (hy:y∈c.af.ce) (is:(bV c.io.am y.2 c.ii).2=aeS):
 to.1*(bV c.io.am y.2 c.ii).1.2<(bV c.io.am y.2 c.ii).1.1*to.2:=by
 obtain ⟨d,hd,_,ev⟩:=ok.DK.has _ hy is;obtain ⟨v,hv,he⟩:=aS.1 ev;have tl:=Ab ok.oj v hv;have h0:0<(aeP c.ae.bv):=by omega
 have e0:=(ok.oj.ev 0 h0).1.1;have ev':=(ok.oj.ev v hv).1.1;rw [he] at tl ev';have n1:=fun q=>tl (.inl q)
 rw [oy] at n1;have n2: ¬gE (Ev.at c.ae.bv[0]!) to<=0:=fun q=>jp ⟨h0,q⟩
 have n3:to.1*(Ev.at c.ae.bv[0]!).2<(Ev.at c.ae.bv[0]!).1*to.2:=by unfold gE at n2;rcases dM ((Ev.at c.ae.bv[0]!).1*to.2) (to.1*(Ev.at c.ae.bv[0]!).2) with ⟨a,b⟩|⟨a,b⟩|⟨a,b⟩<;>omega
 exact qn rt.1 e0 ev' n3 (Int.not_lt.1 n1)
theorem Gp {c:aH} (ok:aQ c) {to:Int×Int} (rt:bu to) (eR:jb to) (le: ¬gE to c.ii<0) (jp: ¬BZ c to):aQ (Pu c to):=by
 have pt:=fun (x:Int×Int) (hb:j7 c.io.am x)=>ad8 (bT ok.eM hb.2).1 (bT ok.eM hb.1).1
 refine ⟨rt,eR,ok.eM,ok.uw,ok.oj,ok.KX,ok.hd,ok.known,?_⟩;refine bk.time (fun y hy=>?_) ok.DK;obtain ⟨j,hj,rfl⟩:=aS.1 hy;have hb:=ok.known j hj;refine E2 (pt _ hb).1 (pt _ hb).2 ok.hZ rt (by simp_all [oy]) (fun is=>?_);exact adU (Nh ok rt jp hy is)
theorem aaG {h l:Pt} {t t':Int×Int} (hh:eZ h) (hl:eZ l) (r:bu t) (r':bu t') (le:t.1*t'.2<=t'.1*t.2) (nf:(jo h l t).2=aeS->t'.1*(jo h l t).1.2<(jo h l t).1.1*t'.2): ¬leads l h t':=by
 have mv:=E2 hh hl r r' le (fun is=>adU (nf is));intro hn;have e:jo h l t'=(t',aeS):=by unfold jo;rw [AC hn]
 grind
theorem aaH {c:aH} (ok:aQ c) {to:Int×Int} (rt:bu to) (eR:jb to) (le: ¬gE to c.ii<0) (jp:BZ c to) {c':aH} {x:Int×Int} (hd:lP c (Ev.num c.ae.bv[0]!)=aeR (c',x,0)):
 jz c to=aeR (Pu c' (Ev.at c.ae.bv[0]!),c.ae.bv[0]!,x,0):=by
 have g:=ar c.ae.bv 0 jp.1;rw [show ((0:Nat):Int)=0 from rfl] at g;unfold jz;rw [Gm ok rt eR le,ai,lL rfl,v6,ay jp,abn,ww,aY rfl,ww,g,ai,hd,ai,aY rfl,ww]
theorem Ni {α:Type} [BEq α] [LawfulBEq α]: ∀{a b:List α},a.Nodup->(∀x∈a,x∈b)->aeP a<=aeP b
 | [],_,_,_=>ab4 _
 |x::a,b,hd,h=>by
  rw [abc] at hd;have:=Ni (b:=b.erase x) hd.2 (fun y hy=>by rw [acl (fun e=>hd.1 (by rw [<- e];exact hy))];exact h y (IR _ hy))
  grind
theorem TF {α:Type} [BEq α] [LawfulBEq α] {a b:List α} (ha:a.Nodup) (hb:b.Nodup) (h1: ∀x∈a,x∈b) (h2: ∀x∈b,x∈a):a.Perm b:=ft ha h1 (Ni hb h2)
structure W9 (c:aH) (l:List Int):Prop where
 ok:aQ c
 pm:(ed c.io.am).Perm l
 ct:(c.af.ce.map fun x=>x.2).Perm (eH l)
theorem W9.bd {c:aH} {l:List Int} (h:W9 c l):(aeP l)<=64:=by
 have:=h.ok.bd;have:(aeP l)=(aeP c.io.am):=by rw [<- h.pm.length_eq];exact WF ..
 omega
noncomputable abbrev Xa (to:Int×Int) (c:aH) (l:List Int) (out:List _):=aq mS (aP c l to out)
abbrev al':bE×List (Int×Int)×Int:=(⟨cS,[]⟩,[],18)
theorem adq {c c2:aH} {l l2:List Int} {to x:Int×Int} {out:List _} (ev:jW ⟨c,l⟩ to=aeR (⟨c2,l2⟩,x,0)) (ol:(aeP out)+1<=1048576):Xa to c l out=Xa to c2 l2 (out++[x]):=by have ap:aX out [x]=aeR _:=bA (by rw [If];omega);refine aJ ?_;unfold mS aP;simp_all
theorem aaI {c:aH} {l l2:List Int} {to x:Int×Int} (out:List _) (ev:jW ⟨c,l⟩ to=aeR (⟨cS,l2⟩,x,18)):Xa to c l out=aeR al':=by refine au ?_;unfold mS aP;simp_all
theorem step_end {c:aH} (ok:aQ c) {l:List Int} (hl:(aeP l)<=1000) {to:Int×Int} (rt:bu to) (eR:jb to) (le: ¬gE to c.ii<0) (jp: ¬BZ c to) (out:List _):Xa to c l out=aeR (⟨Pu c to,l⟩,out,0):=by refine au ?_;unfold mS aP;simp (disch:=omega) only [W8 ok l rt eR le jp,ai,show ((6:Int)==6)=aeS from rfl,v6,Jc ok rt eR le jp,cj]
theorem Vd {a b:Int×Int}: ¬gE a b<0↔b.1*a.2<=a.1*b.2:=by rw [oy];omega
theorem adr {a b:Int×Int}:gE a b<=0↔a.1*b.2<=b.1*a.2:=by unfold gE;rcases dM (a.1*b.2) (b.1*a.2) with ⟨x,y⟩|⟨x,y⟩|⟨x,y⟩<;>omega
theorem OV {p q:Pt} (t:Int×Int) (h:p.1≠q.1) (hn: ¬leads p q t):leads q p t:=by
 unfold leads at*
 grind [DL,Int.sub_mul]
section
variable {s t : Int × Int}
theorem Rq {k:bE} (n:BW k.kw) (sh:BJ k.kw) (hl:(aeP k.bv)<=1000) (ok:jP k) {to:Int×Int} (rt:bu to) (eR:jb to) (le: ¬gE to k.kw.ii<0):qi k to=Xa to k.kw k.bv []:=by have c1:=ph ⟨n.ii,⟨sh.s3,sh.h,sh.w,n.OD⟩,sh.d⟩ hl;rw [AC ok] at c1;unfold qi;rw [c1,ai,aY rfl,ww,bQ eR,AC rt,ai,aY rfl,ww,vX eR n.ii,AC ⟨rt,ok.fw.hZ⟩,ai,az le];rfl
theorem ads {c:aH} {l:List Int} (h:W9 c l) (rs:bu s) (s64:jb s) (le: ¬gE s c.ii<0) (jp: ¬BZ c s):jP ⟨Pu c s,l⟩:=by
 have ok:=h.ok;have nd:=h.pm.nodup_iff.1 (eF ok.eM.2.2);refine ⟨Gp ok rs s64 le jp,h.pm,h.ct,fun e he=>?_⟩;obtain ⟨j,hj,hx⟩:=dy.2 (h.ct.mem_iff.2 he);have hb:=ok.known j hj;rw [hx] at hb;have p2:=bT ok.eM hb.2;have p1:=bT ok.eM hb.1;have nl: ¬leads (bm c.io.am e.1) (bm c.io.am e.2) s:=by
  refine aaG p2.1 p1.1 ok.hZ rs (by rw [Vd] at le;exact le) fun is=>?_
  have:=Nh ok rs jp (aK hj);rw [hx] at this;exact this is
 grind [OV,Rj]
end
section
variable (f : List Pt)
end
section
variable {f : List Pt}
end
theorem aaJ (p q:Pt) (t t':Int×Int):Eh p q t'*t.2=Eh p q t*t'.2+(p.2.2-q.2.2)*(t'.1*t.2-t.1*t'.2):=by
 unfold Eh
 grind
theorem OW (p q:Pt) (t:Int×Int):Eh q p t= -Eh p q t:=by
 unfold Eh
 grind
theorem Xb {a b:Int} (hb:0<b) (h:0<=a*b):0<=a:=abf fun hn=>by have:=Int.mul_neg_of_neg_of_pos (show a<0 by omega) hb;omega
theorem Xc {p q:Pt} {t t':Int×Int} (d:1<=t.2) (d':1<=t'.2) (le:t.1*t'.2<=t'.1*t.2) (hb:q.2.2<=p.2.2) (h:0<=Eh p q t):0<=Eh p q t':=by refine Xb (show 0<t.2 by omega) ?_;rw [aaJ p q t t'];have a:=aew h (show 0<=t'.2 by omega);have b:=aew (show 0<=p.2.2-q.2.2 by omega) (show 0<=t'.1*t.2-t.1*t'.2 by omega);omega
structure EvP (f:List Pt) (x:Int×Int) (t:Int×Int):Prop where
 both:j7 f x
 zero:Eh (bm f x.2) (bm f x.1) t=0
 ath:(bm f x.2).2.2<(bm f x.1).2.2
theorem EvP.behind {f:List Pt} {x t to:Int×Int} (h:EvP f x t) (d:1<=t.2) (d':1<=to.2) (le:t.1*to.2<=to.1*t.2):leads (bm f x.1) (bm f x.2) to:=by have z:=h.zero;have s:=h.ath;have n:=OW (bm f x.2) (bm f x.1) t;have g:=Xc (p:=bm f x.1) (q:=bm f x.2) d d' le (by omega) (by omega);unfold leads;omega
theorem EvP.zI {f:List Pt} {x t ii:Int×Int} (h:EvP f x t) (d:1<=t.2) (d':1<=ii.2) (ld:leads (bm f x.2) (bm f x.1) ii):ii.1*t.2<t.1*ii.2:=by
 refine abf fun hn=>?_
 have b:=h.behind d d' (by omega);have n:=OW (bm f x.2) (bm f x.1) ii;unfold leads at b ld;omega
section
variable {α : Type} [Inhabited α] {P : α -> α -> Prop} {S : α -> Prop}
end
section
variable {f : List Pt} {t : Int × Int}
end
theorem Xd {c:aH} {l:List Int} (h:W9 c l) {to:Int×Int} (rt:bu to) (eR:jb to) (le: ¬gE to c.ii<0) (jp:BZ c to):
 (∃x c2 l2,jW ⟨c,l⟩ to=aeR (⟨c2,l2⟩,x,0)/\W9 c2 l2/\c2.ii=Ev.at c.ae.bv[0]!/\iZ c+1<=iZ c2/\ ¬gE to c2.ii<0/\c2.io.am=c.io.am)\/(∃x l2,jW ⟨c,l⟩ to=aeR (⟨cS,l2⟩,x,18)):=by
 have ok:=h.ok;have pm:=h.pm;obtain ⟨x,c1,f1,Gb,hf,hb,hr,hn⟩:=C4 ok rt eR le jp;have bd:=h.bd;obtain ⟨i,i1,i2,i3⟩:=Ae (by omega) (pm.mem_iff.1 (dz.2 hb.1));obtain ⟨j,j1,j2,j3⟩:=Ae (by omega) (pm.mem_iff.1 (dz.2 hb.2));have pm':=pm.trans (jr i1 j1).symm;have sl:=(jr i1 j1).length_eq;have bc:=Gb.eM;obtain ⟨r,r1,r3⟩:=OL Gb bc (es:=eH (gg l i j)) (K2 bc (by rw [hf];exact pm'));have ev:jW ⟨c,l⟩ to=aeR (⟨r.1,gg l i j⟩,x,r.2):=by
  unfold jW;rw [f1,ai,aY rfl,ww,cj (show (aeP l)<=1048576 by omega),ai,i3,ai,j3,ai,ar l j j1,ai,ar l i i1,ai,ai];rw [eE,ar _ j (by rw [ab1];exact j1),ai,eE];show (rB (gg l i j)).bind _=_;rw [K1 _ (by omega),ai];rw [r1,ai];rfl
 rcases r3 with ⟨q,k⟩|e
 · left
   rw [q] at ev;have nd:=pm'.nodup_iff.1 (eF ok.eM.2.2);have sub: ∀z∈(r.1.af.ce.map fun x=>x.2),z∈eH (gg l i j):=fun z hz=>by obtain ⟨y,hy,rfl⟩:=ab3.1 hz;exact k.sub y hy
   have has:=fun z hz=>dy.1 (k.has z hz)
   have cn:=ja k.ok.uw;refine ⟨x,r.1,gg l i j,ev,⟨k.ok,by rw [k.eM,hf];exact pm',TF cn (yO nd) sub has⟩,by rw [k.ii,hn],by have:=k.room;omega,fun hx=>?_,by rw [k.eM,hf]⟩;have h2:=jp.2;rw [k.ii,hn,oy] at hx;have: ¬0<gE (Ev.at c.ae.bv[0]!) to:=by omega
   unfold gE at this;rcases dM ((Ev.at c.ae.bv[0]!).1*to.2) (to.1*(Ev.at c.ae.bv[0]!).2) with ⟨a,b⟩|⟨a,b⟩|⟨a,b⟩<;>omega
 grind
theorem Nj {a b:Int×Int} (h:a.1*b.2<=b.1*a.2): ¬gE b a<0:=by rw [Vd];exact h
theorem Rr {c:aH} (ok:aQ c) (ld: ∀e∈c.af.ce.map fun x=>x.2,leads (bm c.io.am e.2) (bm c.io.am e.1) c.ii) {to:Int×Int} (rt:bu to) (eR:jb to) (le: ¬gE to c.ii<0) (jp:BZ c to):
 ∃x c1,jz c to=aeR (c1,c.ae.bv[0]!,x,0)/\aQ c1/\c1.io=c.io/\iZ c1=iZ c+1/\EvP c.io.am x c1.ii/\c.ii.1*c1.ii.2<c1.ii.1*c.ii.2/\c1.ii.1*to.2<=to.1*c1.ii.2:=by
 obtain ⟨i0,c',Ps,num,r1,_,hf,hc,ge⟩:=K0 ok jp.1;obtain ⟨x',c1,f1,Gb,hf1,Pp,hr1,hn1⟩:=C4 ok rt eR le jp;have hb:=ok.known i0 Ps;obtain ⟨d,hd,hn⟩:=ok.DS _ (aK jp.1);obtain ⟨y,hy,y1,y2,y3⟩:=ok.DK.jp d hd;have hye:=Up.inj ok.xO hy (aK Ps) (by omega);subst hye;have tm:Ev.at c.ae.bv[0]! =(bV c.io.am (c.af.ce[i0]!).2 c.ii).1:=by
  obtain ⟨w,hw,he⟩:=aS.1 y3;have hw0:w=0:=abf fun hx=>by refine ok.oj.nd 0 w (by omega) hw ?_;rw [he,<- hn,y1]
  grind
 have xe:x'=(c.af.ce[i0]!).2:=by
  have:=aaH ok rt eR le jp r1
  grind
 obtain ⟨x,hx⟩: ∃x,x=(c.af.ce[i0]!).2:=⟨_,rfl⟩;rw [<- hx] at hb tm y2 xe;subst xe;have xm:=ab3.2 ⟨_,aK Ps,hx.symm⟩;have l0:=ld x' xm;have hpt:=bT ok.eM hb.2;have atj:=bT ok.eM hb.1;have nl: ¬leads (bm c.io.am x'.1) (bm c.io.am x'.2) c.ii:=fun h=>by have:=OW (bm c.io.am x'.2) (bm c.io.am x'.1) c.ii;unfold leads at h l0;omega
 have W:bV c.io.am x' c.ii=jo (bm c.io.am x'.2) (bm c.io.am x'.1) c.ii:=rfl;rw [W] at tm y2;unfold jo at tm y2;rw [Do nl] at tm y2;have sl:(bm c.io.am x'.2).2.2<(bm c.io.am x'.1).2.2:=by
  grind
 rw [AC sl] at tm;obtain ⟨_,mr,_,me⟩:=EY hpt.1 atj.1 (show (bm c.io.am x'.2).2.2≠(bm c.io.am x'.1).2.2 by omega);have z:Eh (bm c.io.am x'.2) (bm c.io.am x'.1) (Ev.at c.ae.bv[0]!)=0:=by
  rw [tm];unfold Eh
  grind
 have evp:EvP c.io.am x' (Ev.at c.ae.bv[0]!):=⟨hb,z,sl⟩;refine ⟨x',c1,f1,Gb,hf1,hr1,by grind,?_,?_⟩
 · rw [hn1]
   exact evp.zI (by rw [tm];exact mr.1) ok.hZ.1 l0
 have h2:=jp.2
 grind [adr]
noncomputable def ng (P:Int->Int->Prop):List Int->Int
 | []=>0
 |x::r=>r.foldl (fun t y=>if P y t then y else t) x
noncomputable def ny (bit:Int->Nat->Nat) (l:List Int) (top:Int) (d b:Nat):List Int:=l.filter fun x=>decide (x≠top/\bit x d=b)
noncomputable def mZ (P:Int->Int->Prop) (bit:Int->Nat->Nat):Nat->List Int->Int->Nat->List (Int×Int)
 |0,_,_,_=>[]
 |_+1,[],_,_=>[]
 |n+1,x::r,u,d=>(ng P (x::r),u)::(mZ P bit n (ny bit (x::r) (ng P (x::r)) d 0) (ng P (x::r)) (d+1)++mZ P bit n (ny bit (x::r) (ng P (x::r)) d 1) (ng P (x::r)) (d+1))
section
variable {P : Int -> Int -> Prop} {S : Int -> Prop} {bit : Int -> Nat -> Nat}
theorem K9 (o : SO P S) : ∀ (r : List Int) (x : Int), S x -> (∀ y ∈ r, S y) -> (r.foldl (fun t y => if P y t then y else t) x = x \/ r.foldl (fun t y => if P y t then y else t) x ∈ r) /\
    ¬ P x (r.foldl (fun t y => if P y t then y else t) x) /\ ∀ y ∈ r, ¬ P y (r.foldl (fun t y => if P y t then y else t) x)
  | [], x, hx, _ => ⟨.inl rfl, o.irr x hx, fun y h => by cases h⟩
  | z :: r, x, hx, hr => by
    rw [ae5]
    have hz := hr z aaF
    have hr' := fun y hy => hr y (IR _ hy)
    by_cases c : P z x
    · rw [AC c]
      obtain ⟨a1, a2, a3⟩ := K9 o r z hz hr'
      have hT : S (r.foldl (fun t y => if P y t then y else t) z) := by
        rcases a1 with e | e
        · rw [e]; exact hz
        exact hr' _ e
      refine ⟨.inr (by rcases a1 with e | e; · rw [e]; exact aaF
                       exact IR _ e), ?_, fun y hy => ?_⟩
      · exact o.ntr hx hz hT (o.asym hz hx c) a2
      grind
    rw [Do c]
    obtain ⟨a1, a2, a3⟩ := K9 o r x hx hr'
    have hT : S (r.foldl (fun t y => if P y t then y else t) x) := by
      grind
    refine ⟨a1.imp id (IR _), a2, fun y hy => ?_⟩
    rcases abi.1 hy with rfl | hy
    · exact o.ntr hz hx hT c a2
    exact a3 y hy
theorem uy (o:SO P S) {l:List Int} (h0:l≠[]) (hS: ∀x∈l,S x):ng P l∈l/\ ∀y∈l,¬P y (ng P l):=by
 cases l with
 |nil=>grind
 |cons x r=>
  obtain ⟨a1,a2,a3⟩:=K9 o r x (hS x aaF) (fun y hy=>hS y (IR _ hy));refine ⟨?_,fun y hy=>?_⟩
  · rcases a1 with e|e
    · show r.foldl _ x∈_;grind
    exact IR _ e
  rcases abi.1 hy with rfl|hy
  · exact a2
  exact a3 y hy
theorem La (o:SO P S) {l:List Int} (hS: ∀x∈l,S x) {a:Int} (ha:a∈l) (h: ∀y∈l,¬P y a):ng P l=a:=by
 obtain ⟨b1,b2⟩:=uy o (adc ha) hS;rcases aeH _ with e|e
 · exact e
 rcases o.tot _ _ (hS _ b1) (hS _ ha) e with k|k
 · exact absurd k (h _ b1)
 grind
theorem Xe (o:SO P S) {l l':List Int} (hS: ∀x∈l,S x) (p:l.Perm l'):ng P l=ng P l':=by
 by_cases h0:l=[]
 · subst h0;rw [List.nil_perm.1 p]
 grind [uy,La]
theorem ic {l:List Int} {top:Int} {d b:Nat} {x:Int}:x∈ny bit l top d b↔x∈l/\x≠top/\bit x d=b:=by unfold ny;simp
theorem xa {l:List Int} {top:Int} (h:top∈l) (d b:Nat):(ny bit l top d b).length<(aeP l):=by refine List.length_filter_lt_length_iff_exists.2 ⟨top,h,?_⟩;simp
theorem rM {l:List Int} (h:l.Nodup) (top:Int) (d b:Nat):(ny bit l top d b).Nodup:=h.filter _
theorem E5 (o:SO P S): ∀(n:Nat) (l l':List Int) (u:Int) (d:Nat),(∀x∈l,S x)->l.Perm l'->mZ P bit n l u d=mZ P bit n l' u d
 |0,_,_,_,_,_,_=>by rfl
 |n+1,[],l',u,d,_,p=>by simp_all
 |n+1,x::r,[],u,d,_,p=>by simp_all
 |n+1,x::r,y::q,u,d,hS,p=>by
  have e:=Xe o hS p;simp only [mZ];rw [<- e];have sp: ∀b,(ny bit _ _ d b).Perm (ny bit (y::q) (ng P (x::r)) d b):=fun b=>p.filter _
  rw [E5 o n _ _ _ _ (fun z hz=>hS z (ic.1 hz).1) (sp 0),E5 o n _ _ _ _ (fun z hz=>hS z (ic.1 hz).1) (sp 1)]
theorem Lb {α:Type} [BEq α] [LawfulBEq α]: ∀{a b:List α},a.Nodup->(∀x∈a,x∈b)->aeP a<=aeP b
 | [],_,_,_=>ab4 _
 |x::a,b,hd,h=>by
  rw [abc] at hd;have:=Lb (b:=b.erase x) hd.2 (fun y hy=>by rw [acl (fun e=>hd.1 (by rw [<- e];exact hy))];exact h y (IR _ hy))
  grind
theorem Bs (o:SO P S) (hb: ∀x d,bit x d<2): ∀(n:Nat) (l:List Int) (u:Int) (d:Nat),(∀x∈l,S x)->l.Nodup->aeP l<=n->((mZ P bit n l u d).map fun e=>e.1).Perm l/\ ∀e∈mZ P bit n l u d,e.2=u\/(e.2∈l/\P e.2 e.1)
 |0,l,u,d,_,_,h=>by have:l=[]:=ad2.1 (by omega);subst this;exact ⟨abA _,fun e he=>by cases he⟩
 |n+1,[],u,d,_,_,_=>⟨abA _,fun e he=>by cases he⟩
 |n+1,x::r,u,d,hS,nd,h=>by
  obtain ⟨t1,t2⟩:=uy o (abG x r) hS;have ih:=fun b=>Bs o hb n (ny bit (x::r) (ng P (x::r)) d b) (ng P (x::r)) (d+1) (fun z hz=>hS z (ic.1 hz).1) (rM nd _ d b) (by have:=xa (bit:=bit) t1 d b;omega)
  have pb: ∀b,∀e∈mZ P bit n _ _ _,e.2∈x::r/\P e.2 e.1:=fun b e he=>by
   have k:=(ih b).1.mem_iff.1 (ab3.2 ⟨e,he,rfl⟩);rcases (ih b).2 e he with q|⟨q1,q2⟩
   · rw [q]
     refine ⟨t1,?_⟩;obtain ⟨k1,k2,_⟩:=ic.1 k;rcases o.tot _ _ (hS _ t1) (hS _ k1) (fun e=>k2 e.symm) with w|w
     · exact w
     grind
   exact ⟨(ic.1 q1).1,q2⟩
  refine ⟨?_,fun e he=>?_⟩
  · simp [mZ,]
    refine (aet _ ((ih 0).1.append (ih 1).1)).trans ?_;refine ft (abc.2 ⟨fun hm=>?_,ad1.2 ⟨rM nd _ d 0,rM nd _ d 1,fun a ha b HL e=>?_⟩⟩) (fun y hy=>?_) ?_
    · grind
    · have w1:=(ic.1 ha).2.2
      have w2:=(ic.1 HL).2.2
      grind
    · rcases abi.1 hy with rfl|hy
      · exact t1
      rcases abb.1 hy with hy|hy<;>exact (ic.1 hy).1
    have sub:(x::r).length<=(ng P (x::r)::(ny bit _ _ d 0++ny bit _ _ d 1)).length:=Lb nd fun y hy=>by
     by_cases c:y=ng P (x::r)
     · grind
     refine IR _ (abb.2 ?_)
     have:=hb y d
     by_cases z:bit y d=0
     · exact .inl (ic.2 ⟨hy,c,z⟩)
     exact .inr (ic.2 ⟨hy,c,by omega⟩)
    exact sub
  simp [mZ] at he
  grind
theorem Iu {Q : Int -> Int -> Prop} (o : SO P S) (q : SO Q S) (hb : ∀ x d, bit x d < 2) : ∀ (n : Nat) (l : List Int) (u : Int) (d : Nat), (∀ x ∈ l, S x) -> l.Nodup -> (aeP l) <= n ->
    (∀ e ∈ mZ P bit n l u d, e.2 = u \/ Q e.2 e.1) -> u ∉ l -> mZ Q bit n l u d = mZ P bit n l u d /\ ∀ y ∈ l, y = ng P l \/ Q (ng P l) y
  | 0, l, u, d, _, _, h, _, _ => by
    have : l = [] := ad2.1 (by omega)
    subst this
    exact ⟨by rfl, fun y hy => by cases hy⟩
  | n + 1, [], u, d, _, _, _, _, _ => ⟨by rfl, fun y hy => by cases hy⟩
  | n + 1, x :: r, u, d, hS, nd, h, hQ, hu => by
    obtain ⟨t1, t2⟩ := uy o (abG x r) hS
    have ne : ∀ b, ∀ e ∈ mZ P bit n _ _ _, e.2 ≠ u := fun b e he w => by
      obtain ⟨_, k2⟩ := Bs o hb n (ny bit (x :: r) (ng P (x :: r)) d b) _ (d + 1) (fun z hz => hS z (ic.1 hz).1) (rM nd _ d b) (by have := xa (bit := bit) t1 d b; omega)
      rcases k2 e he with k | ⟨k, _⟩
      · exact hu (by rw [<- w, k]; exact t1)
      exact hu (by rw [<- w]; exact (ic.1 k).1)
    have ih : ∀ b, b = 0 \/ b = 1 -> _ := fun b Sf => Iu o q hb n (ny bit (x :: r) (ng P (x :: r)) d b) _ _ (fun z hz => hS z (ic.1 hz).1) (rM nd _ d b) (by have := xa (bit := bit) t1 d b; omega)
      (fun e he => by
        have := hQ e (IR _ (abb.2 (by rcases Sf with rfl | rfl; exact .inl he; exact .inr he)))
        exact .inr (this.resolve_left (ne b e he))) (fun hm => (ic.1 hm).2.1 rfl)
    have ahead : ∀ y ∈ x :: r, y = ng P _ \/ Q _ y := fun y hy => by
      by_cases c : y = ng P (x :: r)
      · exact .inl c
      right
      have hbd := hb y d
      have Sf : bit y d = 0 \/ bit y d = 1 := by omega
      have ym : y ∈ ny bit _ _ d _ := ic.2 ⟨hy, c, rfl⟩
      have sm : ∀ z ∈ ny bit _ (ng P (x :: r)) d (bit y d), S z := fun z hz => hS z (ic.1 hz).1
      have st := (uy o (adc ym) sm).1
      have ama : Q (ng P (x :: r)) (ng P (ny bit (x :: r) (ng P (x :: r)) d (bit y d))) := by
        have hm : (ng P (ny bit (x :: r) (ng P (x :: r)) d (bit y d)), ng P (x :: r)) ∈ mZ P bit n (ny bit (x :: r) (ng P (x :: r)) d (bit y d)) (ng P (x :: r)) (d + 1) := by
          have hl := xa (bit := bit) t1 d (bit y d)
          generalize hs : ny bit _ _ d _ = s at *
          cases s with
          | nil => cases ym
          | cons a s =>
            cases n with
            | zero => simp at h hl; subst h; simp at hl
            | succ n => exact aaF
        have Fx : (ng P (ny bit (x :: r) (ng P (x :: r)) d (bit y d)), ng P (x :: r)) ∈ mZ P bit n (ny bit (x :: r) (ng P (x :: r)) d 0) (ng P (x :: r)) (d + 1) ++ mZ P bit n (ny bit (x :: r) (ng P (x :: r)) d 1) (ng P (x :: r)) (d + 1) := by
          refine abb.2 ?_
          rcases Sf with e | e
          · rw [e] at hm ⊢; exact .inl hm
          rw [e] at hm ⊢; exact .inr hm
        have := hQ _ (IR _ Fx)
        exact this.resolve_left (fun w => hu (by rw [<- w]; exact t1))
      rcases (ih _ Sf).2 y ym with e | e
      · rw [e]; exact ama
      exact q.tr _ _ _ (hS _ t1) (sm _ st) (hS _ hy) ama e
    have te := La q hS t1 fun y hy w => by
      rcases ahead y hy with e | e
      · rw [e] at w; exact q.irr _ (hS _ t1) w
      exact q.asym (hS _ t1) (hS _ hy) e w
    simp [mZ]
    grind
end
theorem Gq {α:Type} (z:α): ∀(l:List _) (k:Int) (a:α) (j:Int),jR z (mf l k a) j=if j=k then a else jR z l j
 | [],k,a,j=>by simp only [mf,jR];simp
 |p::l,k,a,j=>by
  simp [mf]
  by_cases h:k=p.1
  · rw [lL h,v6]
    simp [jR]
    grind
  rw [jm h,ww]
  simp [jR];rw [Gq z l k a j]
  grind
def tp (m:List (Int×Int)) (l:List (Int×Int)):List (Int×Int):=l.foldl (fun m e=>mf m e.1 e.2) m
theorem Iv (m l l':List _):tp m (l++l')=tp (tp m l) l':=List.foldl_append ..
theorem Rs: ∀(l m:List _) (j:Int),(l.map fun e=>e.1).Nodup->jR 0 (tp m l) j=if j∈l.map fun e=>e.1 then jR 0 l j else jR 0 m j
 | [],m,j,_=>by rfl
 |e::l,m,j,nd=>by
  obtain ⟨h1,h2⟩:=abc.1 (by simpa using nd:(e.1::l.map fun e=>e.1).Nodup);show jR 0 (tp (mf m e.1 e.2) l) j=_;rw [Rs l _ j h2,Gq];simp [jR]
  grind
theorem Gr: ∀{l:List _} {j v:Int},(l.map fun e=>e.1).Nodup->(j,v)∈l->jR 0 l j=v
 |e::l,j,v,nd,h=>by
  obtain ⟨h1,h2⟩:=abc.1 (by simpa using nd:(e.1::l.map fun e=>e.1).Nodup);simp [jR];rcases abi.1 h with rfl|h
  · simp
  have:j≠e.1:=fun c=>h1 (by grind)
  rw [jm this,ww];exact Gr h2 h
def Af (x:Int) (d:Nat):Nat:=x.toNat / 2^(min d 64)%2
theorem Gs (x:Int) (d:Nat):Af x d<2:=Nat.mod_lt _ (by omega)
noncomputable def wX (f:List Pt) (t:Int×Int):List (Int×Int):=mZ (pW f t) Af (aeP f) (ed f) (-1) 0
noncomputable def vZ (f:List Pt) (t:Int×Int):List Int:=f.map fun p=>jR 0 (wX f t) p.1
def gB (f:List Pt) (U:List Int):Nat->List (Int×Int)
 |0=>[]
 |i+1=>gB f U i++(if 0<=U[i]! then [((f[i]!).1,U[i]!)] else [])
section
variable {f : List Pt} {t : Int × Int}
theorem xR (bc:aT f):((wX f t).map fun e=>e.1).Perm (ed f)/\ ∀e∈wX f t,e.2= -1\/(e.2∈ed f/\pW f t e.2 e.1):=
 Bs (pQ bc.2.2 t) Gs (aeP f) _ _ 0 (fun x hx=>dz.1 hx) (eF bc.2.2) (by unfold ed;simp)
theorem Gt (f:List Pt) (t:Int×Int):(vZ f t).length=(aeP f):=WF ..
theorem OX {i:Nat} (hi:i<aeP f):(vZ f t)[i]! =jR 0 (wX f t) (f[i]!).1:=by
 unfold vZ
 grind
theorem adt (bc:aT f) {i:Nat} (hi:i<aeP f):((f[i]!).1,(vZ f t)[i]!)∈wX f t:=by
 obtain ⟨h1,_⟩:=xR (t:=t) bc;obtain ⟨e,he,h2⟩:=ab3.1 (h1.mem_iff.2 (dz.2 ⟨i,hi,rfl⟩));have nd:=h1.nodup_iff.2 (eF bc.2.2)
 grind [OX,Gr]
theorem ahp (bc:aT f) {i:Nat} (hi:i<aeP f):(vZ f t)[i]! = -1\/(0<=(vZ f t)[i]!/\dO f (vZ f t)[i]!/\(vZ f t)[i]!≠(f[i]!).1/\leads (bm f (vZ f t)[i]!) f[i]! t):=by
 rcases (xR bc).2 _ (adt bc hi) with h|⟨h1,h2⟩
 · exact .inl h
 have hp:=dz.1 h1
 have pk:=bT bc hp;have h2:leads _ _ t:=h2;rw [mA bc.2.2 hi rfl] at h2;refine .inr ⟨?_,hp,fun e=>?_,h2⟩
 · have:=pk.1.1
   rw [pk.2] at this;exact this
 grind [mA,vM]
theorem Bt {U:List Int}: ∀{n:Nat} {e:Int×Int},e∈gB f U n↔ ∃i,i<n/\0<=U[i]!/\e=((f[i]!).1,U[i]!)
 |0,e=>by
  constructor
  · intro h;cases h
  omega
 |n+1,e=>by
  rw [gB,abb,Bt]
  grind
theorem uz (U:List Int): ∀n,(gB f U n).length<=n
 |0=>NE _
 |n+1=>by
  have:=uz U n;rw [gB,abd]
  grind
theorem Gu (hs:fo f) (U:List Int): ∀n,n<=aeP f->(gB f U n).Nodup
 |0,_=>acr
 |n+1,h=>by
  refine ad1.2 ⟨Gu hs U n (by omega),by split<;>simp,fun a ha b hb e=>?_⟩;obtain ⟨i,h1,_,h3⟩:=Bt.1 ha;split at hb
  · have hb:=abk.1 hb
    rw [hb] at e;rw [h3] at e;have:(f[i]!).1=(f[n]!).1:=by injection e
    have:=eO hs h1 h;omega
  cases hb
theorem Ag (bc:aT f):ve f (gB f (vZ f t) (aeP f))/\(gB f (vZ f t) (aeP f)).Nodup/\ ∀e∈gB f (vZ f t) (aeP f),leads (bm f e.2) (bm f e.1) t:=by
 have f1:=bc.1;have el:=uz (f:=f) (vZ f t) (aeP f);have key: ∀e∈gB f (vZ f t) (aeP f),j7 f e/\e.1≠e.2/\leads (bm f e.2) (bm f e.1) t:=fun e he=>by
  obtain ⟨i,hi,h0,rfl⟩:=Bt.1 he;rcases ahp (t:=t) bc hi with h|⟨_,h2,h3,h4⟩
  · omega
  exact ⟨⟨⟨i,hi,rfl⟩,h2⟩,fun e=>h3 e.symm,by rw [mA bc.2.2 hi rfl];exact h4⟩
 refine ⟨⟨by omega,fun e he=>?_,fun e he=>(key e he).1⟩,Gu bc.2.2 _ _ (NE _),fun e he=>(key e he).2.2⟩;obtain ⟨hb,ne,_⟩:=key e he;obtain ⟨⟨p1,p2⟩,q1,q2⟩:=ad8 (bT bc hb.1) (bT bc hb.2);unfold eZ at p1 q1;unfold jq;omega
theorem Xf (bc:aT f) {t':Int×Int} (h: ∀e∈gB f (vZ f t) (aeP f),leads (bm f e.2) (bm f e.1) t'):vZ f t'=vZ f t:=by
 have so:=pQ bc.2.2 t;have so':=pQ bc.2.2 t';have hS: ∀x∈ed f,dO f x:=fun x hx=>dz.1 hx
 have e:=(Iu so so' Gs (aeP f) _ _ 0 hS (eF bc.2.2) (by unfold ed;simp) (fun e he=>by
  rcases (xR bc).2 e he with k|⟨k1,k2⟩
  · exact .inl k
  · right
    have hk:=(xR bc).1.mem_iff.1 (ab3.2 ⟨e,he,rfl⟩);obtain ⟨i,hi,ei⟩:=dz.1 hk;have nd:=(xR (t:=t) bc).1.nodup_iff.2 (eF bc.2.2);have ui:(vZ f t)[i]! =e.2:=by rw [OX hi,ei];exact Gr nd he
    have p0:=bT bc (hS _ k1);have p1:=p0.1.1;rw [p0.2] at p1;have:=h _ (Bt.2 ⟨i,hi,by rw [ui];exact p1,rfl⟩);rw [ui,ei] at this;exact this) (fun hm=>by
  have p0:=bT bc (hS _ hm);have p1:=p0.1.1;rw [p0.2] at p1;exact absurd p1 (by decide))).1
 unfold vZ;rw [show wX f t'=wX f t from e]
end
theorem aaK {x:Int} (h0:0<=x) (d:Nat):kr .i64 x (d:Int)=((x.toNat / 2^(min d 64):Nat):Int):=by
 unfold kr;rw [show (IntKind.bits .i64)=64 from rfl,aba,Int.fdiv_eq_ediv_of_nonneg _ (adU (Int.pow_pos (by decide)))]
 grind
theorem adu {n:Nat} (h:n<9223372036854775808):rT .i64 (n:Int) 1=((n%2:Nat):Int):=by
 unfold rT;have e:(BitVec.ofInt _ (n:Int)&&&BitVec.ofInt (IntKind.bits .i64) 1).toNat=n%2:=by
  rw [BitVec.toNat_and,BitVec.toNat_ofInt,BitVec.toNat_ofInt];rw [show (IntKind.bits .i64)=64 from rfl]
  grind
 rw [e];have c:n%2=0\/n%2=1:=by omega
 rcases c with c|c<;>rw [c]<;>rfl
theorem Ve {x:Int} (h0:0<=x) (h1:x<=65535) (d:Nat):rT .i64 (kr .i64 x (d:Int)) 1=(Af x d:Int):=by
 rw [aaK h0,adu]
 · rfl
 have:=ae7 x.toNat (2^(min d 64));omega
theorem adw {x:Int} (h0:0<=x) (d:Nat):Int.tmod (kr .i64 x (d:Int)) 2=(Af x d:Int):=by rw [aaK h0];rfl
section
variable {f : List Pt} {t : Int × Int}
noncomputable def kT (t:Int×Int) (r:List Pt) (x:Pt):Pt:=r.foldl (fun a p=>if leads p a t then p else a) x
theorem Jd (bc:aT f): ∀(r:List Pt) (x:Pt),x∈f->(∀p∈r,p∈f)->(kT t r x).1=(r.map fun p=>p.1).foldl (fun a y=>if pW f t y a then y else a) x.1/\kT t r x∈f
 | [],x,hx,_=>⟨rfl,hx⟩
 |p::r,x,hx,hr=>by
  have hp:=hr p aaF;have e:pW f t p.1 x.1↔leads p x t:=by show leads _ _ t↔_;rw [Gk bc.2.2 hp,Gk bc.2.2 hx]
  show (kT t r (if leads p x t then p else x)).1=_/\kT t r (if leads p x t then p else x)∈f;rw [List.map_cons,ae5]
  by_cases c:leads p x t
  · rw [AC c,AC (e.2 c)];exact Jd bc r p hp fun q hq=>hr q (IR _ hq)
  rw [Do c,Do (fun k=>c (e.1 k))];exact Jd bc r x hx fun q hq=>hr q (IR _ hq)
def gq (l:List Pt) (top:Int) (d b:Nat):List Pt:=l.filter fun p=>decide (p.1≠top)&&aeU (Af p.1 d=b)
theorem uA (l:List Pt) (top:Int) (d b:Nat):(gq l top d b).map (fun p=>p.1)=ny Af (l.map fun p=>p.1) top d b:=by
 unfold gq ny
 induction l with
 |nil=>rfl
 |cons p l ih=>
  grind
theorem Xg {l:List Pt} {top:Int} {d b:Nat} {p:Pt} (h:p∈gq l top d b):p∈l:=(ae8.1 h).1
theorem Ah (l:List Pt) (top:Int) (d b:Nat):(gq l top d b).length<=(aeP l):=abD ..
theorem Bu (l:List Pt) (p:Pt) (top:Int) (d b:Nat):gq (l++[p]) top d b=gq l top d b++(if p.1≠top/\Af p.1 d=b then [p] else []):=by
 unfold gq
 grind
theorem aaL (bc:aT f) (r:bu t) (eR:jb t) {p q:Pt} (hp:p∈f) (hq:q∈f) (fy:p.1≠q.1):cP p q (t.1,t.2)=aeR (aeU (leads p q t),0):=by
 rcases nY (bc.2.1 _ hp) (bc.2.1 _ hq) eR r with h|⟨h,_⟩
 · rw [show ((t.1,t.2):Int×Int)=t from rfl,h,Do fy]
 omega
theorem Rt {l:List Pt} {x:Pt} (i:Nat) (hi:i<aeP l):kT t (l.take (i+1)) x=if leads l[i]! (kT t (l.take i) x) t then l[i]! else kT t (l.take i) x:=by rw [dG hi];unfold kT;simp
structure Vf (f:List Pt) (l:List Pt):Prop where
 sub: ∀p∈l,p∈f
 nd:(l.map fun p=>p.1).Nodup
 len:(aeP l)<=64
theorem Vf.side {l:List Pt} (h:Vf f l) (top:Int) (d b:Nat):Vf f (gq l top d b) where
 sub:=fun p hp=>h.sub p (Xg hp)
 nd:=by rw [uA];exact rM h.nd _ _ _
 len:=abg (Ah ..) h.len
theorem Vf.bits (bc:aT f) {l:List Pt} (h:Vf f l) {p:Pt} (hp:p∈l):0<=p.1/\p.1<=65535:=by have:=bc.2.1 p (h.sub p hp);unfold eZ at this;omega
theorem Vf.ne {l:List Pt} (h:Vf f l) {i j:Nat} (hi:i<aeP l) (hj:j<aeP l) (fy:i≠j):(l[i]!).1≠(l[j]!).1:=by
 have ll:(l.map fun p=>p.1).length=(aeP l):=WF ..;intro e;rcases PP i j with c|c|c
 · exact bI.1 h.nd i j c (by omega) (by grind)
 · exact fy c
 exact bI.1 h.nd j i c (by omega) (by grind)
theorem C5 (t:Int×Int): ∀(r:List Pt) (x:Pt),kT t r x=x\/kT t r x∈r
 | [],_=> .inl rfl
 |p::r,x=>by
  show kT t r (if leads p x t then p else x)=x\/kT t r (if leads p x t then p else x)∈_
  by_cases c:leads p x t
  · rw [AC c]
    rcases C5 t r p with e|e
    · rw [e];exact .inr aaF
    grind
  rw [Do c]
  exact (C5 t r x).imp id (IR _)
theorem aaM {l:List Pt} (h:Vf f l) {i:Nat} (hi:i+1<aeP l):(l[i+1]!).1≠(kT t ((l.drop 1).take i) l[0]!).1:=by
 rcases C5 t _ l[0]! with e|e
 · rw [e];exact h.ne hi (by omega) (by omega)
 obtain ⟨j,hj,ej⟩:=aS.1 e
 rw [aa9,abE] at hj;have:((l.drop 1).take i)[j]! =l[1+j]!:=by
  grind
 rw [<- ej,this];exact h.ne hi (by omega) (by omega)
theorem Ru {l:List Pt} {i:Nat} (_:i+1<aeP l):(l.drop 1)[i]! =l[i+1]!:=by simp
def g1S (t:Int×Int) (l:List Pt) (M:List (Int×Int)) (d:Nat) (top:Pt) (s0 s1:List Pt) (i:Nat):=
 ((d:Int),((aeP l):Int),(i:Int),l,M,t.1,t.2,top.1,top.2.1,top.2.2,s0,s1)
def g2S (t:Int×Int) (l:List Pt) (M:List (Int×Int)) (u:Int) (d:Nat) (top:Pt) (i:Nat):=
 (u,(d:Int),(1:Nat),aeP l-1,aeP l-1,((aeP l-1:Nat):Int),(i:Int),l,M,t.1,t.2,top)
theorem ahq (bc:aT f) {l:List Pt} (h:Vf f l) {d:Nat} (hd:d<=1000) {top:Pt} {M:List _} {u:Int} {c0:_} {c1:_} (hc:(aeP c1.2.2.2.2.1)=aeP l)
 {M2 M3:List _} (r1:c0 (t.1,t.2,top.1,((d+1:Nat):Int),gq l top.1 d 0,M)=aeR (gq l top.1 d 0,M2)) (r2:c0 (t.1,t.2,top.1,((d+1:Nat):Int),gq l top.1 d 1,M2)=aeR (gq l top.1 d 1,M3)):
 aq (iV c0 c1) (g1S t l M d top [] [] 0)=aeR (.done (l,M3)):=by
 have hl:=h.len;have st:=bg (body:=iV c0 c1) (fun i=>g1S t l M d top (gq (l.take i) top.1 d 0) (gq (l.take i) top.1 d 1) i) (aeP l) (fun i hi=>by
  have pm:=aK hi;obtain ⟨b0,b1⟩:=h.bits bc pm;have bt:=Ve b0 b1 d;have lt:=Gs (l[i]!).1 d;have s0:=Bu (l.take i) l[i]! top.1 d 0;have s1:=Bu (l.take i) l[i]! top.1 d 1;rw [<- dG hi] at s0 s1;have l0:(gq (l.take i) top.1 d 0).length<=64:=abg (Ah ..) (by rw [aa9];omega);have l1:(gq (l.take i) top.1 d 1).length<=64:=abg (Ah ..) (by rw [aa9];omega);have a0:aX (gq (l.take i) top.1 d 0) [l[i]!]=aeR (gq (l.take i) top.1 d 0++[l[i]!]):=bA (by rw [If];omega);have a1:aX (gq (l.take i) top.1 d 1) [l[i]!]=aeR (gq (l.take i) top.1 d 1++[l[i]!]):=bA (by rw [If];omega);unfold iV g1S;simp (disch:=omega) only [ar l i hi,aM,]
  grind)
 rw [abJ] at st;refine (st).trans (au ?_);unfold iV g1S;simp (disch:=omega) only [az,ww,aM,r1,r2,ai,hc,beq_self_eq_true,v6]
theorem aeV {l:List Pt} (h0:l≠[]):aD l 0=aeR l[0]!:=ar l 0 (acm.2 h0)
theorem amb (bc:aT f) (r:bu t) (eR:jb t) {l:List Pt} (h:Vf f l) (h0:l≠[]) {d:Nat} (hd:d<=1000) {M:List (Int×Int)} {u:Int} {c0:_}
 {M2 M3:List (Int×Int)} (r1:c0 (t.1,t.2,(kT t (l.drop 1) l[0]!).1,((d+1:Nat):Int),gq l (kT t (l.drop 1) l[0]!).1 d 0,mf M (kT t (l.drop 1) l[0]!).1 u)=aeR (gq l (kT t (l.drop 1) l[0]!).1 d 0,M2))
 (r2:c0 (t.1,t.2,(kT t (l.drop 1) l[0]!).1,((d+1:Nat):Int),gq l (kT t (l.drop 1) l[0]!).1 d 1,M2)=aeR (gq l (kT t (l.drop 1) l[0]!).1 d 1,M3)):
 pZ c0 (t.1,t.2,u,(d:Int),l,M)=aeR (l,M3):=by
 have hl:=h.len;have hp:=acm.2 h0;have ld:(l.drop 1).length=aeP l-1:=abE;have st:=bg (body:=lI c0 (t.1,t.2,u,(d:Int),l,M)) (fun i=>g2S t l M u d (kT t ((l.drop 1).take i) l[0]!) i) (aeP l-1) (fun i hi=>by
  have q:=ar (l.drop 1) i (by omega);rw [Ru (by omega)] at q;have ne:=aaM (t:=t) h (i:=i) (by omega);have m1:=h.sub _ (aK (i:=i+1) (by omega));have m2:kT t ((l.drop 1).take i) l[0]!∈f:=by
   rcases C5 t ((l.drop 1).take i) l[0]! with e|e
   · rw [e];exact h.sub _ (aK hp)
   exact h.sub _ (abu (abo e))
  have A:=aaL bc r eR m1 m2 ne;have tt:=Rt (t:=t) (l:=l.drop 1) (x:=l[0]!) i (by omega);rw [Ru (by omega)] at tt;rw [tt];unfold lI g2S;simp (disch:=omega) only [aM]
  grind)
 rw [abz (i:=aeP l-1) (by omega)] at st;have ol:=ahq bc h hd (c1:=(t.1,t.2,u,(d:Int),l,M)) rfl (u:=u) r1 r2;unfold pZ;have en:((aco (aeP l))==0)=aeT:=jm (by grind);have e2:(((aeU ((0:Nat)<=1))&&(aeU ((1:Int)<=(aco (aeP l)))))&&(aeU ((aco (aeP l))<=(aco (aeP l)))))=aeS:=by
  grind
 simp only [en,aeV h0,ai];rw [e2,v6];refine (st).trans (au ?_);unfold lI g2S;simp only [az (aeG _),];exact ol
theorem Vg (bc:aT f) (r:bu t) (eR:jb t): ∀(k n:Nat) (l:List Pt) (u:Int) (d:Nat) (M:List _),Vf f l->aeP l<=k->k+1<=n->d+k<=1000->
 jG n (t.1,t.2,u,(d:Int),l,M)=aeR (l,tp M (mZ (pW f t) Af k (l.map fun p=>p.1) u d))
 |k,0,l,u,d,M,_,_,hn,_=>absurd hn (by omega)
 |k,n+1,[],u,d,M,_,_,_,_=>by cases k<;>rfl
 |0,n+1,x::l,u,d,M,_,hk,_,_=>absurd hk (by simp)
 |k+1,n+1,x::l,u,d,M,h,hk,hn,hd=>by
  have ti:=Jd (t:=t) bc l x (h.sub x aaF) (fun p hp=>h.sub p (IR _ hp));have tl:ng _ ((x::l).map fun p=>p.1)=(kT t l x).1:=ti.1.symm;have so:=pQ bc.2.2 t;have sl: ∀b,(gq (x::l) (kT t l x).1 d b).length<=k:=fun b=>by
   have hS: ∀y∈((x::l).map fun p=>p.1),dO f y:=fun y hy=>by obtain ⟨p,hp,e⟩:=ab3.1 hy;exact dz.1 (ab3.2 ⟨p,h.sub p hp,e⟩)
   have t1:=(uy so (by simp) hS).1;have:=xa (bit:=Af) t1 d b
   grind [uA,WF]
  have A:=Vg bc r eR k n _ (kT t l x).1 (d+1) (mf M (kT t l x).1 u) (h.side _ _ _) (sl 0) (by omega) (by omega);have B:=Vg bc r eR k n _ (kT t l x).1 (d+1) (tp (mf M (kT t l x).1 u) (mZ (pW f t) Af k ((gq (x::l) (kT t l x).1 d 0).map fun p=>p.1) (kT t l x).1 (d+1))) (h.side _ _ _) (sl 1) (by omega) (by omega);have C:=amb bc r eR h (abG x l) (by omega) A B;refine (C).trans ?_;rw [uA,uA,<- Iv];refine congrArg aeR (ae9 rfl ?_);simp;rw [<- tl];rfl
end
section
variable {f : List Pt} {t : Int × Int}
def h1S (t:Int×Int) (l:List Pt) (M:List (Int×Int)) (d:Nat) (top:Pt) (s0 s1:List Pt) (i:Nat):=
 ((d:Int),l,((aeP l):Int),(i:Int),M,t.1,t.2,top.1,top.2.1,top.2.2,s0,s1)
def h2S (t:Int×Int) (l:List Pt) (M:List (Int×Int)) (u:Int) (d:Nat) (top:Pt) (i:Nat):=
 (l,u,(d:Int),l.drop 1,((l.drop 1).length:Int),(i:Int),M,t.1,t.2,top)
theorem ahr (bc:aT f) {l:List Pt} (h:Vf f l) {d:Nat} (hd:d<=1000) {top:Pt} {M:List _}
 {M2 M3:List _} (r1:gY (t.1,t.2,top.1,((d+1:Nat):Int),gq l top.1 d 0,M)=aeR (gq l top.1 d 0,M2)) (r2:gY (t.1,t.2,top.1,((d+1:Nat):Int),gq l top.1 d 1,M2)=aeR (gq l top.1 d 1,M3)):
 aq iW (h1S t l M d top [] [] 0)=aeR (.done M3):=by
 have hl:=h.len;have st:=bg (body:=iW) (fun i=>h1S t l M d top (gq (l.take i) top.1 d 0) (gq (l.take i) top.1 d 1) i) (aeP l) (fun i hi=>by
  have pm:=aK hi;obtain ⟨b0,b1⟩:=h.bits bc pm;have bt:=Ve b0 b1 d;have lt:=Gs (l[i]!).1 d;have s0:=Bu (l.take i) l[i]! top.1 d 0;have s1:=Bu (l.take i) l[i]! top.1 d 1;rw [<- dG hi] at s0 s1;have l0:(gq (l.take i) top.1 d 0).length<=64:=abg (Ah ..) (by rw [aa9];omega);have l1:(gq (l.take i) top.1 d 1).length<=64:=abg (Ah ..) (by rw [aa9];omega);have a0:aX _ [l[i]!]=aeR (gq (l.take i) top.1 d 0++[l[i]!]):=bA (by rw [If];omega);have a1:aX _ [l[i]!]=aeR (gq (l.take i) top.1 d 1++[l[i]!]):=bA (by rw [If];omega);unfold iW h1S;simp (disch:=omega) only [ar l i hi,aM,]
  grind)
 rw [abJ] at st;refine (st).trans (au ?_);unfold iW h1S;simp (disch:=omega) only [az,ww,aM,r1,r2,ai]
theorem amc (bc:aT f) (r:bu t) (eR:jb t) {l:List Pt} (h:Vf f l) (h0:l≠[]) {d:Nat} (hd:d<=1000) {M:List _} {u:Int} {c0:_}
 {M2 M3:List _} (r1:gY (t.1,t.2,(kT t (l.drop 1) l[0]!).1,((d+1:Nat):Int),gq l (kT t (l.drop 1) l[0]!).1 d 0,mf M (kT t (l.drop 1) l[0]!).1 u)=aeR (gq l (kT t (l.drop 1) l[0]!).1 d 0,M2))
 (r2:gY (t.1,t.2,(kT t (l.drop 1) l[0]!).1,((d+1:Nat):Int),gq l (kT t (l.drop 1) l[0]!).1 d 1,M2)=aeR (gq l (kT t (l.drop 1) l[0]!).1 d 1,M3)):
 p5 c0 (l,t.1,t.2,u,(d:Int),M)=aeR M3:=by
 have hl:=h.len;have hp:=acm.2 h0;have ld:(l.drop 1).length=aeP l-1:=abE;have st:=bg (body:=lJ) (fun i=>h2S t l M u d (kT t ((l.drop 1).take i) l[0]!) i) _ (fun i hi=>by
  have q:=ar (l.drop 1) i hi;have ne:=aaM (t:=t) h (i:=i) (by omega);have m1:=h.sub _ (aK (i:=i+1) (by omega));have m2:kT t ((l.drop 1).take i) l[0]!∈f:=by
   rcases C5 t _ l[0]! with e|e
   · rw [e];exact h.sub _ (aK hp)
   exact h.sub _ (abu (abo e))
  have A:=aaL bc r eR m1 m2 ne;have tt:=Rt (t:=t) (x:=l[0]!) i hi;unfold lJ h2S;simp (disch:=omega) only [aM]
  grind)
 rw [abJ] at st;have ol:=ahr bc h hd r1 r2;have e1:gW l 1 (aco (aeP l))=aeR (l.drop 1):=by unfold gW;rw [AC (by refine ⟨by decide,?_,Int.le_refl _⟩;show (1:Int)<=((aeP l):Int);omega)];simp [abz,]
 unfold p5;have en:((aco (aeP l))==0)=aeT:=jm (by grind);simp only [en,aeV h0,e1];refine (st).trans (au ?_);unfold lJ h2S;simp only [az (aeG _),];exact ol
theorem adx (bc:aT f) (r:bu t) (eR:jb t):sS (f,t.1,t.2,-1,0,[])=aeR (tp [] (wX f t)):=by
 have h:Vf f f:=⟨fun p hp=>hp,eF bc.2.2,bc.1⟩;have f1:=bc.1;unfold wX;cases hf:f with
 |nil=>rfl
 |cons x l=>
  rw [<- hf];have fl:(aeP f)=aeP l+1:=by rw [hf];rfl
  have d1:f.drop 1=l:=by rw [hf];rfl
  have g0:f[0]! =x:=by rw [hf];rfl
  have ti:=Jd (t:=t) bc l x (by rw [hf];exact aaF) (fun p hp=>by rw [hf];exact IR _ hp);have ei:ed f=x.1::l.map fun p=>p.1:=by unfold ed;rw [hf];rfl
  have tl:ng (pW f t) (ed f)=(kT t l x).1:=by rw [ei];exact ti.1.symm
  have so:=pQ bc.2.2 t;have sl: ∀b,(gq f (kT t l x).1 0 b).length<=(aeP l):=fun b=>by
   have hS: ∀y∈ed f,dO f y:=fun y hy=>dz.1 hy
   have t1:=(uy so (by unfold ed;rw [hf];simp) hS).1;rw [tl] at t1;have:=xa (bit:=Af) t1 0 b;unfold ed at this;rw [<- uA,WF,WF] at this;omega
  have A:=Vg bc r eR (aeP l) 1000000 _ (kT t l x).1 1 (mf [] (kT t l x).1 (-1)) (h.side _ _ _) (sl 0) (by omega) (by omega);have B:=Vg bc r eR (aeP l) 1000000 _ (kT t l x).1 1 (tp (mf [] (kT t l x).1 (-1)) (mZ (pW f t) Af (aeP l) ((gq f (kT t l x).1 0 0).map fun p=>p.1) (kT t l x).1 1)) (h.side _ _ _) (sl 1) (by omega) (by omega);have C:=amc bc r eR h (by rw [hf];exact abG x l) (d:=0) (by omega) (c0:=jH 999999) (by rw [d1,g0];exact A) (by rw [d1,g0];exact B);refine (C).trans (congrArg aeR ?_);rw [uA,uA,<- Iv,fl];rw [show (f.map fun p=>p.1)=ed f from rfl,<- tl];rw [ei];rfl
end
theorem OY {h l:Pt} {t t':Int×Int} (hh:eZ h) (hl:eZ l) (r:bu t) (r':bu t') (le:t.1*t'.2<=t'.1*t.2) (nf:(jo h l t).2=aeS->t'.1*(jo h l t).1.2<(jo h l t).1.1*t'.2): ¬leads l h t':=by
 unfold jo at nf
 by_cases h1:leads l h t
 · grind
 rw [Do h1] at nf
 by_cases h2:h.2.2<l.2.2
 · rw [AC h2] at nf
   obtain ⟨_,m1,m2,m3⟩:=EY hh hl (show h.2.2≠l.2.2 by omega);have up:=nf rfl;dsimp only at up;intro h3;have g:0<=Eh l h t':=by rcases h3 with k|k<;>omega
   rw [DL] at g;generalize met h l=m at*;have d:=m1.1;have hB:0<l.2.2-h.2.2:=by omega
   generalize l.2.2-h.2.2=B at*;generalize hA:h.2.1-l.2.1=A at*;have g2:A*t'.2<=B*t'.1:=by
    have:(l.2.1-h.2.1)*t'.2= -(A*t'.2):=by grind
    omega
   have g3:m.1*t'.2*B<=t'.1*m.2*B:=by
    have e1:m.1*t'.2*B=A*t'.2*m.2:=by grind
    have e2:t'.1*m.2*B=B*t'.1*m.2:=by grind
    rw [e1,e2];exact Int.mul_le_mul_of_nonneg_right g2 (by omega)
   have g4:=Int.le_of_mul_le_mul_right g3 hB;omega
 exact Il r.1 r'.1 le h2 h1
theorem TG {c:aH} (ok:aQ c) {N:List Nd} {r:Int} (tr:gO c.io.am c.ii N r) (ct: ∀e∈cB N (aeP c.io.am),qR c.af.ce e) {to:Int×Int} (rt:bu to) (le: ¬gE to c.ii<0) (jp: ¬BZ c to):gO c.io.am to N r:=by
 have ln:=tr.len;refine ⟨tr.len,tr.ids,tr.pp.other (Bp ok.eM.2.2 to) (NE _) fun k j _ hk _ hj hb=>?_⟩;have hbl:Below N j k:=hb;have hp:=tr.par hj;have hr:(j:Int)≠r:=fun q=>by
  grind
 obtain ⟨p1,p2,p3,_⟩:=hp.2.1 hr;have ek:=hp.2.2 k (by omega) hbl;have mem:=Bq.2 ⟨j,hj,p1,by rw [<- ek,tr.ids j hj,tr.ids k hk]⟩;obtain ⟨w,w1,w2⟩:=ct _ mem;have LM:=ok.eM.2.1 _ (aK hk);have hj':=ok.eM.2.1 _ (aK hj);have wn:bV c.io.am (c.af.ce[w]!).2 c.ii=jo c.io.am[k]! c.io.am[j]! c.ii:=by unfold bV;rw [w2,mA ok.eM.2.2 hk rfl,mA ok.eM.2.2 hj rfl]
 have nl: ¬leads c.io.am[j]! c.io.am[k]! to:=by
  refine OY LM hj' ok.hZ rt (by rw [oy] at le;omega) fun is=>?_
  rw [<- wn] at is;obtain ⟨d,hd,_,ev⟩:=ok.DK.has _ (aK w1) is;obtain ⟨v,hv,he⟩:=aS.1 ev;have tl:=Ab ok.oj v hv;have h0:0<(aeP c.ae.bv):=by omega
  have e0:=(ok.oj.ev 0 h0).1.1;have ev':=(ok.oj.ev v hv).1.1;rw [he] at tl ev';rw [<- wn];have n1:=fun q=>tl (.inl q)
  rw [oy] at n1;have n2: ¬gE (Ev.at c.ae.bv[0]!) to<=0:=fun q=>jp ⟨h0,q⟩
  have n3:to.1*(Ev.at c.ae.bv[0]!).2<(Ev.at c.ae.bv[0]!).1*to.2:=by unfold gE at n2;rcases dM ((Ev.at c.ae.bv[0]!).1*to.2) (to.1*(Ev.at c.ae.bv[0]!).2) with ⟨a,b⟩|⟨a,b⟩|⟨a,b⟩<;>omega
  exact qn rt.1 e0 ev' n3 (Int.not_lt.1 n1)
 exact pq to (fun e=>p3 (by rw [<- ek];exact nL ok.eM.2.2 hk hj e.symm)) nl
structure atl (c:aH) (f:List Pt) (k:bC):Prop where
 qp:BI c f (cB k.pp.lw (aeP f)) k.kw
 pp:gO f c.ii k.pp.lw k.pp.ls
theorem DU {c:aH} (ok:aQ c) {f:List Pt} (bc:aT f):
 ∃R:bC×Int,sY c ⟨f⟩=aeR R/\(R.2=0/\atl c f R.1\/R=(⟨cS,⟨0,[]⟩⟩,18)):=by
 have f1:=bc.1;obtain ⟨r,N,h1,h2⟩:=OR bc ok.hZ ok.dw;have el:=nM N (aeP f);obtain ⟨xX,nd,_⟩:=h2.Nc bc;obtain ⟨R,r1,r3⟩:=Ad ok bc xX nd (by omega);unfold sY;rw [h1,ai,r1,ai];rcases r3 with ⟨q0,qq⟩|he
 · rw [aY q0];exact ⟨_,rfl,.inl ⟨rfl,qq,h2⟩⟩
 simp_all
def hP (c:aH) (r:Int) (N:List Nd) (to:Int×Int) (out:List (Int×Int)):=
 (c.ii.1,c.ii.2,c.io.am,c.af.aU,c.af.ce,c.ae.aj.aC,c.ae.aj.be,c.ae.aj.bi,c.ae.bv,c.ae.aB,c.jp,r,N,to.1,to.2,(0:Int),(0:Int),(0:Int),(0:Int),out)
noncomputable def OZ (f:List Pt) (t:Int×Int) (k:Nat):Nat->Nat
 |0=>0
 |j+1=>OZ f t k j+(if j≠k/\Gj f t j k then 1 else 0)
theorem Hz (f:List Pt) (t:Int×Int) (k:Nat): ∀j,OZ f t k j<=j/\(k<j->OZ f t k j+1<=j)
 |0=>⟨NE _,fun h=>by omega⟩
 |j+1=>by
  obtain ⟨h1,h2⟩:=Hz f t k j;rw [OZ]
  grind
theorem Xh {f:List Pt} (bc:aT f) {t:Int×Int} (eR:jb t) {k:Nat} (hk:k<aeP f):wO ⟨f⟩ f[k]! t=aeR (OZ f t k (aeP f):Int):=by
 have f1:=bc.1;have key:=bg (body:=nT) (fun j=>((OZ f t k j:Int),(j:Int),f,(f[k]!).1,(f[k]!).2.1,(f[k]!).2.2,t)) (aeP f) (fun j hj=>by
  have g:=ar f j hj;have le:=(Hz f t k j).1;have ld:=CR (bc.2.1 _ (aK hj)) (bc.2.1 _ (aK hk)) eR;unfold nT;rw [OZ]
  by_cases q:j=k
  · subst q
    simp only [aF,ay (show (j:Int)<((aeP f):Int) by omega),v6,g,ai,aY rfl,ww,aM (show j<1000000000 by omega),Do (show¬(j≠j/\Gj f t j j) from fun w=>w.1 rfl),aeJ]
  have ne:=fun h=>q (nL bc.2.2 hj hk h)
  by_cases c:Gj f t j k
  · rw [show aeU (leads f[j]! f[k]! t)=aeS from ay c] at ld
    simp only [aF,ay (show (j:Int)<((aeP f):Int) by omega),v6,g,ai,db ne,ld,aM (show j<1000000000 by omega),aM (show OZ f t k j<1000000000 by omega),AC (show j≠k/\Gj f t j k from ⟨q,c⟩)]
  rw [show aeU (leads f[j]! f[k]! t)=aeT from az c] at ld
  simp only [aF,ay (show (j:Int)<((aeP f):Int) by omega),v6,g,ai,db ne,ld,ww,aM (show j<1000000000 by omega),Do (show¬(j≠k/\Gj f t j k) from fun w=>c w.2),aeJ])
 unfold wO;rw [show aq nT (0,0,f,(f[k]!).1,(f[k]!).2.1,(f[k]!).2.2,t)=_ from key];refine au ?_;unfold nT;simp
noncomputable def Gv (f:List Pt) (t:Int×Int):Nat->List Int
 |0=>EQ (aeP f) 0
 |i+1=>(Gv f t i).set (OZ f t i (aeP f)) (f[i]!).1
theorem vN (f:List Pt) (t:Int×Int): ∀i,(Gv f t i).length=aeP f
 |0=>aaE ..
 |i+1=>by rw [Gv,ab1,vN f t i]
theorem TH {f:List Pt} (bc:aT f) {t:Int×Int} (eR:jb t):uT ⟨f⟩ t=aeR (Gv f t (aeP f)):=by
 have f1:=bc.1;have mk:qd ((aeP f):Int) (0:Int)=aeR (EQ (aeP f) 0):=by unfold qd;rw [AC ⟨by omega,by omega⟩,aba]
 have key:=bg (body:=mK) (fun i=>((i:Int),f,t.1,t.2,Gv f t i)) (aeP f) (fun i hi=>by have g:=ar f i hi;have le:=(Hz f t i (aeP f)).2 hi;have go:=ar (Gv f t i) (OZ f t i (aeP f)) (by rw [vN];omega);unfold mK;simp only [aF,ay (show (i:Int)<((aeP f):Int) by omega),g,ai,Xh bc eR hi,go,aM (show i<1000000000 by omega)];rfl);unfold uT;simp [aF,beq_self_eq_true,mk,ai];rw [show aq mK (0,f,t.1,t.2,EQ (aeP f) 0)=_ from key];refine au ?_;unfold mK;simp
theorem O0 {f : List Pt} (h : fo f) {t : Int × Int} {i k : Nat} (hi : i < (aeP f)) (hk : k < (aeP f)) (a : Gj f t i k) : ∀ j, j <= (aeP f) -> OZ f t i j + (if i < j then 1 else 0) <= OZ f t k j
  | 0, _ => by exact NE _
  | j + 1, hj => by
    have o := Bp h t
    have ih := O0 h hi hk a j (by omega)
    have ik : i ≠ k := fun e => by subst e; exact o.asy i i hi hi a a
    rw [OZ, OZ]
    by_cases e : j = i
    · grind
    have e2 : (if i < j + 1 then 1 else 0) = (if i < j then 1 else 0) := by
      by_cases c : i < j
      · rw [AC c, AC (by omega)]
      rw [Do c, Do (by omega)]
    by_cases c : j ≠ i /\ Gj f t j i
    · have c2 : j ≠ k /\ Gj f t j k := by
        have q := o.tr j i k (by omega) hi hk c.2 a
        exact ⟨fun z => by subst z; exact o.asy j j (by omega) (by omega) q q, q⟩
      rw [AC c, AC c2]; omega
    grind
theorem ady {f:List Pt} (h:fo f) {t:Int×Int} {i k:Nat} (hi:i<aeP f) (hk:k<aeP f) (ne:i≠k):OZ f t i (aeP f)≠OZ f t k (aeP f):=by
 have o:=Bp h t
 by_cases a:Gj f t i k
 · have:=O0 h hi hk a (aeP f) (NE _)
   grind
 have:=O0 h hk hi (o.tot i k hi hk ne a) (aeP f) (NE _)
 grind
theorem O1 {f:List Pt} (h:fo f) {t:Int×Int} {i:Nat}: ∀j,j<=aeP f->i<j->(Gv f t j)[OZ f t i (aeP f)]! =(f[i]!).1
 |0,_,hi=>by omega
 |j+1,hj,hi=>by
  rw [Gv,cf];have hr:=(Hz f t i (aeP f)).2 (by omega)
  by_cases q:i=j
  · subst q
    rw [AC ⟨rfl,by rw [vN];omega⟩]
  rw [Do (fun w=>ady h (by omega) (by omega) q w.1)]
  exact O1 h j (by omega) (by omega)
theorem Nk {f:List Pt} (h:fo f) (t:Int×Int):(ed f).Perm (Gv f t (aeP f)):=by have il:(ed f).length=(aeP f):=WF ..;refine ft (eF h) (fun x hx=>?_) (by rw [vN,il];omega);obtain ⟨i,hi,e⟩:=dz.1 hx;have hr:=(Hz f t i (aeP f)).2 hi;exact aS.2 ⟨OZ f t i (aeP f),by rw [vN];omega,by rw [O1 h _ (NE _) hi];exact e⟩
theorem TI {f:List Pt} (h:fo f) (t:Int×Int) {p q:Nat} (hpq:p<q) (hq:q<aeP f):pW f t (Gv f t (aeP f))[p]! (Gv f t (aeP f))[q]!:=by
 have pm:=Nk h t;have nd:=pm.nodup_iff.1 (eF h);have ol:=vN f t (aeP f);have o:=Bp h t;have at': ∀x,x<aeP f-> ∃i,i<aeP f/\(Gv f t (aeP f))[x]! =(f[i]!).1/\OZ f t i (aeP f)=x:=fun x hx=>by
  obtain ⟨i,hi,e⟩:=dz.1 (pm.mem_iff.2 (aK (i:=x) (by omega)));have hr:=(Hz f t i (aeP f)).2 hi;have e2:=O1 h (t:=t) (aeP f) (NE _) hi;rw [e] at e2;refine ⟨i,hi,e.symm,?_⟩;rcases PP _ x with c|c|c
  · exact absurd e2 (bI.1 nd _ _ c (by omega))
  · exact c
  exact absurd e2.symm (bI.1 nd _ _ c (by omega))
 obtain ⟨i,hi,e1,r1⟩:=at' p (by omega);obtain ⟨k,hk,e2,r2⟩:=at' q hq;rw [e1,e2];show leads _ _ t;rw [mA h hi rfl,mA h hk rfl]
 by_cases a:Gj f t i k
 · exact a
 have:=O0 h hk hi (o.tot i k hi hk (fun e=>by subst e;omega) a) (aeP f) (NE _)
 omega
theorem Xi {f:List Pt} (h:fo f) (t:Int×Int):(Gv f t (aeP f)).Pairwise (pW f t):=by
 refine List.pairwise_iff_getElem.2 fun i j hi hj pX=>?_
 have:=TI h t pX (by rw [<- vN f t (aeP f)];exact hj)
 grind
section
variable {f : List Pt} {t : Int × Int}
theorem aaN {P:Int->Int->Prop} {S:Int->Prop} (o:SO P S) {x:Int} {r:List Int} (hS: ∀y∈x::r,S y) (pw:(x::r).Pairwise P):ng P (x::r)=x:=by
 obtain ⟨p1,_⟩:=abw.1 pw;refine La o hS aaF fun y hy=>?_
 rcases abi.1 hy with rfl|hy
 · exact o.irr _ (hS _ aaF)
 exact o.asym (hS _ aaF) (hS _ (IR _ hy)) (p1 y hy)
def Ai (r:List Int) (d b:Nat):List Int:=r.filter fun x=>decide (Af x d=b)
theorem aaO {P:Int->Int->Prop} {S:Int->Prop} (o:SO P S) {x:Int} {r:List Int} (hS: ∀y∈x::r,S y) (pw:(x::r).Pairwise P) (d b:Nat):ny Af (x::r) x d b=Ai r d b:=by
 obtain ⟨p1,_⟩:=abw.1 pw;unfold ny Ai;rw [List.filter_cons,Do (by simp)];refine List.filter_congr fun y hy=>?_
 have ne:y≠x:=fun e=>o.irr x (hS x aaF) (by have:=p1 y hy;rwa [e] at this)
 grind
theorem TJ (r:List Int) (x:Int) (d b:Nat):Ai (r++[x]) d b=Ai r d b++(if Af x d=b then [x] else []):=by
 unfold Ai
 grind
theorem aaP {x:Int} {r:List Int} (hr:(aeP r)<=64) (pos: ∀y∈r,0<=y) {d:Nat} (hd:d<=1000) {b:Nat} {out A:List _} {c0:_} (afY:(aeP out)+aeP A<=1000) (hb:b<=2) (rec:c0 (Ai r d b,x,((d+1:Nat):Int))=aeR A):
 aq (qf c0) (x::r,(d:Int),(b:Int),1,out,[])=aeR (.next (x::r,(d:Int),((b+1:Nat):Int),out++A)):=by
 have st:=bg (body:=qf c0) (fun i=>(x::r,(d:Int),(b:Int),((i+1:Nat):Int),out,Ai (r.take i) d b)) (aeP r) (fun i hi=>by
  have g:=ar (x::r) (i+1) (by rw [abj];omega);have gi:(x::r)[i+1]! =r[i]!:=by rw [getElem!_pos _ _ (by rw [abj];omega),getElem!_pos r i hi];rfl
  rw [gi] at g;have s:=TJ (r.take i) r[i]! d b;rw [<- dG hi] at s;have lim:(Ai (r.take i) d b).length<=64:=abg (abD ..) (by rw [aa9];omega);have ap:aX _ [r[i]!]=aeR (Ai (r.take i) d b++[r[i]!]):=bA (by rw [If];omega);have bt:=adw (pos _ (aK hi)) d;rw [s];unfold qf;simp (disch:=omega) only [aF,abj,ay,v6,g,ai,az,ww,ap,aM]
  by_cases c:Af r[i]! d=b
  · rw [lL (by omega),v6,AC c]
  rw [jm (by omega),ww,Do c,abe])
 refine (st).trans (au ?_);have g0:=ar (x::r) 0 (by rw [abj];omega);have ap:aX out A=aeR _:=bA (by omega);unfold qf;simp (disch:=omega) only [aM,]
 grind
theorem Xj {P:Int->Int->Prop} {S:Int->Prop} (o:SO P S) {n:Nat} {l:List Int} {u:Int} {d:Nat} (hS: ∀x∈l,S x) (nd:l.Nodup) (h:(aeP l)<=n):(mZ P Af n l u d).length=(aeP l):=by
 have:=(Bs o Gs n l u d hS nd h).1.length_eq
 grind
theorem adz {P:Int->Int->Prop} {S:Int->Prop} (o:SO P S) {l:List Int} (hS: ∀x∈l,S x) (pw:l.Pairwise P):l.Nodup:=by
 induction l with
 |nil=>simp
 |cons x l ih=>obtain ⟨p1,p2⟩:=abw.1 pw;exact abc.2 ⟨fun h=>o.irr x (hS x aaF) (p1 x h),ih (fun y hy=>hS y (IR _ hy)) p2⟩
theorem aeW (bc:aT f): ∀(k n:Nat) (l:List Int) (u:Int) (d:Nat),(∀x∈l,dO f x)->l.Pairwise (pW f t)->aeP l<=k->k<=64->k+1<=n->d+k<=1000->
 sJ n (l,u,(d:Int))=aeR (mZ (pW f t) Af k l u d)
 |k,0,l,u,d,_,_,_,_,hn,_=>absurd hn (by omega)
 |k,n+1,[],u,d,_,_,_,_,_,_=>by cases k<;>rfl
 |0,n+1,x::r,u,d,_,_,hk,_,_,_=>absurd hk (by simp)
 |k+1,n+1,x::r,u,d,hS,pw,hk,h64,hn,hd=>by
  have o:=pQ bc.2.2 t;have th:=aaN o hS pw;rw [abj] at hk;have hr: ∀b,(∀y∈Ai r d b,dO f y)/\(Ai r d b).Pairwise _/\(Ai r d b).length<=k:=fun b=>
   ⟨fun y hy=>hS y (IR _ (ae8.1 hy).1),(abw.1 pw).2.filter _,abg (abD ..) (by omega)⟩
  have pos:=fun y hy=>by have p0:=bT bc (hS y (IR _ hy));have p1:=p0.1.1;rw [p0.2] at p1;exact p1
  have rc:=fun b=>aeW bc k n _ x (d+1) (hr b).1 (hr b).2.1 (hr b).2.2 (by omega) (by omega) (by omega)
  have ln: ∀b,(mZ (pW f t) Af k _ x (d+1)).length<=64:=fun b=>by rw [Xj o (hr b).1 (adz o (hr b).1 (hr b).2.1) (hr b).2.2];have:=(hr b).2.2;omega
  have l0:=ln 0;have l1:=ln 1;have A:=aaP (by omega) pos (by omega) (out:=[(x,u)]) (by rw [If];omega) (by omega) (rc 0);have B:=aaP (by omega) pos (by omega) (out:=[(x,u)]++mZ (pW f t) Af k (Ai r d 0) x (d+1)) (by rw [abd,If];omega) (by omega) (rc 1);show A5 _ _=_;have g0:aD _ 0=aeR x:=ar (x::r) 0 (by rw [abj];omega);unfold A5;simp [g0,];have s1:=A;have s2:=B;rw [aJ s1,aJ s2];refine (au (rfl)).trans ?_;simp [mZ]
  grind [aaO]
theorem Rv (bc:aT f):EV (Gv f t (aeP f)) (-1) 0=aeR (wX f t):=by have f1:=bc.1;have pm:=Nk bc.2.2 t;have h:=aeW bc (aeP f) 1000000 _ (-1) 0 (fun x hx=>dz.1 (pm.mem_iff.2 hx)) (Xi bc.2.2 t) (by rw [vN];omega) f1 (by omega) (by omega);refine (h).trans (congrArg aeR ?_);exact (E5 (pQ bc.2.2 t) (aeP f) _ _ _ 0 (fun x hx=>dz.1 hx) pm).symm
theorem Xk (bc:aT f) (eR:jb t):F4 ⟨f⟩ t=aeR (vZ f t):=by
 have f1:=bc.1;obtain ⟨k1,k2⟩:=xR bc;have nd:=k1.nodup_iff.2 (eF bc.2.2);have ll:(wX f t).length=(aeP f):=by have:=k1.length_eq;rw [WF] at this;rw [this];exact WF ..
 have mk:qd ((aeP f):Int) (0:Int)=aeR (EQ (aeP f) 0):=by unfold qd;rw [AC ⟨by omega,by omega⟩,aba]
 let U:=fun j=>f.map fun p=>if p.1∈((wX f t).take j).map (fun e=>e.1) then jR 0 (wX f t) p.1 else 0
 have Ul: ∀j,(U j).length=(aeP f):=fun j=>WF ..
 have Ua: ∀j i,i<aeP f->(U j)[i]! =if (f[i]!).1∈((wX f t).take j).map (fun e=>e.1) then jR 0 _ (f[i]!).1 else 0:=fun j i hi=>by rw [getElem!_pos _ i (by rw [Ul];exact hi),adX,getElem!_pos f i hi]
 have st:=bg (body:=yA) (fun j=>(wX f t,(j:Int),f,U j)) _ (fun j hj=>by
  have g:=ar (wX f t) j hj;have hm:=aK hj;have hp:=dz.1 (k1.mem_iff.1 (ab3.2 ⟨_,hm,rfl⟩));obtain ⟨i,hi,ei⟩:=hp;have ga:=MX bc.2.2 (by omega) hi ei;have gu:=ar (U j) i (by rw [Ul];exact hi);unfold yA;simp (disch:=omega) only [aF,ay,v6,g,ai,ga,gu,eE,aM];have eU:(U j).set i ((wX f t)[j]!).2=U (j+1):=by
   refine mW (by rw [ab1,Ul,Ul]) fun k hk=>?_
   rw [ab1,Ul] at hk;have mm:(f[k]!).1∈((wX f t).take (j+1)).map (fun e=>e.1)↔(f[k]!).1∈((wX f t).take j).map (fun e=>e.1)\/(f[k]!).1∈[(wX f t)[j]!].map (fun e=>e.1):=by rw [dG hj,ad4,abb]
   rw [cf,Ul,Ua _ k hk,Ua _ k hk]
   by_cases c:k=i
   · subst c
     rw [AC ⟨rfl,hi⟩,AC (mm.2 (.inr (by rw [ei];exact abk.2 rfl))),ei];exact (Gr nd (hm)).symm
   rw [Do (fun w=>c w.1)]
   have ne:=fun w=>c (nL bc.2.2 hk hi ((abk.1 w).trans ei.symm))
   by_cases q:(f[k]!).1∈((wX f t).take j).map fun e=>e.1
   · rw [AC q,AC (mm.2 (.inl q))]
   rw [Do q,Do (fun w=>(mm.1 w).elim q ne)]
  rw [eU])
 have U0:U 0=EQ (aeP f) 0:=by
  refine mW (by rw [Ul,aaE]) fun k hk=>?_
  rw [Ul] at hk;rw [Ua 0 k hk,List.take_zero,List.map_nil,Do adW,getElem!_pos _ k (by rw [aaE];exact hk),abC]
 have Un:U (wX f t).length=vZ f t:=by
  refine mW (by rw [Ul,Gt]) fun k hk=>?_
  rw [Ul] at hk;rw [Ua _ k hk,abJ,AC (k1.mem_iff.2 (dz.2 ⟨k,hk,rfl⟩)),OX hk]
 unfold F4;rw [TH bc eR,ai,Rv bc,ai];simp [mk,];rw [<- U0];refine (st).trans (au ?_);unfold yA;simp (disch:=omega) only [aF,az,ww];rw [Un]
theorem Iw (U:List Int) (i:Nat):gB f U (i+1)=gB f U i++(if 0<=U[i]! then [((f[i]!).1,U[i]!)] else []):=rfl
theorem Xl {U:List Int} (hU:(aeP U)=aeP f) (hf:(aeP f)<=1000):KA ⟨f⟩ U=aeR (gB f U (aeP f)):=by
 have st:=bg (body:=yB) (fun i=>(U,(i:Int),f,gB f U i)) (aeP f) (fun i hi=>by
  have gu:=ar U i (by omega);have gf:=ar f i hi;have el:=uz (f:=f) U i;have ap:aX _ [((f[i]!).1,U[i]!)]=aeR (gB f U i++[((f[i]!).1,U[i]!)]):=bA (by rw [If];omega);rw [Iw];unfold yB;simp (disch:=omega) only [aF,ay,v6,gu,gf,ai,ap,aM]
  by_cases c:0<=U[i]!
  · rw [ay c,v6,AC c]
  rw [az c,ww,Do c,abe])
 refine (st).trans (au ?_);unfold yB
 grind
theorem O2 (bc:aT f) (r:bu t) (eR:jb t):rG ⟨f⟩ t=aeR (vZ f t,gB f (vZ f t) (aeP f)):=by
 have f1:=bc.1;obtain ⟨k1,_⟩:=xR bc;have nd:=k1.nodup_iff.2 (eF bc.2.2);have ul:=Gt f t;have st:=bg (body:=sU) (fun i=>(f,((aeP f):Int),(i:Int),tp [] (wX f t),(vZ f t).take i,gB f (vZ f t) i)) (aeP f) (fun i hi=>by
  have gf:=ar f i hi;have gm:jR 0 (tp [] (wX f t)) (f[i]!).1=(vZ f t)[i]!:=by rw [Rs _ _ _ nd,AC (k1.mem_iff.2 (dz.2 ⟨i,hi,rfl⟩)),OX hi]
  have el:=uz (f:=f) (vZ f t) i;have a1:aX ((vZ f t).take i) [(vZ f t)[i]!]=aeR ((vZ f t).take (i+1)):=by rw [dG (by omega)];exact bA (by rw [aa9,If];omega)
  have a2:aX _ [((f[i]!).1,(vZ f t)[i]!)]=aeR (gB f (vZ f t) i++[((f[i]!).1,(vZ f t)[i]!)]):=bA (by rw [If];omega);rw [Iw];unfold sU;simp (disch:=omega) only [ay,v6,gf,ai,gm,a1,a2,aM]
  by_cases c:0<=(vZ f t)[i]!
  · rw [ay c,v6,AC c]
  rw [az c,ww,Do c,abe])
 unfold rG;rw [adx bc r eR,ai];refine (st).trans (au ?_);unfold sU
 grind
end
theorem TK (a b:List Int) (hl:(aeP a)<=1000000):iF a b=aeR (aeU (a=b)):=by
 unfold iF;simp []
 by_cases h:(aeP a)=aeP b
 case neg=>rw [db (by omega),az (fun k=>h (by rw [k]))];rfl
 rw [aY (by omega)];simp;have key:=kQ (body:=fI) (fun i=>(a,b,((aeP a):Int),(i:Int))) (aeP a) (fun i=>a[i]! =b[i]!) (r:=aeT) (e:=aeS) (fun i hi=>by
  unfold fI;simp (disch:=omega) only [ar,aM]
  grind) (by
  unfold fI;simp)
 refine (key).trans ?_
 by_cases q:a=b
 · grind
 rw [Do (fun w=>q (mW h w)),az q]
theorem Rw (a b:List Int) (hl:(aeP a)<=1000000):eN a b=aeR (aeU (a=b)):=by
 unfold eN;simp []
 by_cases h:(aeP a)=aeP b
 case neg=>rw [db (by omega),az (fun k=>h (by rw [k]))];rfl
 rw [aY (by omega)];simp;have key:=kQ (body:=iE) (fun i=>(a,b,(i:Int))) (aeP a) (fun i=>a[i]! =b[i]!) (r:=aeT) (e:=aeS) (fun i hi=>by
  unfold iE;simp (disch:=omega) only [ar,aM]
  grind) (by
  unfold iE;simp)
 refine (key).trans ?_
 by_cases q:a=b
 · grind
 rw [Do (fun w=>q (mW h w)),az q]
structure gJ (k:bH):Prop where
 fw:aQ k.kw
 up:vZ k.kw.io.am k.kw.ii=k.up
 cert:(k.kw.af.ce.map fun x=>x.2).Perm (gB k.kw.io.am k.up (aeP k.kw.io.am))
theorem L5 {c:aH} (ok:aQ c) (E:List _):
 (aeP E=aeP c.af.ce/\ ∀i,i<aeP c.af.ce->(c.af.ce[i]!).2∈E)↔(c.af.ce.map fun x=>x.2).Perm E:=by
 have cl:(c.af.ce.map fun x=>x.2).length=(aeP c.af.ce):=WF ..;constructor
 · rintro ⟨h1,h2⟩
   refine ft (ja ok.uw) (fun x hx=>?_) (by omega);obtain ⟨i,hi,rfl⟩:=dy.2 hx;exact h2 i hi
 intro h
 exact ⟨by rw [<- h.length_eq,cl],fun i hi=>h.mem_iff.1 (dy.1 ⟨i,hi,rfl⟩)⟩
theorem O3 {c:aH} {E:List _} (nd:E.Nodup) (ld: ∀e∈E,leads (bm c.io.am e.2) (bm c.io.am e.1) c.ii):
 (aeP c.af.ce=aeP E/\ ∀i,i<aeP E->qR c.af.ce E[i]!/\leads (bm c.io.am (E[i]!).2) (bm c.io.am (E[i]!).1) c.ii)↔(c.af.ce.map fun x=>x.2).Perm E:=by
 have cl:(c.af.ce.map fun x=>x.2).length=(aeP c.af.ce):=WF ..;constructor
 · rintro ⟨h1,h2⟩
   refine (ft nd (fun x hx=>?_) (by omega)).symm;obtain ⟨i,hi,rfl⟩:=aS.1 hx;exact dy.1 (h2 i hi).1
 intro h
 exact ⟨by rw [<- h.length_eq,cl],fun i hi=>⟨dy.2 (h.mem_iff.2 (aK hi)),ld _ (aK hi)⟩⟩
theorem Xm (es:List _) (l:List vY) (h1:(aeP es)<=1000000) (_:(aeP l)<=1000000):
 aq nV (es,l,((aeP l):Int),0)=aeR (if∀i,i<aeP l->(l[i]!).2∈es then 0 else 8):=by
 have key:=kQ (body:=nV) (fun i=>(es,l,((aeP l):Int),(i:Int))) (aeP l) (fun i=>(l[i]!).2∈es) (e:=0) (fun i hi=>by
  unfold nV;simp (disch:=omega) only [ay,ar l i hi,ai,jX es _ h1,aM];refine ⟨fun q=>?_,fun q=>?_⟩
  · rw [az q];rfl
  · rw [ay q];rfl) (by
  unfold nV;simp (disch:=omega) only [az,ww])
 grind
theorem ob {k:bH} (fit:mY k.kw):iM k=aeR (if gJ k then 0 else 8):=by
 unfold iM;rw [ia fit,ai]
 by_cases ok:aQ k.kw
 case neg=>rw [Do ok,Do (fun h=>ok h.fw)];rfl
 rw [AC ok,aY rfl,ww];have f1:=ok.eM.1;have hh:=O2 ok.eM ok.hZ ok.dw;have ul:=Gt k.kw.io.am k.kw.ii;rw [hh,ai,TK _ _ (show (vZ k.kw.io.am k.kw.ii).length<=1000000 by omega),ai]
 by_cases hn:vZ k.kw.io.am k.kw.ii=k.up
 case neg=>rw [az hn,Do (fun h:gJ k=>hn h.up)];rfl
 have el:=uz (f:=k.kw.io.am) k.up (aeP k.kw.io.am);have iff:=L5 ok (gB k.kw.io.am k.up (aeP k.kw.io.am));rw [ay hn,abn,ww,hn];simp []
 by_cases hc:(gB k.kw.io.am k.up (aeP k.kw.io.am)).length=aeP k.kw.af.ce
 case neg=>rw [db (by omega),v6,Do (fun h:gJ k=>hc (iff.2 h.cert).1)]
 rw [aY (by omega),ww,Xm _ _ (by omega) (by omega)]
 by_cases hj: ∀i,i<aeP k.kw.af.ce->(k.kw.af.ce[i]!).2∈gB k.kw.io.am k.up (aeP k.kw.io.am)
 · rw [AC hj,AC (⟨ok,hn,iff.1 ⟨hc,hj⟩⟩)]
 rw [Do hj,Do (fun h:gJ k=>hj (iff.2 h.cert).2)]
theorem C6 {k:bH} (fit:mY k.kw):rz k=aeR (if gJ k then 0 else 8):=by
 unfold rz;rw [tc fit,ai]
 by_cases ok:aQ k.kw
 case neg=>rw [Do ok,Do (fun h=>ok h.fw)];rfl
 rw [AC ok,aY rfl,ww];have f1:=ok.eM.1;have hu:=Xk ok.eM ok.dw;have ul:=Gt k.kw.io.am k.kw.ii;rw [hu,ai,Rw _ _ (show (vZ k.kw.io.am k.kw.ii).length<=1000000 by omega),ai]
 by_cases hn:vZ k.kw.io.am k.kw.ii=k.up
 case neg=>rw [az hn,Do (fun h:gJ k=>hn h.up)];rfl
 have of:=Xl (f:=k.kw.io.am) ul (by omega);obtain ⟨xX,nd,ld⟩:=Ag ok.eM;rw [ay hn,abn,ww,of,ai,I7 ok _ xX.kn,ai];have iff:=O3 nd ld
 by_cases hj:(aeP k.kw.af.ce)=(gB k.kw.io.am (vZ k.kw.io.am k.kw.ii) (aeP k.kw.io.am)).length/\ ∀i,i<(gB k.kw.io.am (vZ k.kw.io.am k.kw.ii) (aeP k.kw.io.am)).length->qR k.kw.af.ce (gB k.kw.io.am (vZ k.kw.io.am k.kw.ii) (aeP k.kw.io.am))[i]!/\leads (bm k.kw.io.am ((gB k.kw.io.am (vZ k.kw.io.am k.kw.ii) (aeP k.kw.io.am))[i]!).2) (bm k.kw.io.am ((gB k.kw.io.am (vZ k.kw.io.am k.kw.ii) (aeP k.kw.io.am))[i]!).1) k.kw.ii
 · rw [ay hj,AC (⟨ok,hn,by grind⟩)];rfl
 rw [az hj,Do (fun h:gJ k=>hj (iff.2 (by rw [hn];exact h.cert)))];rfl
structure O4 (k:bH):Prop where
 c:BJ k.kw
 n:(aeP k.up)<=1000
theorem Ix {k:bH} (h:O4 k):jx k k=aeR aeS:=by have hn:=h.n;unfold jx;rw [Bk h.c,ai,v6,Rw _ _ (by omega),ai,ay rfl]
theorem O5 (k:bH):vB k=aeR aeS\/(vB k=aeR aeT/\O4 k):=by
 unfold vB
 rcases yM k.kw with e|⟨e,sh⟩
 · grind
 rw [e,ai,ww,aF]
 by_cases h:70<aeP k.up
 · grind
 rw [az (by omega)];exact .inr ⟨rfl,sh,by omega⟩
structure aaQ (c:aH) (f:List Pt) (R:bH×Int):Prop where
 err:R.2=0
 up:R.1.up=vZ f c.ii
 qp:BI c f (gB f (vZ f c.ii) (aeP f)) R.1.kw
theorem Gw {c:aH} (ok:aQ c) {f:List Pt} (bc:aT f):
 ∃R:bH×Int,iY c ⟨f⟩=aeR R/\(aaQ c f R\/R=(⟨cS,[]⟩,18)):=by
 have f1:=bc.1;obtain ⟨xX,nd,_⟩:=Ag (t:=c.ii) bc;have el:=uz (f:=f) (vZ f c.ii) (aeP f);obtain ⟨R,r1,r3⟩:=Ad ok bc xX nd (by omega);have hh:=O2 bc ok.hZ ok.dw;unfold iY;rw [hh,ai,r1,ai];rcases r3 with ⟨q0,qq⟩|he
 · rw [aY q0];exact ⟨_,rfl,.inl ⟨rfl,rfl,qq⟩⟩
 simp_all
theorem BI.same {c:aH} {f:List Pt} {es:List _} {r:aH} (h:BI c f es r) (nd:es.Nodup):(r.af.ce.map fun x=>x.2).Perm es:=by
 refine (List.perm_ext_iff_of_nodup (ja h.ok.uw) nd).2 fun x=>⟨fun hx=>?_,fun hx=>dy.1 (h.has x hx)⟩
 obtain ⟨y,hy,rfl⟩:=ab3.1 hx;exact h.sub y hy
theorem aaQ.ok {c:aH} {f:List Pt} {R:bH×Int} (bc:aT f) (h:aaQ c f R):gJ R.1 where
 fw:=h.qp.ok
 up:=by rw [h.qp.eM,h.qp.ii,h.up]
 cert:=by rw [h.qp.eM,h.up];exact h.qp.same (Ag bc).2.1
def bM (p w:List Int) (i:Nat):Int:=if i<(aeP w) then w[i]! else p[i-(aeP w)]!
def oc (i j:Nat):Prop:= ∃d,(j+1) / 2^d=i+1
theorem oc.refl (i:Nat):oc i i:=⟨0,by simp⟩
theorem rN {i k j:Nat} (hk:k=2*i+1\/k=2*i+2) (h:oc k j):oc i j:=by obtain ⟨d,hd⟩:=h;refine ⟨d+1,?_⟩;rw [aeL,<- abl,hd];omega
theorem Je {a b c d:Nat} (h:a<=b) (hc:(c+1) / 2^a=d):(c+1) / 2^b=d / 2^(b-a):=by
 have:2^b=2^a*2^(b-a):=by rw [<- Nat.pow_add];congr 1;omega
 rw [this,<- abl,hc]
theorem Rx {x e:Nat} (he:0<e):x / 2^e<=x / 2:=by obtain ⟨k,rfl⟩: ∃k,e=k+1:=⟨e-1,by omega⟩;rw [show 2^(k+1)=2*2^k by omega,<- abl];exact ae7 _ _
theorem vO {i j:Nat} (h1:oc (2*i+1) j) (h2:oc (2*i+2) j):False:=by
 obtain ⟨a,ha⟩:=h1;obtain ⟨b,hb⟩:=h2;rcases PP a b with h|h|h
 · have:=Je (adV h) ha
   have:=Rx (x:=2*i+1+1) (e:=b-a) (by omega);omega
 · subst h;omega
 have:=Je (adV h) hb
 have:=Rx (x:=2*i+2+1) (e:=a-b) (by omega);omega
theorem aaR {i k j1 j2:Nat} (h1:oc (2*i+1) j1) (h2:oc (2*i+2) j2) (g:(oc (2*k+1) j1/\oc (2*k+2) j2)\/(oc (2*k+1) j2/\oc (2*k+2) j1)):i=k:=by
 have main: ∀{i k j1 j2:Nat},oc (2*i+1) j1\/oc (2*i+2) j1->oc i j2->(oc (2*k+1) j1/\oc (2*k+2) j2)\/(oc (2*k+1) j2/\oc (2*k+2) j1)-> ∀a a':Nat,(j1+1) / 2^a=i+1->(j1+1) / 2^a'=k+1->a<a'->False:=by
  intro i k j1 j2 _ u2 g a a' ha LN iz;have e:=Je (adV iz) ha;obtain ⟨c,hc⟩: ∃c,a'-a=c+1:=⟨a'-a-1,by omega⟩;rw [hc,aeL,<- abl] at e;have q: ∃m,(i+1) / 2^c=m+1/\(m=2*k+1\/m=2*k+2):=⟨(i+1) / 2^c-1,by omega,by omega⟩;obtain ⟨m,hm,hmk⟩:=q;have um: ∀j,oc i j->oc m j:=fun j ⟨d,hd⟩=>⟨d+c,by rw [Je (Nat.le_add_right d c) hd,show d+c-d=c by omega,hm]⟩
  have u1:oc i j1:=⟨a,ha⟩;have v1:=um _ u1;have v2:=um _ u2;rcases hmk with rfl|rfl
  · rcases g with g|g
    · exact vO v2 g.2
    exact vO v1 g.2
  rcases g with g|g
  · exact vO g.1 v1
  exact vO g.1 v2
 have i1:=rN (.inl rfl) h1;have i2:=rN (.inr rfl) h2;have k1:oc k j1:=by rcases g with g|g;exact rN (.inl rfl) g.1;exact rN (.inr rfl) g.2
 have k2:oc k j2:=by rcases g with g|g;exact rN (.inr rfl) g.2;exact rN (.inl rfl) g.1
 obtain ⟨a,ha⟩:=i1;obtain ⟨a',LN⟩:=k1;rcases PP a a' with h|h|h
 · exact (main (.inl h1) i2 g a a' ha LN h).elim
 · subst h;omega
 grind
def E6 (p w:List Int):Prop:= ∀i,i<aeP w->w[i]! =bM p w (2*i+1)\/w[i]! =bM p w (2*i+2)
theorem Bv {p w:List Int} (hl:(aeP w)+1=aeP p) (hc:E6 p w): ∀(d i:Nat),aeP w+aeP p-i<=d->i<aeP w+aeP p-> ∃j,aeP w<=j/\j<aeP w+aeP p/\oc i j/\p[j-(aeP w)]! =bM p w i:=by
 intro d
 induction d with
 |zero=>omega
 |succ d ih=>
  intro i h1 h2
  by_cases hi:i<aeP w
  · rcases hc i hi with e|e
    · obtain ⟨j,j1,j2,j3,j4⟩:=ih (2*i+1) (by omega) (by omega)
      refine ⟨j,j1,j2,rN (.inl rfl) j3,?_⟩;rw [j4,<- e];unfold bM;rw [AC hi]
    obtain ⟨j,j1,j2,j3,j4⟩:=ih (2*i+2) (by omega) (by omega)
    refine ⟨j,j1,j2,rN (.inr rfl) j3,?_⟩;rw [j4,<- e];unfold bM;rw [AC hi]
  refine ⟨i,by omega,h2,.refl i,?_⟩
  unfold bM;rw [Do hi]
def DV (p:List Int):Prop:= ∀i j,i<j->j<aeP p->p[i]! =p[j]!->p[i]!<0
theorem DV.inj {p:List Int} (h:DV p) {i j:Nat} (hi:i<aeP p) (hj:j<aeP p) (e:p[i]! =p[j]!) (h0:0<=p[i]!):i=j:=by
 rcases PP i j with k|k|k
 · have:=h i j k hj e;omega
 · exact k
 have:=h j i k hi e.symm;omega
section
variable {p w : List Int} (hl : (aeP w) + 1 = (aeP p)) (hc : E6 p w) (ho : DV p)
include hl hc
theorem kU {i:Nat} (hi:i<aeP w+aeP p):bM p w i∈p:=by
 obtain ⟨j,j1,j2,_,e⟩:=Bv hl hc _ i (NE _) hi
 grind
include ho
theorem Gx {i:Nat} (hi:i<aeP w) (h0:0<=bM p w (2*i+1)):bM p w (2*i+1)≠bM p w (2*i+2):=by
 intro e;obtain ⟨j,j1,j2,j3,j4⟩:=Bv hl hc _ (2*i+1) (NE _) (by omega);obtain ⟨k,k1,k2,k3,k4⟩:=Bv hl hc _ (2*i+2) (NE _) (by omega);have:=ho.inj (i:=j-(aeP w)) (j:=k-(aeP w)) (by omega) (by omega) (by rw [j4,k4,e]) (by rw [j4];exact h0)
 grind [vO]
theorem aaS {i k:Nat} (hi:i<aeP w) (hk:k<aeP w) (h1:0<=bM p w (2*i+1)) (h2:0<=bM p w (2*i+2))
 (g:(bM p w (2*k+1)=bM p w (2*i+1)/\bM p w (2*k+2)=bM p w (2*i+2))\/(bM p w (2*k+1)=bM p w (2*i+2)/\bM p w (2*k+2)=bM p w (2*i+1))):i=k:=by
 obtain ⟨j1,a1,a2,a3,a4⟩:=Bv hl hc _ (2*i+1) (NE _) (by omega);obtain ⟨j2,b1,b2,b3,b4⟩:=Bv hl hc _ (2*i+2) (NE _) (by omega);obtain ⟨l1,c1,c2,c3,c4⟩:=Bv hl hc _ (2*k+1) (NE _) (by omega);obtain ⟨l2,d1,d2,d3,d4⟩:=Bv hl hc _ (2*k+2) (NE _) (by omega);have same: ∀{x y:Nat},aeP w<=x->x<aeP w+aeP p->aeP w<=y->y<aeP w+aeP p->p[x-(aeP w)]! =p[y-(aeP w)]!->0<=p[x-(aeP w)]!->x=y:=fun {x y} hx hx' hy hy' e h0=>by have:=ho.inj (by omega) (by omega) e h0;omega
 grind [aaR]
end
noncomputable def Aj (f:List Pt) (t:Int×Int) (x y:Int):Int:=if x<0 then y else if y<0 then x else if leads (bm f x) (bm f y) t then x else y
theorem Vh (f:List Pt) (t:Int×Int) (x y:Int):Aj f t x y=x\/Aj f t x y=y:=by unfold Aj;omega
def Lc (f:List Pt) (t:Int×Int) (p w:List Int):Prop:=aeP w+1=aeP p/\ ∀i,i<aeP w->w[i]! =Aj f t (bM p w (2*i+1)) (bM p w (2*i+2))
theorem Lc.uB {f:List Pt} {t:Int×Int} {p w:List Int} (h:Lc f t p w):E6 p w:=fun i hi=>by rw [h.2 i hi];exact Vh ..
noncomputable def Nl (f:List Pt) (t:Int×Int) (p:List Int):Nat->List Int->List Int
 |0,w=>w
 |i+1,w=>Nl f t p i (w.set i (Aj f t (bM p w (2*i+1)) (bM p w (2*i+2))))
noncomputable def cN (f:List Pt) (t:Int×Int) (p:List Int):List Int:=Nl f t p (aeP p-1) (EQ (aeP p-1) 0)
theorem Nn {p w:List Int} {i k:Nat} {v:Int} (h:i≠k):bM p (w.set i v) k=bM p w k:=by
 unfold bM
 grind
theorem No {f:List Pt} {t:Int×Int} {p:List Int}: ∀(n:Nat) (w:List Int),n<=aeP w->(∀i,n<=i->i<aeP w->w[i]! =Aj f t (bM p w (2*i+1)) (bM p w (2*i+2)))->
 (Nl f t p n w).length=aeP w/\ ∀i,i<aeP w->(Nl f t p n w)[i]! =Aj f t (bM p (Nl f t p n w) (2*i+1)) (bM p (Nl f t p n w) (2*i+2))
 |0,w,_,h=>⟨rfl,fun i hi=>h i (ab4 _) hi⟩
 |n+1,w,hn,h=>by
  have ih:=No n (w.set n (Aj f t (bM p w (2*n+1)) (bM p w (2*n+2)))) (by grind) (fun i h1 h2=>by
   rw [ab1] at h2;rw [Nn (by omega),Nn (by omega),cf];split
   · rename_i e;rw [e.1]
   grind)
  rw [ab1] at ih;exact ih
theorem fu {f:List Pt} {t:Int×Int} {p:List Int} (hp:1<=aeP p):Lc f t p (cN f t p):=by have:=No (f:=f) (t:=t) (p:=p) (aeP p-1) (EQ (aeP p-1) 0) (by simp) (fun i h1 h2=>by grind);rw [aaE] at this;have hl:(cN f t p).length=aeP p-1:=this.1;exact ⟨by omega,fun i hi=>this.2 i (by omega)⟩
theorem Np {f:List Pt} {t:Int×Int} {p w v:List Int} (h:Lc f t p w) (g:Lc f t p v):w=v:=by
 have hl:(aeP w)=(aeP v):=by have:=h.1;have:=g.1;omega
 have key: ∀(d i:Nat),aeP w-i<=d->i<aeP w->w[i]! =v[i]!:=by
  intro d
  induction d with
  |zero=>omega
  |succ d ih=>
   intro i _ hi;have nd: ∀k,i<k->bM p w k=bM p v k:=fun k hk=>by
    unfold bM
    grind
   rw [h.2 i hi,g.2 i (by omega),nd _ (by omega),nd _ (by omega)]
 exact mW hl fun i hi=>key _ i (NE _) hi
noncomputable def BL (p w:List Int) (i:Nat):Option (Int×Int):=
 if bM p w (2*i+1)<0\/bM p w (2*i+2)<0 then none
 else if w[i]! =bM p w (2*i+1) then aeR (bM p w (2*i+2),bM p w (2*i+1)) else aeR (bM p w (2*i+1),bM p w (2*i+2))
noncomputable def jC (p w:List Int):List (Int×Int):=(List.range (aeP w)).filterMap (BL p w)
theorem Ld (p w:List Int):(jC p w).length<=(aeP w):=by
 have:=List.length_filterMap_le (BL p w) (List.range (aeP w))
 rwa [List.length_range] at this
theorem E7 {p w:List Int} {e:Int×Int}:e∈jC p w↔ ∃i,i<aeP w/\BL p w i=aeR e:=by unfold jC;simp
theorem E8 {p w:List Int} {i:Nat} {e:Int×Int} (h:BL p w i=aeR e):0<=bM p w (2*i+1)/\0<=bM p w (2*i+2)/\
 ((e=(bM p w (2*i+2),bM p w (2*i+1))/\w[i]! =bM p w (2*i+1))\/(e=(bM p w (2*i+1),bM p w (2*i+2))/\w[i]!≠bM p w (2*i+1))):=by
 unfold BL at h
 grind
theorem BM {α β:Type} {g:α->Option β}: ∀{l:List α},l.Nodup->(∀x∈l,∀y∈l,∀b,g x=aeR b->g y=aeR b->x=y)->(l.filterMap g).Nodup
 | [],_,_=> .nil
 |a::r,h,hi=>by
  obtain ⟨h1,h2⟩:=abc.1 h;have ih:=BM h2 (fun x hx y hy b e1 e2=>hi x (IR _ hx) y (IR _ hy) b e1 e2)
  grind
theorem O6 {p w:List Int} (hl:(aeP w)+1=aeP p) (hc:E6 p w) (ho:DV p):(jC p w).Nodup:=by
 refine BM List.nodup_range fun i hi k hk b e1 e2=>?_
 grind [E8,aaS]
theorem Xn {f:List Pt} (bc:aT f) {p w:List Int} (hl:(aeP w)+1=aeP p) (hn:(aeP p)<=64) (hc:E6 p w) (ho:DV p) (hk: ∀x∈p,0<=x->dO f x):ve f (jC p w):=by
 have hp: ∀e∈jC p w,j7 f e/\e.1≠e.2:=fun e he=>by
  obtain ⟨i,hi,h⟩:=E7.1 he;obtain ⟨a1,a2,a3⟩:=E8 h;have m1:=kU hl hc (i:=2*i+1) (by omega);have m2:=kU hl hc (i:=2*i+2) (by omega);have ne:=Gx hl hc ho hi a1;rcases a3 with ⟨rfl,_⟩|⟨rfl,_⟩
  · exact ⟨⟨hk _ m2 a2,hk _ m1 a1⟩,fun h=>ne h.symm⟩
  exact ⟨⟨hk _ m1 a1,hk _ m2 a2⟩,ne⟩
 refine ⟨by have:=Ld p w;omega,fun e he=>?_,fun e he=>(hp e he).1⟩;obtain ⟨⟨h1,h2⟩,ne⟩:=hp e he;obtain ⟨⟨p1,p2⟩,q1,q2⟩:=ad8 (bT bc h1) (bT bc h2);unfold eZ at p1 q1;unfold jq;omega
def IQ (f:List Pt) (x:Int):Prop:=x= -1\/(0<=x/\dO f x)
theorem IQ.has {f:List Pt} {x:Int} (h:IQ f x) (h0:0<=x):dO f x:=by rcases h with h|h;omega;exact h.2
theorem HA {p w:List Int} {i:Nat} (hi:i<aeP w+aeP p) (hb:(aeP w)+aeP p<=1000):nF ⟨p,w⟩ (i:Int)=aeR (bM p w i):=by
 unfold nF bM;simp only [aF]
 by_cases h:i<aeP w
 · simp_all [ar,]
 rw [az (by omega),ww,eD ⟨by omega,by omega⟩,show (i:Int) - ((aeP w):Int)=((i-(aeP w):Nat):Int) by omega,ar p _ (by omega),ai,Do h]
theorem v7 {p w:List Int} {i:Nat} (hi:i<aeP w+aeP p) (hb:(aeP w)+aeP p<=1000):jN ⟨p,w⟩ (i:Int)=aeR (bM p w i):=by
 unfold jN bM;have e:aa .i64 _=(i:Int) - ((aeP w):Int):=eD ⟨by omega,by omega⟩;simp only [aF,e]
 by_cases h:i<aeP w
 · simp_all [az,ar,]
 rw [ay (by omega),v6,show (i:Int) - ((aeP w):Int)=((i-(aeP w):Nat):Int) by omega,ar p _ (by omega),ai,Do h]
theorem uC {i:Nat} (h:i<1000) (k:Nat) (hk:k<=2):aa .i64 ((aa .i64 (2*(i:Int)))+(k:Int))=((2*i+k:Nat):Int):=by
 grind [eD]
theorem O7 {f:List Pt} (bc:aT f) {t:Int×Int} (eR:jb t) {x y:Int} (hx:IQ f x) (hy:IQ f y):Dw ⟨f⟩ t x y=aeR (Aj f t x y):=by
 unfold Dw Aj
 by_cases h1:x<0
 · rw [ay h1,v6,AC h1]
 rw [az h1,ww,Do h1]
 by_cases h2:y<0
 · rw [ay h2,v6,AC h2]
 have p1:=hx.has (by omega);have p2:=hy.has (by omega);obtain ⟨j,j1,j2,j3⟩:=zn bc p1;obtain ⟨k,k1,k2,k3⟩:=zn bc p2;simp [j2,k2,ar f j j1,ar f k k1,j3,k3,CR (bT bc p1).1 (bT bc p2).1 eR]
 grind
theorem Lf:dt=aZ:=rfl
theorem uD {f:List Pt} (bc:aT f) {x:Int} (h:dO f x): ∃k,k<aeP f/\lH ⟨f⟩ x=aeR ((k:Int),aeS)/\f[k]! =bm f x:=by
 have h1:=bc.1;have bs:=s8 f x (by omega) (fun i j=>eO bc.2.2);obtain ⟨k,hk,he⟩:=h;refine ⟨k,hk,?_,(mA bc.2.2 hk he).symm⟩;unfold lH
 rw [Lf,bs.1 k hk he];rfl
theorem HB {f:List Pt} (bc:aT f) {x:Int} (h: ¬dO f x): ∃m:Nat,lH ⟨f⟩ x=aeR ((m:Int),aeT):=by have h1:=bc.1;have bs:=s8 f x (by omega) (fun i j=>eO bc.2.2);obtain ⟨m,_,_,_,e⟩:=bs.2 (fun k hk he=>h ⟨k,hk,he⟩);refine ⟨m,?_⟩;unfold lH;rw [Lf,e];rfl
theorem Lg {f:List Pt} (bc:aT f) {t:Int×Int} (r:bu t) (eR:jb t) {x y:Int} (hx:IQ f x) (hy:IQ f y) (fy:0<=x->x≠y):vG ⟨f⟩ t x y=aeR (Aj f t x y):=by
 unfold vG Aj
 by_cases h1:x<0
 · rw [ay (by split<;>omega),v6,AC h1]
   have:x= -1:=by rcases hx with h|h;exact h;omega
   have: -1<=y:=by rcases hy with h|h<;>omega
   congr 1
   split<;>omega
 rw [Do h1]
 by_cases h2:y<0
 · rw [ay (by split<;>omega),v6,AC h2]
   congr 1
   split<;>omega
 rw [az (by split<;>omega),ww,Do h2];have p1:=hx.has (by omega);have p2:=hy.has (by omega);obtain ⟨j,j1,j2,j3⟩:=uD bc p1;obtain ⟨k,k1,k2,k3⟩:=uD bc p2;obtain ⟨a1,a2⟩:=bT bc p1;obtain ⟨b1,b2⟩:=bT bc p2;simp [j2,k2,ar f j j1,ar f k k1,j3,k3];rcases nY a1 b1 eR r with h|⟨h,_⟩
 · rw [h,ai]
   by_cases h:leads (bm f x) (bm f y) t
   · rw [AC h];dsimp only;rw [ay h,v6]
   rw [Do h];dsimp only;rw [az h,ww]
 omega
def Ak (B:List Int) (i:Nat):List Int:=EQ i 0++B.drop i
theorem DO {B:List Int} {i:Nat} (h:i<=aeP B):(Ak B i).length=(aeP B):=by unfold Ak;grind
theorem HC {B:List Int} {i k:Nat} (h:i<=k) (hi:i<=aeP B):(Ak B i)[k]! =B[k]!:=by
 unfold Ak
 grind
theorem Lh {p B:List Int} {i k:Nat} (h:i<=k) (hi:i<=aeP B):bM p (Ak B i) k=bM p B k:=by
 unfold bM
 grind [DO,HC]
theorem Xo {B:List Int} {i:Nat} (h:i<aeP B):(Ak B (i+1)).set i B[i]! =Ak B i:=by
 refine mW (by grind [ab1,DO]) fun k hk=>?_
 rw [cf]
 by_cases e:k=i
 · rw [AC ⟨e,by grind [DO]⟩,HC (by omega) (by omega),e]
 rw [Do (fun x=>e x.1)]
 by_cases h2:k<i
 · unfold Ak
   rw [iO (by rw [aaE];omega),iO (by rw [aaE];omega)];rw [getElem!_pos _ k (by rw [aaE];omega),getElem!_pos _ k (by rw [aaE];omega),abC,abC]
 grind [HC]
section
variable {f : List Pt} (bc : aT f) {t : Int × Int} (r : bu t) (eR : jb t) {p : List Int} (h1 : 1 <= (aeP p)) (h64 : (aeP p) <= 64) (hk : ∀ x ∈ p, IQ f x)
include bc eR h1 h64 hk
theorem Vi {i:Nat} (hi:i<(cN f t p).length+aeP p):IQ f (bM p (cN f t p) i):=by have:=bc;have:=eR;have:=h64;exact hk _ (kU (fu h1).1 (fu h1).uB hi)
include r
theorem O8 (ho:DV p) {i:Nat} (hi:i<(cN f t p).length):
 mM ((i:Int),f,t.1,t.2,p,Ak (cN f t p) (i+1))=aeR (.next ((i:Int) -1,f,t.1,t.2,p,Ak (cN f t p) i)):=by
 have R:=fu (f:=f) (t:=t) h1;have bl:=R.1;have pl:=DO (B:=cN f t p) (i:=i+1) (by omega);unfold mM;simp;have k1:=uC (i:=i) (by omega) 1 (by omega);have k2:=uC (i:=i) (by omega) 2 (by omega);rw [show aa .i64 (aa .i64 (2*(i:Int))+1)=((2*i+1:Nat):Int) from k1,show aa .i64 (aa .i64 (2*(i:Int))+2)=((2*i+2:Nat):Int) from k2];rw [v7 (by omega) (by omega),ai,v7 (by omega) (by omega),ai,Lh (by omega) (by omega),Lh (by omega) (by omega)];rw [Lg bc r eR (Vi bc eR h1 h64 hk (by omega)) (Vi bc eR h1 h64 hk (by omega)) (fun h0=>Gx R.1 R.uB ho hi h0),ai,ar _ i (by omega),ai,<- R.2 i hi];show aeR (Step.next (_,f,t.1,t.2,p,(Ak (cN f t p) (i+1)).set i _))=_
 grind [Xo,eD]
theorem HD:zf ⟨f⟩ p=aeR aeS:=by
 have:=r;have:=eR
 have st:=bg (body:=pH) (fun i=>(p,((aeP p):Int),(i:Int),f)) (aeP p) (fun i hi=>by
  have id:=hk _ (aK hi);unfold pH;simp (disch:=omega) only [ay,v6,ar p i hi,ai,aM]
  by_cases h:dO f p[i]!
  · obtain ⟨k,_,e,_⟩:=uD bc h
    rw [e,ai,v6]
  obtain ⟨m,e⟩:=HB bc h
  rw [e,ai,ww];rcases id with id|id
  · rw [lL id];rfl
  exact absurd id.2 h)
 refine (st).trans (au ?_);unfold pH;simp
def Li (p:List Int):Nat->List (Int×Bool)
 |0=>mf [] (-1) aeT
 |i+1=>mf (Li p i) p[i]! (aeU (0<=p[i]!))
omit bc r eR h1 h64 hk in
theorem Lj (p:List Int): ∀(i:Nat) (k:Int),jR aeT (Li p i) k=aeU (0<=k/\ ∃j,j<i/\p[j]! =k)
 |0,k=>by unfold Li;rw [Gq];rw [decide_eq_false (fun h=>by obtain ⟨_,j,hj,_⟩:=h;omega)];split<;>rfl
 |i+1,k=>by
  unfold Li;rw [Gq,Lj p i k]
  by_cases e:k=p[i]!
  · rw [AC e]
    refine decide_eq_decide.2 ⟨fun h=>⟨by omega,i,by omega,e.symm⟩,fun h=>by omega⟩
  rw [Do e]
  refine decide_eq_decide.2 ⟨fun ⟨h,j,hj,hx⟩=>⟨h,j,by omega,hx⟩,fun ⟨h,j,hj,hx⟩=>⟨h,j,?_,hx⟩⟩;rcases adh j i with h2|h2
  · exact h2
  obtain rfl:j=i:=by omega
  exact absurd hx.symm e
omit bc r eR h1 h64 hk in
theorem Xp {p:List Int} (ho:DV p) {i:Nat} (hi:i<aeP p):jR aeT (Li p i) p[i]! =aeT:=by
 rw [Lj];refine decide_eq_false fun ⟨h0,j,hj,e⟩=>?_
 have:=ho j i hj hi e;omega
theorem Al (ho:DV p):qh ⟨f⟩ t p=aeR (⟨p,cN f t p⟩,0):=by
 have R:=fu (f:=f) (t:=t) h1;have bl:=R.1;have w1:=u7 (by omega) h1;have loop: ∀n:Nat,n<=(cN f t p).length->aq mM ((n:Int) -1,f,t.1,t.2,p,Ak (cN f t p) n)=aeR (.done (⟨p,cN f t p⟩,0)):=by
  intro n
  induction n with
  |zero=>intro _;refine au ?_;rfl
  |succ n ih=>intro hn;have st:=O8 bc r eR h1 h64 hk ho (i:=n) (by omega);rw [show ((n+1:Nat):Int) -1=(n:Int) by omega,aJ st];exact ih (by omega)
 have fc:cY ⟨f⟩=aeR 0:=by rw [fq];exact congrArg aeR (gF.2 bc)
 unfold qh ze;simp (disch:=omega) only [fc,bQ eR,AC r,aF,az,HD bc r eR h1 h64 hk,];have st:=bg (body:=pI 0 p) (fun i=>(p,((aeP p):Int),(i:Int),f,t.1,t.2,Li p i)) (aeP p) (fun i hi=>by unfold pI;simp (disch:=omega) only [ay,ar p i hi,ai,Xp ho hi,aM];rfl);refine (st).trans (au ?_);unfold pI;simp (disch:=omega) only [cj,aF,w1,QZ,];have:=loop _ (NE _);unfold Ak at this
 grind [List.drop_length,eD]
end
end Go.Proofs.YthljiplggdanpaaGreat
