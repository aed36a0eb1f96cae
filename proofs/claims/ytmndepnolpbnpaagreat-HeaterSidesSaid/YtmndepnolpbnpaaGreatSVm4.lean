/- The logical machine, part 4: SvRun, SvCon, SvLaw, SvSort, SvMk, SvMk2. -/
import Derived.Test.YtmndepnolpbnpaaGreatSVm3
import Derived.Test.YtmndepnolpbnpaaGreatSVm2
import Derived.RangeFuncNested
import Derived.RangeFuncLeaves
import Derived.OwnWalkIn
open List renaming getElem?_take_of_lt->pm,length_map->pp,length_eq_zero_iff->ut,getElem?_eq_some_iff->ww,append_assoc->AC,getElem?_eq_getElem->Do,length_take->NE,mem_singleton->aa7,mem_append_right->ab0,all_eq_true->ab1,mem_append_left->ab2,mem_of_getElem?->ab3,map_append->ab5,length_append->ab8,length_drop->ab9,isEmpty_iff->abb,append_nil->abk,mem_cons_self->abx,range->abD,getElem?_set->abH,mem_flatMap->abK,mem_append->abM,any_cons->abO,map_take->abP,map_drop->abQ,all_map->abR,mem_map->abS,length->abU
open Bool renaming and_eq_true->rc,not_eq_true'->If,or_eq_true->UV,false_eq_true->aag,and_true->abm,true_or->abI,true->abX,false->abY
open Nat renaming le_refl->v4,le_trans->wn,beq->EQ,beq_refl->M2,ble->aaj,mul_le_mul_right->ab4,le_of_eq->ab6,beq_eq->ab7,eq_zero_or_pos->abE,zero_add->abT
open Option.some renaming inj->v6,injEq->abF
open Array renaming getElem?_eq_some_iff->IR
open Prod.mk renaming injEq->PP
open Int renaming eq_ofNat_of_zero_le->aah
open Option renaming map_eq_some_iff->aau,some->abV,none->abW
open Go.World renaming cells?_some->abG,cell?->abL
open Go.Sem renaming run->abN
/- What the typed machine makes of a function is what the logical machine runs. -/
namespace Go.Vm
section
variable {F : jl}
theorem WO.T1 {o:bk} {r:List bk} {st:St} {tr:List Tr} {Q:St->List Tr->Prop} {f:FuncId} {args:List PV}
 (hw:wanted o.guard st.env=abV abX) (dG: ∀n,sf F (run F n) st.env st.aj st.fz o.op=eh (run F n) f args st.aj st.fz)
 (h:vM F f args st.aj st.fz fun v s z=>(aaj (abU st.aj) (abU s)&&st.fz.all (has z))=abX/\WO F r {st with env:=fR o.dst v st.env,aj:=s,fz:=z} (My::tr) Q):
 WO F (o::r) st tr Q:=by
 obtain ⟨n,v,s,z,hr,hc,hk⟩:=h;refine WO.call (.shr v s z) hw ⟨n,?_⟩ rfl hk;rw [dG];simp only [eh,hr];rw [ol hc]
theorem WP.again {live:List (Nat×Option Nat)} {b:gC} {st s1:St} {Q:fj->St->Prop} (h0:norm live st=abV s1) (h:WP F b s1 (andThen (fun s=>WP F (.loop live b) s Q) Q)):WP F (.loop live b) st Q:=by
 obtain ⟨m,e,s,he,hq⟩:=h;cases e with
 |normal=>
  obtain ⟨k,e',s',yc,Ld⟩:=hq;refine ⟨max m k+1,e',s',?_,Ld⟩;simp only [oR] at yc ⊢;rw [iK];simp only [step,h0];rw [mJ (.refl _ _) (mK F (Nat.le_max_left m k)) _ _ _ he];dsimp only;split at yc
  · rename_i e1 s1 L6
    rw [mK F (Nat.le_max_right m k) _ _ L6];exact yc
  cases yc
 |exit i=>exact ⟨m+1,.exit i,s,by simp only [oR];rw [iK];simp only [step,h0,he],hq⟩
 |ret=>exact ⟨m+1,.ret,s,by simp only [oR];rw [iK];simp only [step,h0,he],hq⟩
def Gc (F : jl) (inl : O3) : Prop :=
  ∀ (f : FuncId) (args : List SV) (s : List SB) (z : List Nat) (R' : Type) (k : SV -> List SB -> List Nat -> eN R') (ρ : Type) (w : R' -> ρ) (y : ρ) (pa : List PV) (ps : bG) (Q : R' -> PV -> bG -> List Nat -> Prop),
    RL s args pa -> bL s ps -> inl f args s z R' k ρ w = abV y ->
    (∀ v s' z' p sN sM (w' : R' -> sM) y', R s' v p -> bL s' sN -> k v s' z' sM w' = abV y' -> ∃ r, y' = w' r /\ Q r p sN z') ->
    ∃ r, y = w r /\ vM F f pa ps z (fun p sN z' => Q r p sN z')
def Jo:SB->SB->Prop
 | .arr r l,b=>(∃l',b= .arr r l'/\abU l'=abU l)\/b= .dead
 | .dead,b=>b= .dead
 | .box _,b=>(∃cs,b= .box cs)\/b= .dead
 |_,_=>True
theorem xG {R' ρ:Type} {w:R'->ρ} {y:ρ}: ∀{s s':List SB} {k:eN R'},mi s s' k ρ w=abV y->k ρ w=abV y/\abU s<=abU s'/\
 ∀(t:Nat) (b:SB),s[t]? =abV b-> ∃b',s'[t]? =abV b'/\Jo b b'
 | [],s',k,h=>⟨by cases s'<;>exact h,Nat.zero_le _,fun t b ht=>by simp at ht⟩
 |x::xs,[],k,h=>by cases h
 |x::xs,y'::ys,k,h=>by
  have step: ∀(_:mi xs ys k ρ w=abV y) (_:Jo x y'),k ρ w=abV y/\(x::xs).length<=(y'::ys).length/\ ∀(t:Nat) (b:SB),(x::xs)[t]? =abV b-> ∃b',(y'::ys)[t]? =abV b'/\Jo b b':=by
   intro h hx;obtain ⟨h1,h2,h3⟩:=xG h;refine ⟨h1,by simpa using h2,fun t b ht=>?_⟩;cases t with
   |zero=>simp at ht;subst ht;exact ⟨y',rfl,hx⟩
   |succ t=>simpa using h3 t b (by simpa using ht)
  cases x with
  |arr r l=>
   cases y' with
   |arr q m=>obtain ⟨hr,h2⟩:=bO (a:=eu (abU m==abU l) (mi xs ys k) aE) h;obtain ⟨hl,h3⟩:=fA h2;have:=qv hr;subst this;exact step h3 (.inl ⟨m,rfl,by simpa using hl⟩)
   |dead=>exact step h (.inr rfl)
   |_=>cases h
  |dead=>
   cases y' with
   |dead=>exact step h rfl
   |_=>cases h
  |box cs=>
   cases y' with
   |box c2=>exact step h (.inl ⟨c2,rfl⟩)
   |dead=>exact step h (.inr rfl)
   |_=>cases h
  |set l=>exact step h trivial
  |bB p l=>exact step h trivial
theorem M3 {n t:Nat} (h:t<n):has (qe n) t=abX:=by
 induction n with
 |zero=>omega
 |succ n ih=>
  unfold has at ih ⊢;rw [List.any_eq_true] at*;simp only [qe,abM,aa7];rcases Nat.lt_or_ge t n with h1|h1
  · obtain ⟨x,h2,h3⟩:=ih h1
    exact ⟨x,.inl h2,h3⟩
  have:t=n:=by omega
  subst this;exact ⟨t,.inr rfl,by simp⟩
theorem HQ {s s':List SB} (h: ∀(t:Nat) (b:SB),s[t]? =abV b-> ∃b',s'[t]? =abV b'/\Jo b b'):Fr (qe (abU s)) s s':=fun t b hb=>by
 obtain ⟨b',h1,h2⟩:=h t b hb;have dA:=(ww.1 hb).1;cases b with
 |arr r l=>
  rcases h2 with ⟨l',rfl,h3⟩|rfl
  · exact .inl ⟨l',h1,h3,fun hx=>by rw [M3 dA] at hx;cases hx⟩
  exact .inr h1
 |dead=>rw [show b'= .dead from h2] at h1;exact h1
 |box cs=>
  rcases h2 with ⟨c2,rfl⟩|rfl
  · exact .inl ⟨c2,h1⟩
  exact .inr h1
 |_=>trivial
theorem aaf {s:List SB} {ps:bG} {sr:ej} {pr:kr} (G:Good s ps sr pr) (hS:bL s ps):(XR.loc pr).tr (abU ps)=sr.tr (abU s):=by
 simp only [XR.tr,ej.tr,G.rd,G.fr,hS.len,<- G.wr,G.nl,abR];have:pr.news.isEmpty=sr.news.isEmpty:=by have:=G.nl;cases h1:pr.news<;>cases h2:sr.news<;>simp_all
 rw [this];rfl
theorem T2 {st:lH} {p:St} (h:uz st p) {sr:ej} {pr:kr} (G:Good st.aj p.aj sr pr) (d:Option Nat):uz (sr.next d st) ((XR.loc pr).next d p):=by
 have Pp: ∀{s:List SB} {e:SE} {pe:Env} {v:SV} {q:PV},cK s e pe->R s v q->cK s (Eb d v e) (fR d q pe):=by
  intro s e pe v q he hv;cases d with
  |none=>exact he
  |some t=>exact ⟨q,pe,rfl,hv,he⟩
 have hs:=Gb st.aj sr;unfold ej.next
 split
 · rename_i hw
   rw [hw] at hs;simp only [tl,np,Ek] at hs;have mN:=G.aj;have hv:=G.v;have oe:=G.YE;rw [hs] at mN hv oe;rw [hw] at oe;exact ⟨by simp only [jt];exact Pp (cK.ext oe h.env) hv,by simp only [jt];exact mN,by simp only [XR.next,G.fr,h.fz],h.kn⟩
 have mN:=G.aj
 have hv:=G.v;have oe:=G.YE;rw [hs] at mN hv oe;exact ⟨by simp only [jt];exact Pp (cK.fr oe h.env) hv,by simp only [jt];exact mN,by simp only [XR.next,G.fr,h.fz],h.kn⟩
theorem ok_eq {s:List SB} {ps:bG} {sr:ej} {pr:kr} (G:Good s ps sr pr) {z:List Nat} (h:sr.ok z=abX):(XR.loc pr).ok z=abX:=by simp only [XR.ok,G.nw,abm];unfold ej.ok at h;rw [<- G.wr,abR] at h;exact h
section
variable {cx : Ctx} {inl : O3} {R' : Type}
def adH (_F:jl) (k:lH->List Tr->eN R') (Q:R'->St->List Tr->Prop):Prop:=
 ∀st p tr ρ (w:R'->ρ) y,uz st p->k st tr ρ w=abV y-> ∃r,y=w r/\Q r p tr
theorem rv {o:bk} {l:List bk} {st:lH} {p:St} {tr:List Tr} {k:lH->List Tr->eN R'} {ρ:Type} {w:R'->ρ} {y:ρ} {Q:R'->St->List Tr->Prop}
 (hl: ∀st p tr ρ (w:R'->ρ) y,uz st p->k st tr ρ w=abV y-> ∃r,y=w r/\WO F l p tr (Q r)) (h:uz st p) {sr:ej} {pr:kr} (hw:wanted o.guard p.env=abV abX)
 (hx: ∃n,sf F (run F n) p.env p.aj p.fz o.op=abV (.loc pr)) (G:Good st.aj p.aj sr pr) (hg:Ja o.dst st tr k (.loc sr) ρ w=abV y): ∃r,y=w r/\WO F (o::l) p tr (Q r):=by
 unfold Ja at hg;dsimp only at hg;obtain ⟨vL,hg⟩:=bO hg;rw [D8] at hg;have hR:=T2 h G o.dst;obtain ⟨r,hr,Pq⟩:=hl _ _ _ _ _ _ hR hg;refine ⟨r,hr,WO.call (.loc pr) hw hx (by rw [h.fz];exact ok_eq G vL) ?_⟩;rw [aaf G h.aj];exact Pq
theorem Gd (zZ:ly F cx) (El:Gc F inl) {o:bk} {l:List bk} {st:lH} {p:St} {tr:List Tr} {k:lH->List Tr->eN R'} {ρ:Type} {w:R'->ρ} {y:ρ} {Q:R'->St->List Tr->Prop}
 (hl: ∀st p tr ρ (w:R'->ρ) y,uz st p->k st tr ρ w=abV y-> ∃r,y=w r/\WO F l p tr (Q r)) (h:uz st p) (hw:wanted o.guard p.env=abV abX)
 (hg:C5 cx inl st.env st.aj st.fz o.op (Ja o.dst st tr k) ρ w=abV y): ∃r,y=w r/\WO F (o::l) p tr (Q r):=by
 have hS:=h.aj;have hE:=h.env;have shr: ∀(f:FuncId) (HP:List SV) (On:List PV),RL st.aj HP On->(∀n,sf F (run F n) p.env p.aj p.fz o.op=eh (run F n) f On p.aj p.fz)->
  inl f HP st.aj st.fz R' (fun v s' z'=>Ja o.dst st tr k (.shr v s' z')) ρ w=abV y-> ∃r,y=w r/\WO F (o::l) p tr (Q r):=by
  intro f HP On hv dG hi;obtain ⟨r,hr,hd⟩:=El f HP st.aj st.fz R' _ ρ w y On p.aj (fun r v s z=>(aaj (abU p.aj) (abU s)&&p.fz.all (has z))=abX/\WO F l {p with env:=fR o.dst v p.env,aj:=s,fz:=z} (My::tr) (Q r)) hv hS hi
   (fun v s' z' pv sN sM w' y' hR hS' hk=>by
    unfold Ja at hk;dsimp only at hk;rw [D8] at hk;obtain ⟨hk,bI,LB⟩:=xG hk;obtain ⟨hz,hk⟩:=bO hk;have oe:=HQ LB;have Pp:cK s' (Eb o.dst v (YB (qe (abU st.aj)) st.env)) (fR o.dst pv p.env):=by
     cases o.dst with
     |none=>exact cK.fr oe hE
     |some t=>exact ⟨pv,p.env,rfl,hR,cK.fr oe hE⟩
    have hR':uz {env:=Eb o.dst v (YB (qe (abU st.aj)) st.env),aj:=s',fz:=z',kn:=st.kn} {p with env:=fR o.dst pv p.env,aj:=sN,fz:=z'}:=⟨Pp,hS',rfl,h.kn⟩;obtain ⟨r,hr,Pq⟩:=hl _ _ _ _ _ _ hR' hk;refine ⟨r,hr,?_,Pq⟩;rw [h.fz,hz,abm,hS.len,hS'.len];simpa using bI)
  refine ⟨r,hr,WO.T1 hw dG ?_⟩;rw [h.fz];rw [h.fz] at hd;exact hd
 have loc: ∀{k':ej->eN R'},js st.env st.aj st.fz o.op k' ρ w=abV y->yI o.op=abY->(∀sr,k' sr=Ja o.dst st tr k (.loc sr))-> ∃r,y=w r/\WO F (o::l) p tr (Q r):=by intro k' hv hc hk;obtain ⟨sr,pr,h1,G,h2⟩:=Pk hE hS (pe:=p.env) hv;rw [hk] at h2;exact rv hl h hw ⟨0,by rw [D5 hc,h.fz,h1];rfl⟩ G h2
 generalize dG:o.op=op at hg;cases op with
 |call m f args=>
  have iD:=uA hE args;simp only [C5] at hg;cases m with
  |Ob=>
   dsimp only at hg;cases hx:oq st.aj (ic st.aj deep) (gP st.env args) with
   |none=>rw [hx] at hg;cases hg
   |some vs=>rw [hx] at hg;obtain ⟨q,h1,h2⟩:=pQ hS (Aj hS deep) iD hx;obtain ⟨sr,pr,⟨n,h3⟩,G,h4⟩:=tz (f:=f) (z:=st.fz) hS h1 h2 (vq hS (Bu hS deep) iD hx) (fun c hc=>zZ.SF f c hc) hg;exact rv hl h hw ⟨n,by rw [dG,h.fz];simp only [sf,h3];rfl⟩ G h4
  |own=>
   dsimp only at hg;cases hx:oq st.aj (ic st.aj deep) (gP st.env args) with
   |none=>rw [hx] at hg;cases hg
   |some vs=>rw [hx] at hg;obtain ⟨q,h1,h2⟩:=pQ hS (Aj hS deep) iD hx;obtain ⟨sr,pr,⟨n,h3⟩,G,h4⟩:=tz (f:=f) (z:=st.fz) hS h1 h2 (vq hS (Bu hS deep) iD hx) (fun c hc=>zZ.SF f c hc) hg;exact rv hl h hw ⟨n,by rw [dG,h.fz];simp only [sf,h3];rfl⟩ G h4
  |shr=>exact shr f _ _ iD (fun n=>by rw [dG];rfl) hg
  |fp=>
   dsimp only at hg;cases hx:Hx st.aj (ic st.aj deep) (gP st.env args) with
   |false=>rw [hx] at hg;cases hg
   |true=>
    rw [hx] at hg;dsimp only at hg;obtain ⟨hz,hg⟩:=bO hg;cases h1:pd (lA (nN (sJ st.aj deep) (gP st.env args))) (gP st.env args) with
    |none=>rw [h1] at hg;cases hg
    |some vs=>
     cases h2:CA st.aj (lA (nN (sJ st.aj deep) (gP st.env args))) (lA (nN (sJ st.aj deep) (gP st.env args))) with
     |none=>rw [h1,h2] at hg;cases hg
     |some s0=>rw [h1,h2] at hg;obtain ⟨sr,pr,⟨n,h3⟩,G,h4⟩:=Jn (f:=f) (z:=st.fz) hS iD (by rw [MU hS (Bu hS deep) iD hx]) hz h1 h2 (fun c hc=>zZ.fpc f c hc) hg;exact rv hl h hw ⟨n,by rw [dG,h.fz];simp only [sf,h3];rfl⟩ G h4
 |rY x args=>
  have iD:=uA hE args;simp only [C5] at hg;have hx:=cE hE x;generalize bm st.env x=v at hg hx;cases v with
  |di f a b=>
   dsimp only at hg;obtain ⟨pa,pb,hx,ha,hb⟩:=hx;have adI: ∀{vs:List SV} {q:List PV},RL st.aj vs q->(wa vs=abX->q.any Aw=abX):=by
    intro vs
    induction vs with
    |nil=>intro q _ h;cases h
    |cons v vs ih=>
     intro q hq hp;obtain ⟨a,as,rfl,h1,h2⟩:=hq.cons_inv;simp only [wa,UV] at hp;simp only [abO,UV];rcases hp with hp|hp
     · left
       cases v with
       |own _ _=>obtain ⟨_,_,rfl,_⟩:=h1;rfl
       |pre _ _ _ _=>obtain ⟨_,rfl,_⟩:=h1;rfl
       |part _ _ _ _ _=>obtain ⟨_,rfl,_⟩:=h1;rfl
       |pa _ _ _ _ _=>obtain ⟨rfl,_⟩:=h1;rfl
       |pb _ _ _=>obtain ⟨_,rfl,_⟩:=h1;rfl
       |bp _ _ _=>rw [show a=_ from h1];rfl
       |mp _=>rw [show a=_ from h1];rfl
       |_=>cases hp
     right;exact ih h2 hp
   cases hp:wa (gP st.env args++b) with
   |true=>rw [hp] at hg;have:=adI (iD.append hb) hp;exact shr f _ _ ((ha.append iD).append hb) (fun n=>by rw [dG];simp only [sf,hx,this,if_true]) hg
   |false=>
    rw [hp] at hg;simp only [lw] at hg;cases YF:oq st.aj (ic st.aj deep) (a++gP st.env args++b) with
    |none=>rw [YF] at hg;cases hg
    |some vs=>
     rw [YF] at hg;have Zf: ∀{vs u:List SV} {q:List PV},RL st.aj vs q->wa vs=abY->oq st.aj (ic st.aj deep) vs=abV u->q.any Aw=abY:=by
      intro vs
      induction vs with
      |nil=>intro u q hq _ _;rw [show q=[] from hq];rfl
      |cons v vs ih=>
       intro u q hq hp hu;obtain ⟨a,as,rfl,h1,h2⟩:=hq.cons_inv;simp only [wa,Bool.or_eq_false_iff] at hp;simp only [oq] at hu;split at hu
       · rename_i y1 y2 e1 e2
         simp only [abO,ih h2 hp.2 e2,Bool.or_false];cases v with
         |agg _|bH _|aW _ _=>obtain ⟨_,rfl,_⟩:=h1;rfl
         |di _ _ _=>obtain ⟨_,_,rfl,_⟩:=h1;rfl
         |int _ _|bool _|str _|cL|sl _ _|nil _ _|undef|gJ=>rw [show a=_ from h1];rfl
         |fi=>cases e1
         |own _ _|pre _ _ _ _|part _ _ _ _ _|pa _ _ _ _ _|pb _ _ _|bp _ _ _|mp _=>cases hp.1
       cases hu
     have T3: ∃u2,oq st.aj (ic st.aj deep) (gP st.env args++b)=abV u2:=by
      have: ∀(l:List SV) {m u:List SV},oq st.aj (ic st.aj deep) (l++m)=abV u-> ∃u2,oq st.aj (ic st.aj deep) m=abV u2:=by
       intro l
       induction l with
       |nil=>intro m u h;exact ⟨u,h⟩
       |cons x l ih=>
        intro m u h;simp only [List.cons_append,oq] at h;split at h
        · rename_i e1 e2;exact ih e2
        cases h
      rw [AC] at YF;exact this a YF
     obtain ⟨u2,Y'⟩:=T3;have adJ:=Zf (iD.append hb) hp Y';have kC:=(ha.append iD).append hb;obtain ⟨q,h1,h2⟩:=pQ hS (Aj hS deep) kC YF;obtain ⟨sr,pr,⟨n,h3⟩,G,h4⟩:=tz (f:=f) (z:=st.fz) hS h1 h2 (vq hS (Bu hS deep) kC YF) (fun c hc=>zZ.SF f c hc) hg;exact rv hl h hw ⟨n,by rw [dG,h.fz];simp only [sf,hx,adJ,aag,if_false,h3];rfl⟩ G h4
  |_=>cases hg
 |_=>exact loc (k':=fun r=>Ja o.dst st tr k (.loc r)) (by rw [dG];exact hg) (by rw [dG];rfl) (fun _=>rfl)
theorem ry (zZ:ly F cx) (El:Gc F inl): ∀(ops:List bk) {st:lH} {p:St} {tr:List Tr} {k:lH->List Tr->eN R'} {ρ:Type} {w:R'->ρ} {y:ρ} {Q:R'->St->List Tr->Prop},
 adH F k Q->uz st p->lI cx inl ops st tr k ρ w=abV y-> ∃r,y=w r/\WO F ops p tr (Q r)
 | [],st,p,tr,k,ρ,w,y,Q,hk,h,he=>by obtain ⟨r,hr,hq⟩:=hk st p tr ρ w y h he;exact ⟨r,hr,WO.nil hq⟩
 |o::l,st,p,tr,k,ρ,w,y,Q,hk,h,he=>by
  have hl: ∀st p tr ρ (w:R'->ρ) y,uz st p->lI cx inl l st tr k ρ w=abV y-> ∃r,y=w r/\WO F l p tr (Q r):=fun st p tr ρ w y h he=>ry zZ El l hk h he
  have KG: ∀{st:lH} {c:Nat} {v:SV},uz st p->R st.aj v (lk c p.env)->uz {st with env:=vZ c v st.env} p:=fun h hv=>⟨h.env.vZ hv,h.aj,h.fz,h.kn⟩
  have T4: ∀{st:lH},uz st p->wanted o.guard p.env=abV abX->(match o.op with
   | .pick (.t c) a b=>match zA c st.env with
    | .bool x=>eu x (Ja o.dst {st with env:=vZ c (.bool abX) st.env} tr (lI cx inl l · · k) (.loc {v:=bm st.env a}))
     (Ja o.dst {st with env:=vZ c (.bool abY) st.env} tr (lI cx inl l · · k) (.loc {v:=bm st.env b}))
    |_=>aE
   |op=>C5 cx inl st.env st.aj st.fz op (Ja o.dst st tr (lI cx inl l · · k))) ρ w=abV y-> ∃r,y=w r/\WO F (o::l) p tr (Q r):=by
   intro st h hw he;have plain:C5 cx inl st.env st.aj st.fz o.op (Ja o.dst st tr (lI cx inl l · · k)) ρ w=abV y-> ∃r,y=w r/\WO F (o::l) p tr (Q r):=fun he=>Gd zZ El hl h hw he
   generalize dG:o.op=op at he;cases op with
   |pick c a b=>
    cases c with
    |c v=>exact plain (by rw [dG];exact he)
    |t c=>
     dsimp only at he;generalize hv:zA c st.env=v at he;cases v with
     |bool x=>
      have hx:lk c p.env= .bool x:=by have:=h.env.lk c;rw [hv] at this;exact this
      rcases dz he with ⟨rfl,he⟩|⟨rfl,he⟩
      · have hR:=KG h (c:=c) (v:= .bool abX) hx
        exact rv (o:=o) hl hR hw ⟨0,by rw [dG];simp only [sf,aU,dI.ev,hx];rfl⟩ (Good.val hR.aj (cE h.env a)) he
      have hR:=KG h (c:=c) (v:= .bool abY) hx
      exact rv (o:=o) hl hR hw ⟨0,by rw [dG];simp only [sf,aU,dI.ev,hx];rfl⟩ (Good.val hR.aj (cE h.env b)) he
     |_=>cases he
   |_=>exact plain (by rw [dG];exact he)
  have M4: ∀{st:lH},uz st p->wanted o.guard p.env=abV abY->lI cx inl l {st with env:=Eb o.dst .gJ st.env} (Tr.idle::tr) k ρ w=abV y-> ∃r,y=w r/\WO F (o::l) p tr (Q r):=by
   intro st h hw he;have hR:uz {st with env:=Eb o.dst .gJ st.env} {p with env:=fR o.dst .gJ p.env}:=by
    refine ⟨?_,h.aj,h.fz,h.kn⟩;cases o.dst with
    |none=>exact h.env
    |some t=>exact ⟨.gJ,p.env,rfl,rfl,h.env⟩
   obtain ⟨r,hr,Pq⟩:=hl _ _ _ _ _ _ hR he;exact ⟨r,hr,WO.skip hw Pq⟩
  simp only [lI] at he;cases hgd:o.guard with
  |none=>rw [hgd] at he;exact T4 h (by rw [hgd];rfl) he
  |some g=>
   obtain ⟨c,want⟩:=g;rw [hgd] at he;dsimp only at he;generalize hv:zA c st.env=v at he;cases v with
   |bool x=>
    have hx:lk c p.env= .bool x:=by have:=h.env.lk c;rw [hv] at this;exact this
    have hwx: ∀b,x=b->wanted o.guard p.env=abV (b==want):=fun b hb=>by rw [hgd];simp only [wanted,hx,hb]
    cases want with
    |true=>
     simp only [ls] at he;rcases dz he with ⟨rfl,he⟩|⟨rfl,he⟩
     · exact T4 (KG h (v:= .bool abX) hx) (hwx abX rfl) he
     exact M4 (KG h (v:= .bool abY) hx) (hwx abY rfl) he
    |false=>
     simp only [lw] at he;rcases dz he with ⟨rfl,he⟩|⟨rfl,he⟩
     · exact M4 (KG h (v:= .bool abX) hx) (hwx abX rfl) he
     exact T4 (KG h (v:= .bool abY) hx) (hwx abY rfl) he
   |gJ=>
    have hx:lk c p.env= .gJ:=by have:=h.env.lk c;rw [hv] at this;exact this
    exact M4 h (by rw [hgd];simp only [wanted,hx]) he
   |_=>cases he
theorem BD {e:SE}: ∀{eg:List Nat} {k:SE->eN R'} {ρ:Type} {w:R'->ρ} {y:ρ},FZ e eg k ρ w=abV y->k (eg.map fun s=>(s,zA s e)) ρ w=abV y
 | [],k,ρ,w,y,h=>h
 |s::r,k,ρ,w,y,h=>by simp only [FZ] at h;rw [D8] at h;have:=BD h;exact this
theorem M5 {s:List SB} {e:SE} {pe:Env} (h:cK s e pe): ∀(eg:List Nat),cK s (eg.map fun t=>(t,zA t e)) (eg.map fun t=>(t,lk t pe))
 | []=>rfl
 |t::r=>⟨_,_,rfl,h.lk t,M5 h r⟩
end
mutual
theorem Di: ∀(v:SV) (q:List sL),oU v (yL v++q)=(v,q)
 | .fi,q| .undef,q| .gJ,q| .cL,q| .int _ _,q| .bool _,q| .str _,q| .sl _ _,q| .nil _ _,q| .own _ _,q| .pre _ _ _ _,q| .part _ _ _ _ _,q| .pa _ _ _ _ _,q| .pb _ _ _,q| .bp _ _ _,q| .mp _,q=>rfl
 | .agg cs,q=>by simp only [oU,yL,nZ]
 | .bH cs,q=>by simp only [oU,yL,nZ]
 | .aW cs o,q=>by simp only [oU,yL,nZ]
 | .di f a b,q=>by simp only [oU,yL,AC,nZ]
theorem nZ: ∀(v:List SV) (q:List sL),nP v (yM v++q)=(v,q)
 | [],q=>rfl
 |x::xs,q=>by simp only [nP,yM,AC,Di,nZ]
end
theorem Dj: ∀(v:List SB) (q:List sL),v9 v (Ea v++q)=(v,q)
 | [],q=>rfl
 |x::xs,q=>by
  have: ∀q,HC x (Mt x++q)=(x,q):=by intro q;cases x<;>first|rfl|simp only [HC,Mt,nZ]
  simp only [v9,Ea,AC,this,Dj]
theorem Dk: ∀(v:SE) (q:List sL),FX v (Kt v++q)=(v,q)
 | [],q=>rfl
 |(t,x)::xs,q=>by simp only [FX,Kt,AC,Di,Dk]
theorem HR (st:lH):qw st (kF st)=st:=by have hs:=Dj st.aj [];rw [abk] at hs;simp only [qw,kF,Dk,hs]
theorem SQ {β:Type 1}: ∀(l:List PT) (c:List PT->β),rK l c=c l
 | [],_=>rfl
 |p::r,c=>by cases p<;>simp only [rK,ptK,SQ r]
theorem HS {β:Type 1}: ∀(l:List AK) (c:List AK->β),O0 l c=c l
 | [],_=>rfl
 |a::r,c=>by cases a<;>simp only [O0,SQ,HS r]
theorem SS {s:List SB} {o:SE}: ∀{e:SE} {pe:Env},cK s e pe->cK s (TM o e) pe
 | [],_,h=>h
 |(t,v)::r,_,⟨p,q,h1,h2,h3⟩=>⟨p,q,h1,by cases zA t o<;>first|exact h2|trivial,SS h3⟩
theorem KH {cx:Ctx} {inl:O3} (zZ:ly F cx) (El:Gc F inl): ∀(c:gC) (R':Type) {st:lH} {p:St} {k:fj->lH->eN R'} {ρ:Type} {w:R'->ρ} {y:ρ} {Q:R'->fj->St->Prop},
 (∀e st p ρ (w:R'->ρ) y,uz st p->k e st ρ w=abV y-> ∃r,y=w r/\Q r e p)->uz st p->tn cx inl c R' st k ρ w=abV y-> ∃r,y=w r/\WP F c p (Q r):=by
 intro c
 induction c with
 |skip=>intro R' st p k ρ w y Q hk h he;obtain ⟨r,hr,hq⟩:=hk _ _ _ _ _ _ h he;exact ⟨r,hr,WP.skip hq⟩
 |ret=>intro R' st p k ρ w y Q hk h he;obtain ⟨r,hr,hq⟩:=hk _ _ _ _ _ _ h he;exact ⟨r,hr,WP.ret hq⟩
 |exit id=>intro R' st p k ρ w y Q hk h he;obtain ⟨r,hr,hq⟩:=hk _ _ _ _ _ _ h he;exact ⟨r,hr,WP.exit hq⟩
 |region d ops eg=>
  intro R' st p k ρ w y Q hk h he;simp only [tn] at he;have fin: ∀st p ρ (w:R'->ρ) y,uz st p->FZ st.env eg (fun e=>k .normal {st with env:=e}) ρ w=abV y-> ∃r,y=w r/\Q r .normal (mL eg p):=by intro st p ρ w y h he;have:=BD he;have hR:uz {st with env:=eg.map fun t=>(t,zA t st.env)} (mL eg p):=⟨M5 h.env eg,h.aj,h.fz,h.kn⟩;exact hk _ _ _ _ _ _ hR this
  cases d with
  |none=>obtain ⟨r,hr,Pq⟩:=ry zZ El ops (Q:=fun r s _=>Q r .normal (mL eg s)) (fun st p tr ρ w y h he=>fin st p ρ w y h he) h he;exact ⟨r,hr,WP.region Pq⟩
  |some bf=>
   obtain ⟨r,hr,Pq⟩:=ry zZ El ops (Q:=fun r s t=>nJ 0 (t.reverse.zip bf)=abX/\Q r .normal (mL eg s)) (fun st p tr ρ w y h he=>by
    dsimp only at he;cases ho:nJ 0 (tr.reverse.zip bf) with
    |false=>rw [ho] at he;cases he
    |true=>rw [ho] at he;obtain ⟨r,hr,hq⟩:=fin st p ρ w y h he;exact ⟨r,hr,ho,hq⟩) h he
   exact ⟨r,hr,WP.Ou Pq⟩
 |seq a b R9 Ot=>
  intro R' st p k ρ w y Q hk h he;simp only [tn] at he;cases hj:cx.jn&&jnC a with
  |false=>
   rw [hj] at he;obtain ⟨r,hr,Em⟩:=R9 R' (Q:=fun r=>andThen (fun s=>WP F b s (Q r)) (Q r)) (fun e st p ρ w y h he=>by
    cases e with
    |normal=>exact Ot R' hk h he
    |exit i=>exact hk _ _ _ _ _ _ h he
    |ret=>exact hk _ _ _ _ _ _ h he) h he
   exact ⟨r,hr,WP.seq Em⟩
  |true=>
   rw [hj] at he;dsimp only at he;rw [HS] at he;generalize Mu (kF (Ku st.env (YD a) st))=ks at he;generalize Ku st.env (YD a) st=s1 at he;cases hp:iO ks (kF s1) with
   |none=>rw [hp] at he;cases he
   |some y0=>
    rw [hp] at he;dsimp only at he;obtain ⟨n,BE⟩:=FT he;clear he;have body: ∀zr,tn cx inl a (Step (Bool×fk ks) ρ) st (fun e sg=>match e with
     | .normal=>bif v8 s1 {sg with env:=TM st.env sg.env} then (match iO ks (kF {sg with env:=TM st.env sg.env}) with
      |some y'=>zB (.next (abY,y'))
      |none=>aE) else aE
     |e=>fun sM w'=>k e sg sM fun r=>w' (.done (w r))) (Step (Bool×fk ks) ρ) (fun z=>z)=abV zr->
     WP F a p (fun e s=>match zr with
      | .next y'=>e= .normal/\y'.1=abY/\uz (qw s1 (iF ks y'.2)) s
      | .done x=>e≠ .normal/\ ∃r,x=w r/\Q r e s):=by
     intro zr iM;obtain ⟨zr',GV,Em⟩:=R9 (Step (Bool×fk ks) ρ) (Q:=fun zr e s=>match zr with
      | .next y'=>e= .normal/\y'.1=abY/\uz (qw s1 (iF ks y'.2)) s
      | .done x=>e≠ .normal/\ ∃r,x=w r/\Q r e s) (fun e sg p2 sM w' y2 h2 sK=>by
      cases e with
      |normal=>
       dsimp only at sK;obtain ⟨pL,sK⟩:=bO sK;cases Pr:iO ks (kF {sg with env:=TM st.env sg.env}) with
       |none=>rw [Pr] at sK;cases sK
       |some y3=>rw [Pr] at sK;injection sK with sK;refine ⟨.next (abY,y3),sK.symm,rfl,rfl,?_⟩;dsimp only;rw [lL Pr,Dd pL];exact ⟨SS h2.env,h2.aj,h2.fz,h2.kn⟩
      |exit i=>obtain ⟨r,hr,hq⟩:=hk _ _ _ _ _ _ h2 sK;exact ⟨.done (w r),hr,(by intro e;cases e),r,rfl,hq⟩
      |ret=>obtain ⟨r,hr,hq⟩:=hk _ _ _ _ _ _ h2 sK;exact ⟨.done (w r),hr,(by intro e;cases e),r,rfl,hq⟩) h iM
     subst GV;exact Em
    cases n with
    |zero=>cases BE
    |succ n=>
     simp only [jY,eu] at BE;split at BE
     · rename_i y' iM
       obtain ⟨m,e,s,bu,rfl,hy,T5⟩:=body _ iM;obtain ⟨y1,y2⟩:=y';dsimp only at hy T5;subst hy;cases n with
       |zero=>cases BE
       |succ n=>
        simp only [jY] at BE;split at BE
        · rename_i y' Ok
          obtain ⟨r,hr,_⟩:=Ot R' hk T5 Ok;cases hr
        · rename_i x Ok
          obtain ⟨r,hr,Em⟩:=Ot R' hk T5 Ok;injection BE with BE;injection hr with hr;exact ⟨r,by rw [<- BE];exact hr,WP.seq ⟨m,.normal,s,bu,Em⟩⟩
        cases BE
     · rename_i x iM
       injection BE with BE;obtain ⟨m,e,s,bu,dK,r,hr,hq⟩:=body _ iM;refine ⟨r,by rw [<- BE];exact hr,WP.seq ⟨m,e,s,bu,?_⟩⟩;cases e with
       |normal=>exact absurd rfl dK
       |exit i=>exact hq
       |ret=>exact hq
     cases BE
 |cond c a b R9 Ot=>
  intro R' st p k ρ w y Q hk h he;simp only [tn] at he;have hx:=cE h.env c;generalize bm st.env c=v at he hx;cases v with
  |bool x=>
   rcases dz he with ⟨rfl,he⟩|⟨rfl,he⟩
   · obtain ⟨r,hr,Em⟩:=R9 R' hk h he
     exact ⟨r,hr,WP.Sa hx Em⟩
   obtain ⟨r,hr,Em⟩:=Ot R' hk h he
   exact ⟨r,hr,WP.Sb hx Em⟩
  |_=>cases he
 |block id b ih=>
  intro R' st p k ρ w y Q hk h he;simp only [tn] at he;obtain ⟨r,hr,Em⟩:=ih R' (Q:=fun r=>inBlock id (Q r)) (fun e st p ρ w y h he=>by
   cases e with
   |normal=>exact hk _ _ _ _ _ _ h he
   |ret=>exact hk _ _ _ _ _ _ h he
   |exit j=>
    dsimp only at he;cases hj:EQ j id with
    |true=>rw [hj] at he;obtain ⟨r,hr,hq⟩:=hk _ _ _ _ _ _ h he;have OJ:=Nat.eq_of_beq_eq_true hj;exact ⟨r,hr,by simpa [inBlock,OJ] using hq⟩
    |false=>
     rw [hj] at he;obtain ⟨r,hr,hq⟩:=hk _ _ _ _ _ _ h he;have:j≠id:=by intro e;subst e;simp at hj
     exact ⟨r,hr,by simpa [inBlock,this] using hq⟩) h he
  exact ⟨r,hr,WP.block Em⟩
 |loop live b ih=>
  intro R' st p k ρ w y Q hk h he;simp only [tn] at he;cases hn:Bh cx.rk live st with
  |none=>rw [hn] at he;cases he
  |some lg=>
   rw [hn] at he;dsimp only at he;rw [HS] at he;generalize Mu (kF lg)=ks at he;cases hp:iO ks (kF lg) with
   |none=>rw [hp] at he;cases he
   |some y0=>
    rw [hp] at he;dsimp only at he;obtain ⟨p1,Sd,hR1⟩:=Jk h hn;have aai: ∀(Kv:lH) (y':fk ks),v8 lg Kv=abX->iO ks (kF Kv)=abV y'->qw lg (iF ks y')=Kv:=fun Kv y' h1 h2=>by rw [lL h2,Dd h1]
    obtain ⟨n,BE⟩:=FT he;have h0:uz (qw lg (iF ks y0)) p1:=by rw [lL hp,HR];exact hR1
    clear he hp hn h hR1
    induction n generalizing y0 p p1 with
    |zero=>cases BE
    |succ n ihn=>
     have body: ∀zr,tn cx inl b (Step (fk ks) ρ) (qw lg (iF ks y0)) (fun e sg=>match e with
      | .normal=>match Bh cx.rk live sg with
       |some Kv=>bif v8 lg Kv then (match iO ks (kF Kv) with
        |some y'=>zB (.next y')
        |none=>aE) else aE
       |none=>aE
      |e=>fun sM w'=>k e sg sM fun r=>w' (.done (w r))) (Step (fk ks) ρ) (fun z=>z)=abV zr->
      WP F b p1 (fun e s=>match zr with
       | .next y'=>e= .normal/\ ∃p3,norm live s=abV p3/\uz (qw lg (iF ks y')) p3
       | .done x=>e≠ .normal/\ ∃r,x=w r/\Q r e s):=by
      intro zr iM;obtain ⟨zr',GV,Em⟩:=ih (Step (fk ks) ρ) (Q:=fun zr e s=>match zr with
       | .next y'=>e= .normal/\ ∃p3,norm live s=abV p3/\uz (qw lg (iF ks y')) p3
       | .done x=>e≠ .normal/\ ∃r,x=w r/\Q r e s) (fun e sg p2 sM w' y2 h2 sK=>by
       cases e with
       |normal=>
        dsimp only at sK;cases hn3:Bh cx.rk live sg with
        |none=>rw [hn3] at sK;cases sK
        |some Kv=>
         rw [hn3] at sK;obtain ⟨pL,sK⟩:=bO sK;cases Pr:iO ks (kF Kv) with
         |none=>rw [Pr] at sK;cases sK
         |some y3=>rw [Pr] at sK;injection sK with sK;obtain ⟨p3,adL,T5⟩:=Jk h2 hn3;exact ⟨.next y3,sK.symm,rfl,p3,adL,by rw [aai Kv y3 pL Pr];exact T5⟩
       |exit i=>obtain ⟨r,hr,hq⟩:=hk _ _ _ _ _ _ h2 sK;exact ⟨.done (w r),hr,(by intro e;cases e),r,rfl,hq⟩
       |ret=>obtain ⟨r,hr,hq⟩:=hk _ _ _ _ _ _ h2 sK;exact ⟨.done (w r),hr,(by intro e;cases e),r,rfl,hq⟩) h0 iM
      subst GV;exact Em
     simp only [jY] at BE;split at BE
     · rename_i y' iM
       obtain ⟨m,e,s,bu,rfl,p3,Pr,T5⟩:=body _ iM;obtain ⟨r,hr,Em⟩:=ihn y' p3 Pr BE T5;exact ⟨r,hr,WP.again Sd ⟨m,.normal,s,bu,Em⟩⟩
     · rename_i x iM
       injection BE with BE;obtain ⟨m,e,s,bu,dK,r,hr,hq⟩:=body _ iM;refine ⟨r,by rw [<- BE];exact hr,WP.again Sd ⟨m,e,s,bu,?_⟩⟩;cases e with
       |normal=>exact absurd rfl dK
       |exit i=>exact hq
       |ret=>exact hq
     cases BE
end
end Go.Vm
/- Contracts from the typed machine. -/
namespace Go.Vm
section
variable {F : jl} {cx : Ctx} {inl : O3}
theorem Ge {s:List SB}: ∀{l:List SV} {q:List PV} (i:Nat),RL s l q->cK s (HF i l) (qh i q)
 | [],q,i,h=>by rw [show q=[] from h];rfl
 |x::xs,q,i,h=>by obtain ⟨a,as,rfl,h1,h2⟩:=h.cons_inv;exact ⟨a,qh (i+1) as,rfl,h1,Ge (i+1) h2⟩
theorem M6 {st:lH} {p:St} (h:uz st p) {r:RV} {v:SV} (hr:HE st r=abV v): ∃q,Ay p r=abV q/\R st.aj v q:=by
 cases r with
 |tmp t=>injection hr with hr;subst hr;exact ⟨_,rfl,h.env.lk t⟩
 |cell t agg=>
  simp only [HE] at hr;have pL:=h.env.lk t;split at hr
  · rename_i u n off hv
    rw [hv] at pL;rw [bz] at hr;split at hr
    · rename_i cs bw
      obtain ⟨q,h1,h2⟩:=h.aj.box bw;obtain ⟨x,h3,h4⟩:=pg h2 hr;refine ⟨x,?_,h4⟩;simp only [Ay,show lk t p.env=_ from pL,lz,h1,M2,if_true,h3];rfl
    cases hr
  · rename_i cs off hv
    rw [hv] at pL;obtain ⟨q,h1,h2⟩:=pL;obtain ⟨x,h3,h4⟩:=pg h2 hr;refine ⟨x,?_,h4⟩;simp only [Ay,h1,lz,h3];rfl
  cases hr
theorem Dl {st:lH} {p:St} (h:uz st p): ∀{l:List RV} {vs:List SV},uy st l=abV vs-> ∃q,kx p l=abV q/\RL st.aj vs q
 | [],vs,hr=>by injection hr with hr;subst hr;exact ⟨[],rfl,rfl⟩
 |r::l,vs,hr=>by
  simp only [uy] at hr;split at hr
  · rename_i v GU h1 h2
    injection hr with hr;subst hr;obtain ⟨q,h3,h4⟩:=M6 h h1;obtain ⟨qs,h5,h6⟩:=Dl h h2;exact ⟨q::qs,by simp only [kx,h3,h5],RL.cons h4 h6⟩
  cases hr
theorem Gf {s:List SB} {vs:List SV} {q:List PV} (h:RL s vs q):R s (yN vs) (results1 q):=by
 match vs,q,h with
 | [],q,h=>rw [show q=[] from h];exact ⟨[],rfl,rfl⟩
 | [v],q,h=>obtain ⟨a,as,rfl,h1,h2⟩:=h.cons_inv;rw [show as=[] from h2];exact h1
 |v::u::r,q,h=>have kC:=h;obtain ⟨a,as,rfl,h1,h2⟩:=h.cons_inv;obtain ⟨b,bs,rfl,h3,h4⟩:=h2.cons_inv;exact ⟨_,rfl,kC⟩
theorem tB (zZ:ly F cx) (El:Gc F inl) {f:FuncId} {x:aG} (hf:F f=abV (.code x)) {R':Type} {args:List SV} {s:List SB} {z:List Nat} {k:SV->List SB->List Nat->eN R'} {ρ:Type} {w:R'->ρ} {y:ρ} {pa:List PV} {ps:bG}
 {Q:R'->PV->bG->List Nat->Prop} (ha:RL s args pa) (hS:bL s ps) (he:F0 cx inl x R' args s z k ρ w=abV y)
 (hk: ∀v s' z' p sN sM (w':R'->sM) y',R s' v p->bL s' sN->k v s' z' sM w'=abV y'-> ∃r,y'=w' r/\Q r p sN z'): ∃r,y=w r/\vM F f pa ps z (fun p sN z'=>Q r p sN z'):=by
 unfold F0 at he;obtain ⟨hn,he⟩:=bO he;have fin: ∀st p sM (w':R'->sM) y',uz st p->(match uy st x.res with
  |some vs=>k (yN vs) st.aj st.fz
  |none=>aE) sM w'=abV y'-> ∃r,y'=w' r/\ ∃vs,kx p x.res=abV vs/\Q r (results1 vs) p.aj p.fz:=by
  intro st p sM w' y' h he;cases hr:uy st x.res with
  |none=>rw [hr] at he;cases he
  |some vs=>rw [hr] at he;obtain ⟨q,h1,h2⟩:=Dl h hr;obtain ⟨r,h3,h4⟩:=hk _ _ _ _ _ _ _ _ (Gf h2) h.aj he;exact ⟨r,h3,q,h1,by rw [h.fz];exact h4⟩
 obtain ⟨r,hr,Em⟩:=KH zZ El x.code R' (Q:=fun r=>DK x fun p sN z'=>Q r p sN z') (p:={env:=qh 0 pa,aj:=ps,fz:=z,kn:=abU ps}) (fun e st p sM w' y' h he=>by
  cases e with
  |normal=>exact fin st p sM w' y' h he
  |ret=>exact fin st p sM w' y' h he
  |exit i=>cases he) ⟨Ge 0 ha,hS,rfl,hS.len⟩ he
 exact ⟨r,hr,vM.of hf (by rw [ha.jr];exact hn) Em⟩
theorem En {α:Type} {l m r:List α} {i:Int} (h:D6 l i m=abV r):0<=i/\i.toNat<=abU l/\abU m=1/\abU l+1<=1048576/\r=l.take i.toNat++m++l.drop i.toNat:=by
 unfold D6 at h;split at h
 · rename_i hc
   injection h with h;exact ⟨hc.1,hc.2.1,hc.2.2.1,hc.2.2.2,h.symm⟩
 cases h
theorem KI {e:Nat} {args:List SV} {s:List SB} {z:List Nat} {a:Z1} (h:O4 e args s z=abV a):
 ∃x u x2 m,args=[.own a.t x,.int .i64 a.i,.own u x2]/\nth s a.t=abV (.arr a.r a.l)/\nth s u=abV (.arr a.r m)/\a.m=m/\abU a.r=e/\EQ a.t u=abY/\has z a.t=abY:=by
 unfold O4 at h;split at h
 case h_2=>cases h
 split at h
 case h_2=>cases h
 split at h
 case h_2=>cases h
 split at h
 case h_2=>cases h
 rename_i m' hm;cases hc:(EQ _ e&&_&&_) with
 |false=>rw [hc] at h;cases h
 |true=>rw [hc] at h;injection h with h;subst h;simp only [rc,ab7,If] at hc;obtain ⟨rfl,rfl⟩:=lJ hm;exact ⟨_,_,_,_,rfl,by assumption,by assumption,rfl,hc.1.1,hc.1.2,hc.2⟩
theorem HT {e:Nat} {f:FuncId} (hf:F f=abV (.JO (Ln e))) {R':Type} {args:List SV} {s:List SB} {z:List Nat} {k:SV->List SB->List Nat->eN R'} {ρ:Type} {w:R'->ρ} {y:ρ} {pa:List PV} {ps:bG}
 {Q:R'->PV->bG->List Nat->Prop} (ha:RL s args pa) (hS:bL s ps) (he:TN e args s z k ρ w=abV y)
 (hk: ∀v s' z' p sN sM (w':R'->sM) y',R s' v p->bL s' sN->k v s' z' sM w'=abV y'-> ∃r,y'=w' r/\Q r p sN z'): ∃r,y=w r/\vM F f pa ps z (fun p sN z'=>Q r p sN z'):=by
 unfold TN at he;cases hA:O4 e args s z with
 |none=>rw [hA] at he;cases he
 |some a=>
 rw [hA] at he;dsimp only at he;obtain ⟨l',hl,he⟩:=bN he;obtain ⟨x,u,x2,m0,rfl,ht,hu,hm,Oe,htu,hz⟩:=KI hA;obtain ⟨t,q,l,i,m⟩:=a;dsimp only at*;subst hm Oe;obtain ⟨i0,il,m1,iC,rfl⟩:=En hl;obtain ⟨p0,pr0,rfl,h0,ha⟩:=ha;obtain ⟨p1,pr1,rfl,h1,ha⟩:=ha;obtain ⟨p2,pr2,rfl,h2,ha⟩:=ha;obtain rfl:pr2=[]:=ha;obtain rfl:p1= .int .i64 i:=h1;have IX:s[t]? =abV (.arr q l):=by rw [<- bz];exact ht
 have yd:s[u]? =abV (.arr q m):=by rw [<- bz];exact hu
 obtain ⟨e0,n0,rfl,o0⟩:=h0;obtain ⟨e2,n2,rfl,o2⟩:=h2;obtain ⟨rfl,rfl⟩:e0=abU q/\n0=(abU l):=by
  rcases o0 with ⟨r1,l1,a,b,c⟩|a
  · rw [IX] at a;injection a with a;injection a with a1 a2;subst a1;subst a2;exact ⟨b,c⟩
  rw [IX] at a;cases a
 obtain ⟨rfl,rfl⟩:e2=abU q/\n2=(abU m):=by
  rcases o2 with ⟨r1,l1,a,b,c⟩|a
  · rw [yd] at a;injection a with a;injection a with a1 a2;subst a1;subst a2;exact ⟨b,c⟩
  rw [yd] at a;cases a
 obtain ⟨b1,Ha,Eo⟩:=hS.at_ t _ IX;obtain ⟨b2,Ok,T6⟩:=hS.at_ u _ yd;have Eo:b1= .arr (abU q) (l.map (RT.pv q)):=Eo;have T6:b2= .arr (abU q) (m.map (RT.pv q)):=T6;subst Eo T6;have bI:(yf [t] (s.set t .dead)).length=(abU s):=by rw [re];simp
 obtain ⟨L,hL⟩: ∃L,L=l.take i.toNat++m++l.drop i.toNat:=⟨_,rfl⟩;rw [<- hL] at he;have G:=Good.put hS (b:= .dead) (q:= .dead) (l:=[.arr q L]) (ql:=[.arr (abU q) (L.map (RT.pv q))]) (v:= .own (abU s) abY)
  (p:= .own (abU s) (abU q) 0 (abU L) (abU L) abY) (rd:=[]) IX (.inr rfl) rfl rfl
  (fun j b hj=>by
   cases j with
   |zero=>simp at hj;subst hj;exact ⟨_,rfl,rfl⟩
   |succ j=>simp at hj)
  ⟨abU q,abU L,rfl,.inl ⟨q,L,by rw [<- bI];exact jx,rfl,rfl⟩⟩
 have vQ:(abU L)=abU l+1:=by rw [hL];simp only [ab8,NE,ab9,m1];omega
 obtain ⟨rr,hr,hq⟩:=hk _ _ _ _ _ _ _ _ G.v G.aj he;refine ⟨rr,hr,1,_,_,_,?_,hq⟩;rw [iK];have jo:aaj (abU l+1) jb=abX:=by simp [jb];omega
 have FF:aaj i.toNat (abU l)=abX:=by simpa using il
 have hLm:L.map (RT.pv q)=(l.map (RT.pv q)).take i.toNat++m.map (RT.pv q)++(l.map (RT.pv q)).drop i.toNat:=by rw [hL,ab5,ab5,abP,abQ]
 simp [step,hf,Ln,Ha,Ok,m1,htu,hz,i0,jo,il,vQ,hS.len,ez,oQ,hLm]
theorem KJ {α:Type} {l m r:List α} (h:TH l m=abV r):1<=abU l+abU m/\abU l+abU m<=1048576/\r=l++m:=by
 unfold TH at h;split at h
 · rename_i hc
   injection h with h;exact ⟨hc.1,hc.2,h.symm⟩
 cases h
theorem KK {args:List SV} {s:List SB} {z:List Nat} {a:Z2} (h:O5 args s z=abV a):
 ∃cap x m,args=[.part a.t 0 2 cap x]/\nth s a.t=abV (.box [.sl a.r a.l,.sl a.r m])/\a.m=m/\abU a.r=1/\has z a.t=abY:=by
 unfold O5 at h;split at h
 case h_2=>cases h
 split at h
 case h_2=>cases h
 split at h
 case h_2=>cases h
 rename_i m' hm;cases hc:(EQ _ 1&&EQ _ 0&&EQ _ 2&&_) with
 |false=>rw [hc] at h;cases h
 |true=>rw [hc] at h;injection h with h;subst h;simp only [rc,ab7,If] at hc;obtain ⟨rfl,rfl⟩:=lJ hm;obtain ⟨⟨⟨h1,rfl⟩,rfl⟩,h2⟩:=hc;exact ⟨_,_,_,rfl,by assumption,rfl,h1,h2⟩
theorem Dm {r:List PT} (h:(abU r)=1) (l:List (RT r)):yl (l.map (RT.pv r))=abX:=by
 unfold yl;rw [ab1];intro x hx;obtain ⟨a,_,rfl⟩:=abS.1 hx
 match r,h with
 | [p],_=>show (EQ [p.pv a].length 1&&[p.pv a].all PV.plain)=abX;cases p<;>rfl
theorem HU {f:FuncId} (hf:F f=abV (.JO Ta)) {R':Type} {args:List SV} {s:List SB} {z:List Nat} {k:SV->List SB->List Nat->eN R'} {ρ:Type} {w:R'->ρ} {y:ρ} {pa:List PV} {ps:bG}
 {Q:R'->PV->bG->List Nat->Prop} (ha:RL s args pa) (hS:bL s ps) (he:TO args s z k ρ w=abV y)
 (hk: ∀v s' z' p sN sM (w':R'->sM) y',R s' v p->bL s' sN->k v s' z' sM w'=abV y'-> ∃r,y'=w' r/\Q r p sN z'): ∃r,y=w r/\vM F f pa ps z (fun p sN z'=>Q r p sN z'):=by
 unfold TO at he;cases hA:O5 args s z with
 |none=>rw [hA] at he;cases he
 |some a=>
 rw [hA] at he;dsimp only at he;obtain ⟨l',hl,he⟩:=bN he;obtain ⟨cap,x,m0,rfl,ht,hm,Oe,hz⟩:=KK hA;obtain ⟨t,q,l,m⟩:=a;dsimp only at*;subst hm;obtain ⟨hp,iC,rfl⟩:=KJ hl;obtain ⟨p0,pr0,rfl,h0,ha⟩:=ha;obtain rfl:pr0=[]:=ha;have IX:s[t]? =abV (.box [.sl q l,.sl q m]):=by rw [<- bz];exact ht
 obtain ⟨e0,rfl,o0⟩:=h0;obtain rfl:e0=1:=by
  rcases o0 with ⟨r1,l1,a,b⟩|a|⟨_,a,b⟩
  · rw [IX] at a;cases a
  · rw [IX] at a;cases a
  exact b
 obtain ⟨b1,Ha,Eo⟩:=hS.at_ t _ IX;obtain ⟨ps1,rfl,p1,q1,rfl,Sd,p2,q2,rfl,YY,rfl⟩:=Eo;have Sd:p1= .sl (abU q) abY (l.map (RT.pv q)):=Sd;have YY:p2= .sl (abU q) abY (m.map (RT.pv q)):=YY;subst Sd YY;have bI:(yf [t] (s.set t .dead)).length=(abU s):=by rw [re];simp
 obtain ⟨L,hL⟩: ∃L,L=l++m:=⟨_,rfl⟩;rw [<- hL] at he;have G:=Good.put hS (b:= .dead) (q:= .dead) (l:=[.arr q L]) (ql:=[.arr (abU q) (L.map (RT.pv q))]) (v:= .own (abU s) abY)
  (p:= .own (abU s) (abU q) 0 (abU L) (abU L) abY) (rd:=[]) IX (.inr rfl) rfl rfl
  (fun j b hj=>by
   cases j with
   |zero=>simp at hj;subst hj;exact ⟨_,rfl,rfl⟩
   |succ j=>simp at hj)
  ⟨abU q,abU L,rfl,.inl ⟨q,L,by rw [<- bI];exact jx,rfl,rfl⟩⟩
 have vQ:(abU L)=abU l+(abU m):=by rw [hL];simp
 obtain ⟨rr,hr,hq⟩:=hk _ _ _ _ _ _ _ _ G.v G.aj he;refine ⟨rr,hr,1,_,_,_,?_,hq⟩;rw [iK];have jo:aaj (abU l+abU m) jb=abX:=by simp [jb];omega
 have JW:aaj 1 (abU l+abU m)=abX:=by simpa using hp
 have hLm:L.map (RT.pv q)=l.map (RT.pv q)++m.map (RT.pv q):=by rw [hL,ab5]
 have hc:(EQ 1 1&&EQ 0 0&&EQ 2 2&&!has z t&&yl (l.map (RT.pv q))&&yl (m.map (RT.pv q))&&aaj 1 ((l.map (RT.pv q)).length+(m.map (RT.pv q)).length)&&aaj ((l.map (RT.pv q)).length+(m.map (RT.pv q)).length) jb&&(EQ (abU q) 1||(l.map (RT.pv q)).isEmpty)&&(EQ (abU q) 1||(m.map (RT.pv q)).isEmpty))=abX:=by rw [Dm Oe,Dm Oe,hz,pp,pp,JW,jo,Oe];rfl
 simp only [step,hf];unfold Ta
 dsimp only;rw [Ha];dsimp only;rw [hc];simp [hS.len,ez,oQ,hLm,vQ,Oe]
theorem Gg: ∀(p:PT) (a:p.T),xp p (p.pv a)=abV a
 | .i k,a=>by have:dF k k=abX:=dy.2 rfl;simp [xp,PT.pv,this]
 | .b,a=>rfl
theorem Jp: ∀(r:List PT) (a:RT r),CB r (RT.pv r a)=abV a
 | [],a=>rfl
 | [p],a=>Gg p a
 |p::q::r,a=>by
  show (match xp p (p.pv a.1),CB (q::r) (RT.pv (q::r) a.2) with
   |some a,abV b=>abV (a,b)
   |_,_=>abW)=_
  rw [Gg,Jp (q::r)]
theorem tC (r:List PT): ∀l:List (RT r),tj r (l.map (RT.pv r))=abV l
 | []=>rfl
 |a::l=>by
  show (match CB r (RT.pv r a),tj r (l.map (RT.pv r)) with
   |some a,abV l=>abV (a::l)
   |_,_=>abW)=_
  rw [Jp,tC r l]
theorem Ps {s:List SB} {g:Option FuncId} {a:List SV} {p:List PV} (h:zD g a=abX) (hr:RL s a p):O1 g p=abX:=by
 unfold zD at h;split at h
 · obtain rfl:p=[]:=hr
   rfl
 · obtain ⟨p0,pr,rfl,h0,hr⟩:=hr
   obtain rfl:pr=[]:=hr;obtain ⟨x,y,rfl,hx,hy⟩:=h0;obtain rfl:x=[]:=hx;obtain rfl:y=[]:=hy;exact h
 cases h
theorem KL {r:List PT} {g:Option FuncId} {args:List SV} {s:List SB} {z:List Nat} {t:Nat} {o:Option Nat} {l:List (RT r)} (h:O6 r g args s z=abV (t,o,l)):
 ∃x a,args=x::a/\nth s t=abV (.arr r l)/\has z t=abY/\zD g a=abX/\((o=abW/\ ∃ex,x= .own t ex)\/ ∃len cap ex,o=abV len/\x= .pre t len cap ex):=by
 unfold O6 at h;split at h
 · split at h
   · split at h
     · rename_i hm
       cases hc:(!has z _&&zD g _) with
       |false=>rw [hc] at h;cases h
       |true=>rw [hc] at h;simp only [ls,abF,PP] at h;obtain ⟨rfl,rfl,rfl⟩:=h;simp only [rc,If] at hc;obtain ⟨rfl,rfl⟩:=lJ hm;exact ⟨_,_,rfl,by assumption,hc.1,hc.2,.inl ⟨rfl,_,rfl⟩⟩
     cases h
   cases h
 · split at h
   · split at h
     · rename_i hm
       cases hc:(!has z _&&zD g _) with
       |false=>rw [hc] at h;cases h
       |true=>rw [hc] at h;simp only [ls,abF,PP] at h;obtain ⟨rfl,rfl,rfl⟩:=h;simp only [rc,If] at hc;obtain ⟨rfl,rfl⟩:=lJ hm;exact ⟨_,_,rfl,by assumption,hc.1,hc.2,.inr ⟨_,_,_,rfl,rfl⟩⟩
     cases h
   cases h
 cases h
theorem HV {α:Type} {f:List α->Option (List α)} {l m:List α} (h:A9 f l=abV m):(abU l)<=1048576/\f l=abV m/\abU m=(abU l):=by
 unfold A9 at h;split at h
 · rename_i hl
   split at h
   · rename_i m' hm
     split at h
     · rename_i he
       injection h with h;subst h;exact ⟨hl,hm,he⟩
     cases h
   cases h
 cases h
theorem Ep {α:Type} {f:List α->Option (List α)} {n:Nat} {l m:List α} (h:D7 f n l=abV m):n<=abU l/\ ∃m',A9 f (l.take n)=abV m'/\m=m'++l.drop n:=by
 unfold D7 at h;split at h
 · rename_i hn
   cases hm:A9 f (l.take n) with
   |none=>rw [hm] at h;cases h
   |some m'=>rw [hm] at h;injection h with h;exact ⟨hn,m',rfl,h.symm⟩
 cases h
theorem HW {q:Yz} {f:FuncId} (hf:F f=abV (.JO (Mv q))) {R':Type} {args:List SV} {s:List SB} {z:List Nat} {k:SV->List SB->List Nat->eN R'} {ρ:Type} {w:R'->ρ} {y:ρ} {pa:List PV} {ps:bG}
 {Q:R'->PV->bG->List Nat->Prop} (ha:RL s args pa) (hS:bL s ps) (he:TP q args s z k ρ w=abV y)
 (hk: ∀v s' z' p sN sM (w':R'->sM) y',R s' v p->bL s' sN->k v s' z' sM w'=abV y'-> ∃r,y'=w' r/\Q r p sN z'): ∃r,y=w r/\vM F f pa ps z (fun p sN z'=>Q r p sN z'):=by
 have key: ∀(t len:Nat) (l m':List (RT q.r)) (ex:Bool) (cap:Nat) (pr:List PV) (a:List SV),s[t]? =abV (.arr q.r l)->has z t=abY->zD q.g a=abX->RL s a pr->pa= .own t (abU q.r) 0 len cap ex::pr->len<=abU l->A9 q.fn (l.take len)=abV m'->
  k (.bH []) (ej.j0 s {v:= .bH [],wr:=[(t,.arr q.r (m'++l.drop len))]}) z ρ w=abV y-> ∃r,y=w r/\vM F f pa ps z (fun p sN z'=>Q r p sN z'):=by
  intro t len l m' ex cap pr a ht hz hg har Fy bI zV he;subst Fy;obtain ⟨s1,s2,s3⟩:=HV zV;obtain ⟨b1,Ha,Eo⟩:=hS.at_ t _ ht;have Eo:b1= .arr (abU q.r) (l.map (RT.pv q.r)):=Eo;subst Eo;have vQ:(l.take len).length=len:=by rw [NE];omega
  have Cp:(m'++l.drop len).length=(abU l):=by rw [ab8,ab9,s3,vQ];omega
  have G:=Good.put hS (b:= .arr q.r (m'++l.drop len)) (q:= .arr (abU q.r) ((m'++l.drop len).map (RT.pv q.r))) (l:=[]) (ql:=[]) (v:= .bH []) (p:= .bH []) (rd:=[]) ht (.inl ⟨_,rfl,Cp⟩) rfl rfl
   (fun j b hj=>by simp at hj) ⟨[],rfl,rfl⟩
  obtain ⟨rr,hr,hq⟩:=hk _ _ _ _ _ _ _ _ G.v G.aj he;refine ⟨rr,hr,1,_,_,_,?_,hq⟩;rw [iK];have hg':=Ps hg har;have hrt:tj q.r ((l.map (RT.pv q.r)).take len)=abV (l.take len):=by rw [<- abP];exact tC q.r _
  have FF:aaj len (abU l)=abX:=by simpa using bI
  have Tw:aaj len jb=abX:=by simp [jb];omega
  have hbe:EQ (abU m') (l.take len).length=abX:=by rw [s3];exact M2 _
  simp only [step,hf,Mv,Ha,pp,M2,FF,Tw,hz,hg',hrt,s2,hbe,Bool.not_false,abm,if_true,Option.map_some,ez,oQ,ab5,abQ]
 unfold TP at he;cases hA:O6 q.r q.g args s z with
 |none=>rw [hA] at he;cases he
 |some u=>
  obtain ⟨t,o,l⟩:=u;rw [hA] at he;obtain ⟨x,a,rfl,ht,hz,hg,h⟩:=KL hA;obtain ⟨p0,pr,rfl,h0,ha⟩:=ha;rw [bz] at ht;rcases h with ⟨rfl,ex,rfl⟩|⟨len,cap,ex,rfl,rfl⟩
  · obtain ⟨m,hm,he⟩:=bN he
    obtain ⟨e0,n0,rfl,o0⟩:=h0;obtain ⟨rfl,rfl⟩:e0=abU q.r/\n0=(abU l):=by
     rcases o0 with ⟨r1,l1,a,b,c⟩|a
     · rw [ht] at a;injection a with a;injection a with a1 a2;subst a1;cases a2;exact ⟨b,c⟩
     rw [ht] at a;cases a
    refine key t (abU l) l m ex (abU l) pr a ht hz hg ha rfl (v4 _) (by rw [List.take_length];exact hm) ?_;rw [List.drop_length,abk];exact he
  obtain ⟨m,hm,he⟩:=bN he
  obtain ⟨e0,rfl,o0⟩:=h0;obtain rfl:e0=(abU q.r):=by
   rcases o0 with ⟨r1,l1,a,b⟩|a|⟨_,a,_⟩
   · rw [ht] at a;injection a with a;injection a with a1 a2;subst a1;exact b
   · rw [ht] at a;cases a
   rw [ht] at a;cases a
  obtain ⟨hn,m',zV,rfl⟩:=Ep hm;exact key t len l m' ex cap pr a ht hz hg ha rfl hn zV he
theorem Er (zZ:ly F cx): ∀n,Gc F (MA cx n)
 |0=>fun f args s z R' k ρ w y pa ps Q _ _ h _=>by cases h
 |n+1=>fun f args s z R' k ρ w y pa ps Q ha hS h hk=>by
  simp only [MA] at h;cases hx:cx.code f with
  |none=>rw [hx] at h;cases h
  |some x=>
   rw [hx] at h;cases x with
   |code x=>exact tB zZ (Er zZ n) (zZ.code f _ hx) ha hS h hk
   |ins e=>exact HT (zZ.code f _ hx) ha hS h hk
   |srt q=>exact HW (zZ.code f _ hx) ha hS h hk
   |cat=>exact HU (zZ.code f _ hx) ha hS h hk
def Pu:Kd->Bool->Bool
 | .own,b=>b
 |_,b=>!b
def M7 (kd:Kd) {β:Type} (res:Arg β) (b:β) (p:PV) (ps:bG) (z:List Nat):Prop:=
 match kd with
 | .pure=>p.hY=abX/\nB (res.enc b)=abV p
 | .qc=>p.hY=abY/\ ∃q,uc ps p=abV q/\nB (res.enc b)=abV q
 | .own=> ∀nx,∃p0 p' q seen,sP ps z nx [] p=abV (p',q,seen)/\nB (res.enc b)=abV p0/\yT nx p0=abV (p',q)
mutual
theorem Gh {s:List SB}: ∀{v:SV} {p:PV},R s v p->v7 v=abX->nB v=abV p
 | .int _ _,p,h,_| .bool _,p,h,_| .str _,p,h,_=>by rw [show p=_ from h];rfl
 | .agg cs,p,h,hn=>by obtain ⟨q,rfl,h⟩:=h;simp only [nB,BF h hn]
 | .bH cs,p,h,hn=>by obtain ⟨q,rfl,h⟩:=h;simp only [nB,BF h hn]
 | .fi,_,_,h| .undef,_,_,h| .gJ,_,_,h| .cL,_,_,h| .sl _ _,_,_,h| .nil _ _,_,_,h| .own _ _,_,_,h| .pre _ _ _ _,_,_,h| .part _ _ _ _ _,_,_,h| .pa _ _ _ _ _,_,_,h| .pb _ _ _,_,_,h| .bp _ _ _,_,_,h| .aW _ _,_,_,h| .di _ _ _,_,_,h| .mp _,_,_,h=>by cases h
theorem BF {s:List SB}: ∀{v:List SV} {p:List PV},RL s v p->nO v=abX->lx v=abV p
 | [],p,h,_=>by rw [show p=_ from h];rfl
 |x::xs,p,h,hn=>by obtain ⟨a,as,rfl,h1,h2⟩:=h.cons_inv;simp only [nO,rc] at hn;exact cY.2 ⟨_,_,rfl,Gh h1 hn.1,BF h2 hn.2⟩
end
theorem HX {kd:Kd} {β:Type} {res:Arg β} {v:SV} {s:List SB} {z:List Nat} {p:PV} {ps:bG} {ρ:Type} {w:β->ρ} {y:ρ} (hv:R s v p) (hS:bL s ps) (h:MB kd res v s z ρ w=abV y):
 ∃b,y=w b/\M7 kd res b p ps z:=by
 unfold MB at h;cases kd with
 |pure=>dsimp only at h;obtain ⟨h1,h2⟩:=bO h;obtain ⟨b,h3,h4⟩:=bc h2;injection h4 with h4;exact ⟨b,h4.symm,Ga hv h1,res.law h3 (Gh hv h1)⟩
 |qc=>dsimp only at h;obtain ⟨h1,h2⟩:=nY h;obtain ⟨u,h3,h4⟩:=bc h2;obtain ⟨b,h5,h6⟩:=bc h4;injection h6 with h6;obtain ⟨q,h7,h8⟩:=SM hS hv h3;exact ⟨b,h6.symm,De hv h1 h3,q,h7,res.law h5 h8⟩
 |own=>dsimp only at h;obtain ⟨u,h3,h4⟩:=bc h;obtain ⟨b,h5,h6⟩:=bc h4;injection h6 with h6;refine ⟨b,h6.symm,fun nx=>?_⟩;obtain ⟨p0,p',q,h7,h8,h9⟩:=MZ hS (v':=u.1) (seen':=u.2) nx hv h3;exact ⟨p0,p',q,u.2,h9,res.law h5 h7,h8⟩
theorem bL.nil:bL [] []:=⟨rfl,fun t b h=>by simp at h⟩
theorem cM.of {f:FuncId} {x:aG} {α β:Type} {args:ao α} {res:Arg β} {kd:Kd} {fn:α->Option β} {ow:Bool} (hf:F f=abV (.code x)) (ho:Pu kd ow=abX) (zZ:ly F cx)
 (h: ∀a,SH cx x args res kd a=fn a):cM F f ⟨args,res,fn,kd,ow⟩:=by
 intro a b as pa aj fz hb Fy hex;have hb:fn a=abV b:=hb;rw [<- h a] at hb;obtain ⟨r,hr,n,v,s,z,bu,hl⟩:=tB zZ (Er zZ 8) hf (Q:=fun r p ps z=>M7 kd res r p ps z) (BA Fy) bL.nil hb (fun v s' z' p sN sM w' y' hv hS hk=>HX hv hS hk);have TW:b=r:=hr;subst TW;cases kd with
 |pure=>
  obtain ⟨h1,h2⟩:=hl;have how:ow=abY:=by simpa [Pu] using ho
  subst how;refine ⟨n,{v:=v,rd:=ck (bW aj deep) as},?_,v,h2,rfl⟩;simp only [bC,hex,hf,bu,aag,if_false,h1,if_true]
 |qc=>
  obtain ⟨h1,q,h2,h3⟩:=hl;have how:ow=abY:=by simpa [Pu] using ho
  subst how;refine ⟨n,{v:=q,rd:=ck (bW aj deep) as,fr:=ck (bW aj deep) as},?_,q,h3,rfl⟩;simp only [bC,hex,hf,bu,aag,if_false,h1,h2]
 |own=>have how:ow=abX:=ho;subst how;obtain ⟨p0,p',q,seen,h1,h2,h3⟩:=hl (abU aj);refine ⟨n,{v:=p',news:=q,rd:=ck (bW aj deep) as},?_,p0,p',q,h2,h3,rfl⟩;simp only [bC,hex,hf,bu,if_true,h1]
theorem Gi: ∀(s:List SB) (q:List sL),(v9 s q).1.length=abU s
 | [],q=>rfl
 |b::r,q=>by simp only [v9,List.length_cons,Gi r]
mutual
theorem R.take {s:List SB} {k:Nat}: ∀{v:SV} {p:PV},R s v p->(∀t∈Hy oP v,t<k)->R (s.take k) v p
 | .fi,_,_,_=>trivial
 | .undef,_,h,_| .gJ,_,h,_| .cL,_,h,_| .int _ _,_,h,_| .bool _,_,h,_| .str _,_,h,_| .sl _ _,_,h,_| .nil _ _,_,h,_| .bp _ _ _,_,h,_| .mp _,_,h,_=>h
 | .agg cs,_,h,ht=>by obtain ⟨q,rfl,h⟩:=h;exact ⟨q,rfl,RL.BG h ht⟩
 | .bH cs,_,h,ht=>by obtain ⟨q,rfl,h⟩:=h;exact ⟨q,rfl,RL.BG h ht⟩
 | .aW cs o,_,h,ht=>by obtain ⟨q,rfl,h⟩:=h;exact ⟨q,rfl,RL.BG h ht⟩
 | .di f a b,_,h,ht=>by obtain ⟨pa,pb,rfl,h1,h2⟩:=h;exact ⟨pa,pb,rfl,RL.BG h1 (fun t h=>ht t (ab2 _ h)),RL.BG h2 (fun t h=>ht t (ab0 _ h))⟩
 | .own t ex,_,h,ht=>by
  obtain ⟨e,n,rfl,cm⟩:=h;have hk:=ht t (aa7.2 rfl);refine ⟨e,n,rfl,?_⟩;rcases cm with ⟨r,l,h1,h2,h3⟩|h1
  · exact .inl ⟨r,l,by rw [pm hk];exact h1,h2,h3⟩
  exact .inr (by rw [pm hk];exact h1)
 | .pre t a b c,_,h,ht=>by
  obtain ⟨e,rfl,cm⟩:=h;have hk:=ht t (aa7.2 rfl);refine ⟨e,rfl,?_⟩;rcases cm with ⟨r,l,h1,h2⟩|h1
  · exact .inl ⟨r,l,by rw [pm hk];exact h1,h2⟩
  exact .inr (by rw [pm hk];exact h1)
 | .part t o a b c,_,h,ht=>by
  obtain ⟨e,rfl,cm⟩:=h;have hk:=ht t (aa7.2 rfl);refine ⟨e,rfl,?_⟩;rcases cm with ⟨r,l,h1,h2⟩|h1
  · exact .inl ⟨r,l,by rw [pm hk];exact h1,h2⟩
  exact .inr (by rw [pm hk];exact h1)
 | .pa t r i a o,_,h,ht=>by
  obtain ⟨rfl,cm⟩:=h;have hk:=ht t (abx ..);refine ⟨rfl,?_⟩;rcases cm with ⟨l,h1,h2⟩|h1
  · exact .inl ⟨l,by rw [pm hk];exact h1,h2⟩
  exact .inr (by rw [pm hk];exact h1)
 | .pb t i o,_,h,ht=>by
  obtain ⟨e,rfl,cm⟩:=h;have hk:=ht t (abx ..);refine ⟨e,rfl,?_⟩;rcases cm with ⟨r,l,h1,h2⟩|h1
  · exact .inl ⟨r,l,by rw [pm hk];exact h1,h2⟩
  exact .inr (by rw [pm hk];exact h1)
theorem RL.BG {s:List SB} {k:Nat}: ∀{v:List SV} {p:List PV},RL s v p->(∀t∈nN oP v,t<k)->RL (s.take k) v p
 | [],_,h,_=>h
 |x::xs,_,h,ht=>by obtain ⟨a,as,rfl,h1,h2⟩:=h.cons_inv;exact RL.cons (R.take h1 (fun t h=>ht t (ab2 _ h))) (RL.BG h2 (fun t h=>ht t (ab0 _ h)))
end
theorem BH {R' ρ:Type} {w:R'->ρ} {y:ρ}: ∀{s s':List SB} {k:eN R'},xq s s' k ρ w=abV y->k ρ w=abV y/\abU s'=abU s/\ ∀(t:Nat) (x z:SB),s[t]? =abV x->s'[t]? =abV z->M1 x z
 | [],[],k,h=>⟨h,rfl,fun t x z h=>by simp at h⟩
 | [],_::_,k,h=>by cases h
 |_::_,[],k,h=>by cases h
 |x::xs,y'::ys,k,h=>by
  have step: ∀(_:xq xs ys k ρ w=abV y) (_:M1 x y'),k ρ w=abV y/\(y'::ys).length=(x::xs).length/\ ∀(t:Nat) (a b:SB),(x::xs)[t]? =abV a->(y'::ys)[t]? =abV b->M1 a b:=by
   intro h hx;obtain ⟨h1,h2,h3⟩:=BH h;refine ⟨h1,by simpa using h2,fun t a b ha hb=>?_⟩;cases t with
   |zero=>simp at ha hb;subst ha hb;exact hx
   |succ t=>exact h3 t a b (by simpa using ha) (by simpa using hb)
  cases x with
  |arr r l=>
   cases y' with
   |arr q m=>obtain ⟨hr,h2⟩:=bO (a:=eu (abU m==abU l) (xq xs ys k) aE) h;obtain ⟨hl,h3⟩:=fA h2;exact step h3 ⟨qv hr,by simpa using hl⟩
   |_=>cases h
  |dead=>cases y' with
   |dead=>exact step h trivial
   |_=>cases h
  |box cs=>cases y' with
   |box _=>exact step h trivial
   |_=>cases h
  |set l=>cases y' with
   |set _=>exact step h trivial
   |_=>cases h
  |bB p l=>cases y' with
   |bB _ _=>exact step h trivial
   |_=>cases h
theorem BI: ∀{s:List SB},Bj s=abX-> ∀(t:Nat) (b:SB),s[t]? =abV b->uw b=abX
 | [],_,t,b,h=>by simp at h
 |x::xs,hs,0,b,h=>by simp only [Bj,rc] at hs;simp at h;subst h;exact hs.1
 |x::xs,hs,t+1,b,h=>by simp only [Bj,rc] at hs;exact BI hs.2 t b (by simpa using h)
theorem qz.of {f:FuncId} {x:aG} {wd:Bool} {ka ko:List AK} {ta:List SV} {tb to:List SB} {tv:SV} {fn:fk ka->Option (fk ko)} (hf:F f=abV (.code x)) (zZ:ly F cx)
 (h: ∀a,adu wd cx x ka ta tb ko tv to a=fn a):qz F f ⟨ka,ta,tb,ko,tv,to,fn⟩:=by
 intro a b pa ps hb ha hS;rw [show (⟨ka,ta,tb,ko,tv,to,fn⟩:dQ).fn a=fn a from rfl,<- h a] at hb;have bI:(dQ.sa ⟨ka,ta,tb,ko,tv,to,fn⟩ a).length=(abU tb):=Gi _ _;obtain ⟨r,hr,n,v,s,z,bu,hz,hq⟩:=tB zZ (Er zZ 8) hf (Q:=fun (r:fk ko) p sN z'=>z'=[]/\fw (abU tb) p sN=abX/\
  R (dQ.sb ⟨ka,ta,tb,ko,tv,to,fn⟩ r) (dQ.vb ⟨ka,ta,tb,ko,tv,to,fn⟩ r) p/\bL (dQ.sb ⟨ka,ta,tb,ko,tv,to,fn⟩ r) (sN.take (abU tb))/\
  (dQ.sb ⟨ka,ta,tb,ko,tv,to,fn⟩ r).length=(dQ.sa ⟨ka,ta,tb,ko,tv,to,fn⟩ a).length/\
  ∀(t:Nat) (x y:SB),(dQ.sa ⟨ka,ta,tb,ko,tv,to,fn⟩ a)[t]? =abV x->(dQ.sb ⟨ka,ta,tb,ko,tv,to,fn⟩ r)[t]? =abV y->M1 x y) ha hS hb (fun v s' z' p sN sM w' y' hv hS' hk=>by
  cases z' with
  |cons _ _=>cases hk
  |nil=>
   dsimp only at hk;obtain ⟨hc,hk⟩:=bO hk;simp only [rc] at hc;obtain ⟨⟨⟨⟨c1,c2⟩,c3⟩,c4⟩,c5⟩:=hc;obtain ⟨hk,f1,f2⟩:=BH hk;obtain ⟨r,hr,hk⟩:=bc hk;injection hk with hk;have hu:R s' (bif wd then C4 s' v else v) p:=by
    cases wd with
    |true=>exact Ji hv
    |false=>exact hv
   generalize (bif wd then C4 s' v else v)=u at c1 c3 c4 hr hu;have AQ:=lL hr;have hvb:dQ.vb ⟨ka,ta,tb,ko,tv,to,fn⟩ r=u:=by show (oU tv (iF ko r)).1=u;rw [AQ,Ak _ c1]
   have hsb:dQ.sb ⟨ka,ta,tb,ko,tv,to,fn⟩ r=s'.take (abU tb):=by show (v9 to (oU tv (iF ko r)).2).1=_;rw [AQ,Ak _ c1];have:=xD [] c2;rw [abk] at this;rw [this]
   have iC:(abU tb)<=(abU s'):=by
    have:=f1;rw [NE] at this;have h2:(dQ.sa ⟨ka,ta,tb,ko,tv,to,fn⟩ a).length=(abU tb):=bI;have h3:min (abU tb) (abU s')=(abU tb):=by rw [this];exact h2
    omega
   unfold SG at c3;rw [ab1] at c3;have Yq: ∀t∈Hy oP u,t<(abU tb):=fun t ht=>by simpa using c3 t (ab2 _ ht)
   have hkb: ∀b∈s'.take (abU tb),∀t∈Bc b,t<(abU tb):=fun b hb t ht=>by simpa using c3 t (ab0 _ (abK.2 ⟨b,hb,ht⟩))
   have mN:bL (s'.take (abU tb)) (sN.take (abU tb)):=⟨by simp [hS'.len],fun t x hx=>by
    have dA:t<(abU tb):=by have:=(ww.1 hx).1;rw [NE] at this;omega
    have Z5:=hx;rw [pm dA] at Z5;obtain ⟨q,q1,q2⟩:=hS'.at_ t x Z5;refine ⟨q,by rw [pm dA];exact q1,?_⟩;cases x with
    |box cs=>obtain ⟨pc,rfl,hpc⟩:=q2;exact ⟨pc,rfl,RL.BG hpc (hkb _ (ab3 hx))⟩
    |_=>exact q2⟩
   refine ⟨r,hk.symm,rfl,?_,by rw [hvb,hsb];exact R.take hu Yq,by rw [hsb];exact mN,by rw [hsb];exact f1,by rw [hsb];exact f2⟩;unfold fw;rw [ab1];intro t ht;rw [abM] at ht;rcases ht with ht|ht
   · rw [<- MT (bx:=oP) (fun _=>rfl) hu c4] at ht
     simpa using Yq t ht
   rw [abK] at ht
   obtain ⟨q,hq,ht⟩:=ht;obtain ⟨j,hj,he⟩:=List.getElem_of_mem hq;have G5:j<(s'.take (abU tb)).length:=by rw [<- mN.len];exact hj
   obtain ⟨x,hx⟩: ∃x,(s'.take (abU tb))[j]? =abV x:=⟨_,Do G5⟩;obtain ⟨q',q1,q2⟩:=mN.at_ j x hx;rw [Do hj,he] at q1;injection q1 with q1;subst q1;rw [<- Eg q2 (BI c5 j x hx)] at ht;simpa using hkb x (ab3 hx) t ht)
 have TW:b=r:=hr;subst TW;subst hz;refine ⟨n,v,s,bu,?_⟩;rw [bI];obtain ⟨h1,h2,h3,h4,h5⟩:=hq;exact ⟨h1,h2,h3,by rw [h4,bI],h5⟩
theorem HY {f:FuncId} {r:List PT} (hf:F f=abV (.fb abY (dJ (abU r)))) (l:List (RT r)) (hl:(abU l)<=1048576) {as:List PV} {aj:bG} {fz:List Nat} (hex:yj aj (sO aj deep) as=abV [.sl (abU r) abY (l.map (RT.pv r))]):
 ∃n x,bC F (run F n) abY f as aj fz=abV x/\SN .own (abU aj) (ck (bW aj deep) as) (.sl r l) x:=by
 refine ⟨0,{v:= .own (abU aj) (abU r) 0 (abU l) (abU l) abY,news:=[.arr (abU r) (l.map (RT.pv r))],rd:=ck (bW aj deep) as},?_,.sl (abU r) abY (l.map (RT.pv r)),.own (abU aj) (abU r) 0 (abU l) (abU l) abY,[.arr (abU r) (l.map (RT.pv r))],rfl,by simp only [yT,pp],rfl⟩;simp only [bC,hex,hf];cases l with
 |nil=>rfl
 |cons a l=>
  have h2:aaj ((l.map (RT.pv r)).length+1) jb=abX:=by simp [jb] at hl ⊢;omega
  simp only [List.map_cons,dJ,M2,h2,Bool.and_self,if_true,sP];simp [has]
theorem cM.clone {f:FuncId} {n:Nat} {r:List PT} (hf:F f=abV (.fb abY (dJ n))) (hn:n=abU r):cM F f (nC.clone r):=by
 intro (a:List (RT r)) (b:List (RT r)) as pa aj fz hb Fy hex;subst hn;have hb:bD a=abV b:=hb;obtain ⟨rfl,hl⟩:=we hb;have Es:pa=[.sl (abU r) abY (b.map (RT.pv r))]:=by have:abV [PV.sl (abU r) abY (b.map (RT.pv r))]=abV pa:=Fy;exact (v6 this).symm
 subst Es;exact HY hf b hl hex
theorem cM.Jc {f:FuncId} (hf:F f=abV (.fb abY vK)):cM F f nC.Jc:=by
 intro a b as pa aj fz hb Fy hex;obtain ⟨x,y,c⟩:=a;have pI:lK x y c=abV b:=hb;unfold lK at pI;cases hc:(decide (0<=x)&&decide (0<=y)&&decide (0<=c)&&decide (c<=1)) with
 |false=>rw [hc] at pI;cases pI
 |true=>
  rw [hc] at pI;injection pI with pI;subst pI;simp only [rc,decide_eq_true_eq] at hc;obtain ⟨⟨⟨h1,h2⟩,h3⟩,h4⟩:=hc;obtain ⟨x,rfl⟩:=aah h1;obtain ⟨y,rfl⟩:=aah h2;obtain ⟨c,rfl⟩:=aah h3;have Es:pa=[.int .u64 (.ofNat x),.int .u64 (.ofNat y),.int .u64 (.ofNat c)]:=by have:abV [PV.int .u64 (x:Int),.int .u64 (y:Int),.int .u64 (c:Int)]=abV pa:=Fy;exact (v6 this).symm
  subst Es;have hcb:aaj c 1=abX:=by simp;omega
  refine ⟨0,{v:= .bH [.int .u64 (.ofNat ((x+y+c)%18446744073709551616)),.int .u64 (.ofNat ((x+y+c) / 18446744073709551616))],rd:=ck (bW aj deep) as},?_,_,rfl,rfl⟩;show bC F (run F 0) abY f as aj fz=_;simp only [bC,hex,hf,vK,hcb,if_true];rfl
theorem qz.zero {f:FuncId} {c:dQ} (h: ∀a,c.fn a=abW):qz F f c:=fun a b pa ps hb=>by rw [h a] at hb;cases hb
theorem cM.zero {f:FuncId} {c:nC} (h: ∀a,c.fn a=abW):cM F f c:=fun a b as pa aj fz hb=>by rw [h a] at hb;cases hb
theorem cM.T7 {f:FuncId} {fn:Unit->Option Bool} (h:cM F f ⟨ao.nil,Arg.bool,fn,.pure,abY⟩) (hb:fn ()=abV abX):cM F f ⟨ao.nil,Arg.bool,fun _=>abV abX,.pure,abY⟩:=by intro a b as args aj fz hr hp hx;obtain rfl:abX=b:=v6 hr;exact h () abX as args aj fz hb hp hx
end
end Go.Vm
/- What comes in to a law, as typed values; a law from a contract. -/
namespace Go.Vm
open Go.ChangeShapes Go.WideShapes Go.ChangeAt Go.RowKit
def PT.wf:(p:PT)->p.T->Prop
 | .i k,n=>(Lit.int k n).wf=abX
 | .b,_=>True
def RT.wf:(r:List PT)->RT r->Prop
 | [],_=>True
 | [p],a=>p.wf a
 |p::q::r,a=>p.wf a.1/\RT.wf (q::r) a.2
def jM (r:List PT) (vs:List SV):Prop:= ∃a:RT r,vs=RT.sv r a/\RT.wf r a
def KSl (r:List PT) (vs:List SV):Prop:= ∃l:List (RT r),vs=[.sl r l]/\ ∀a∈l,RT.wf r a
def Pv:List (List SV->Prop)->List SV->Prop
 | [],vs=>vs=[]
 |K::Ks,vs=> ∃a b,vs=a++b/\K a/\Pv Ks b
theorem jM.cons {p:PT}: ∀{r:List PT} {a b:List SV},jM [p] a->jM r b->jM (p::r) (a++b)
 | [],a,b,⟨x,hx,wx⟩,⟨y,hy,_⟩=>⟨x,by rw [hx,hy];rfl,wx⟩
 |q::r,a,b,⟨x,hx,wx⟩,⟨y,hy,wy⟩=>⟨(x,y),by rw [hx,hy];rfl,wx,wy⟩
theorem jM.split {p q:PT} {r:List PT} {vs:List SV}:jM (p::q::r) vs-> ∃a b,vs=a++b/\jM [p] a/\jM (q::r) b
 |⟨x,hx,wx⟩=>⟨[p.sv x.1],RT.sv (q::r) x.2,hx,⟨x.1,rfl,wx.1⟩,⟨x.2,rfl,wx.2⟩⟩
theorem jM.app: ∀{r s:List PT} {a b:List SV},jM r a->jM s b->jM (r++s) (a++b)
 | [],s,a,b,⟨x,hx,_⟩,h=>by have:a=[]:=hx;subst this;exact h
 | [p],s,a,b,h,k=>jM.cons h k
 |p::q::r,s,a,b,h,k=>by
  obtain ⟨a1,a2,rfl,h1,h2⟩:=jM.split h
  rw [AC];exact jM.cons h1 (jM.app h2 k)
theorem yW: ∀{rs:List (List PT)} {vs:List SV},Pv (rs.map jM) vs->jM rs.flatten vs
 | [],vs,h=>by have:vs=[]:=h;subst this;exact ⟨(),rfl,trivial⟩
 |r::rs,vs,⟨a,b,h1,h2,h3⟩=>by subst h1;rw [List.flatten_cons];exact jM.app h2 (yW h3)
def fQ (P : Program) (t : TypeId) (K : List SV -> Prop) : Prop :=
  ∀ (H : Type) (enc : TypeId × Value -> H) (w : World) (mO : Nat) (cs : List Value) (x : DataW H × List MemPlace), DataW.trod enc P w 0 (fun _ => abX) abX mO t cs = abV x ->
    ∃ vs q, K vs /\ lx vs = abV q /\ dk (Cz w) cX q cs
section
variable {P : Program}
theorem fQ.mono {t:TypeId} {K K':List SV->Prop} (h:fQ P t K) (hk: ∀vs,K vs->K' vs):fQ P t K':=fun H enc w mO cs x hx=>by obtain ⟨vs,q,h1,h2,h3⟩:=h H enc w mO cs x hx;exact ⟨vs,q,hk vs h1,h2,h3⟩
theorem fQ.int {t:TypeId} {k:IntKind} (ht:P.underlying t=abV (.int k)):fQ P t (jM [.i k]):=fun H enc w mO cs x h=>by obtain ⟨n,rfl,_,hw⟩:=DataW.trod_int ht h;exact ⟨[.int k n],[.int k n],⟨n,rfl,hw⟩,rfl,.cons _ _ _ _ (.int k n) .nil⟩
theorem fQ.bool {t:TypeId} (ht:P.underlying t=abV .bool):fQ P t (jM [.b]):=fun H enc w mO cs x h=>by obtain ⟨b,rfl,_⟩:=DataW.trod_bool ht h;exact ⟨[.bool b],[.bool b],⟨b,rfl,trivial⟩,rfl,.cons _ _ _ _ (.bool b) .nil⟩
def eG (P:Program):List Field->List (List SV->Prop)->Nat->Prop
 | [],[],_=>True
 |f::fs,K::Ks,off=>f.offset=off/\fQ P f.type K/\eG P fs Ks (off+P.cellsOf f.type)
 |_,_,_=>False
theorem eG.nil {off:Nat}:eG P [] [] off:=trivial
theorem eG.cons {f:Field} {fs:List Field} {K:List SV->Prop} {Ks:List (List SV->Prop)} {off:Nat} (h1:f.offset=off) (h2:fQ P f.type K) (h3:eG P fs Ks (off+P.cellsOf f.type)):eG P (f::fs) (K::Ks) off:=⟨h1,h2,h3⟩
def tD (P:Program):List Field->Nat
 | []=>0
 |f::fs=>P.cellsOf f.type+tD P fs
theorem BJ {im:Im} {loc:Loc}: ∀{p:List PV} {vs:List Value} {q:List PV} {us:List Value},dk im loc p vs->dk im loc q us->dk im loc (p++q) (vs++us)
 | [],[],_,_,.nil,h=>h
 |_::_,_::_,_,_,.cons x v xs ws h hs,k=> .cons x v _ _ h (BJ hs k)
theorem BK {H:Type} {enc:TypeId×Value->H} {w:World} {n:Nat} {cs:List Value}: ∀{fs:List Field} {Ks:List (List SV->Prop)} {off:Nat},eG P fs Ks off->abU cs=off+tD P fs->
 (∀f∈fs,∃x,DataW.trod enc P w 0 (fun _=>abX) abX n f.type ((cs.drop f.offset).take (P.cellsOf f.type))=abV x)-> ∃vs q,Pv Ks vs/\lx vs=abV q/\dk (Cz w) cX q (cs.drop off)
 | [],[],off,_,hl,_=>⟨[],[],rfl,rfl,by rw [List.drop_eq_nil_of_le (by simp [tD] at hl;omega)];exact .nil⟩
 |f::fs,K::Ks,off,⟨h1,h2,h3⟩,hl,hx=>by
  obtain ⟨x,Lh⟩:=hx f (by simp);obtain ⟨vs,q,k1,k2,k3⟩:=h2 H enc w n _ x Lh;obtain ⟨GU,q',k1',k2',k3'⟩:=BK (n:=n) h3 (by simp only [tD] at hl;omega) (fun g hg=>hx g (by simp [hg]));refine ⟨vs++GU,q++q',⟨vs,GU,rfl,k1,k1'⟩,wb k2 k2',?_⟩;rw [h1] at k3;have:cs.drop off=(cs.drop off).take (P.cellsOf f.type)++cs.drop (off+P.cellsOf f.type):=by rw [<- List.drop_drop,List.take_append_drop]
  rw [this];exact BJ k3 k3'
 | [],_::_,_,h,_,_=>h.elim
 |_::_,[],_,h,_,_=>h.elim
theorem fQ.struct {t:TypeId} {fs:Array Field} {Ks:List (List SV->Prop)} (ht:P.underlying t=abV (.struct fs)) (hF:eG P fs.toList Ks 0) (hc:P.cellsOf t=tD P fs.toList):fQ P t (Pv Ks):=fun H enc w mO cs x h=>by
 obtain ⟨xs,n,rfl,_,hl,hxl,kC⟩:=DataW.trod_struct ht h;have:=BK (P:=P) (enc:=enc) (w:=w) (n:=n) (cs:=cs) hF (by omega) (fun f hf=>by
  obtain ⟨i,hi,he⟩:=List.mem_iff_getElem.1 hf;have u7:i<fs.size:=by simpa using hi
  have hg:fs[i]? =abV f:=by rw [Array.getElem?_eq_getElem u7];simpa using he
  have:=kC i f hg;rw [Do (by omega)] at this;exact ⟨_,this⟩)
 rwa [List.drop_zero] at this
theorem RT.vrl {r:List PT} {a:RT r} {q:List PV} (h:lx (RT.sv r a)=abV q):q=RT.pv r a:=by rw [RT.C6] at h;exact (v6 h).symm
theorem dk.nth {im:Im} {loc:Loc}: ∀{p:List PV} {vs:List Value},dk im loc p vs-> ∀(k:Nat) (c:PV),p[k]? =abV c-> ∃v,vs[k]? =abV v/\VR im loc c v
 |_::_,_::_,.cons x v xs ws h hs,0,c,hc=>by simp at hc;subst hc;exact ⟨v,by simp,h⟩
 |_::_,_::_,.cons x v xs ws h hs,k+1,c,hc=>by obtain ⟨u,h1,h2⟩:=dk.nth hs k c (by simpa using hc);exact ⟨u,by simpa using h1,h2⟩
theorem fQ.slice {t e:TypeId} {r:List PT} (ht:P.underlying t=abV (.slice e)) (he:fQ P e (jM r)) (hc:P.cellsOf e=abU r) (hr:0<abU r):fQ P t (KSl r):=fun H enc w mO cs x h=>by
 rcases Go.Deep.open_slice ht h with ⟨rfl,_⟩|⟨a,len,cap,m,n,D,Pl,rfl,_,hl,hm,hmm,_,hx⟩
 · exact ⟨[.sl r []],[.sl (abU r) abY []],⟨[],rfl,by simp⟩,rfl,.cons _ _ _ _ (.sl (abU r) abY [] abW 0 (v4 _) (fun h=>by cases h) (fun h=>absurd rfl h)) .nil⟩
 have ye:len<=m:=by rw [hmm];split<;>omega
 have each: ∀i,i<len-> ∃A:RT r,RT.wf r A/\ ∃CP,w.cells? 0 (a.add (i*abU r)) (abU r)=abV CP/\dk (Cz w) cX (RT.pv r A) CP:=by intro i hi;obtain ⟨CP,h1,h2⟩:=hx i (by omega);obtain ⟨vs,q,⟨A,hA,wA⟩,k2,k3⟩:=he H enc w n CP _ h2;subst hA;rw [RT.vrl k2] at k3;rw [hc] at h1;exact ⟨A,wA,CP,h1,k3⟩
 have ch: ∃A:Nat->RT r,∀i,i<len->RT.wf r (A i)/\ ∃CP,w.cells? 0 (a.add (i*abU r)) (abU r)=abV CP/\dk (Cz w) cX (RT.pv r (A i)) CP:=by
  classical
  refine ⟨fun i=>if h:i<len then (each i h).choose else RT.zero r,fun i hi=>?_⟩;simp only [dif_pos hi];exact (each i hi).choose_spec
 obtain ⟨A,hA⟩:=ch;refine ⟨[.sl r ((abD len).map A)],[.sl (abU r) abY (((abD len).map A).map (RT.pv r))],⟨_,rfl,fun x hx=>?_⟩,rfl,.cons _ _ _ _ ?_ .nil⟩
 · obtain ⟨i,hi,rfl⟩:=abS.1 hx
   exact (hA i (List.mem_range.1 hi)).1
 have bI:(((abD len).map A).map (RT.pv r)).length=len:=by simp
 have:=VR.sl (im:=Cz w) (loc:=cX) (abU r) abY (((abD len).map A).map (RT.pv r)) (abV a) cap (by rw [bI];exact hl) (fun h=>by cases h) (fun dK=>by
  have JW:0<len:=by
   rcases abE len with h|h
   · subst h;exact absurd rfl dK
   exact h
  obtain ⟨_,cs0,h0,_⟩:=hA 0 JW;obtain ⟨_,EV,Cr⟩:=abG h0;obtain ⟨b,off,spot⟩:=a;have aak:spot=abW:=by have h1:=Cr 0 hr;rw [Do (by omega)] at h1;simpa [Addr.add] using World.cell?_spot h1
  subst aak;refine ⟨b,off,rfl,fun i row mM=>?_⟩;simp only [List.map_map,List.getElem?_map,aau] at mM;obtain ⟨j,hj,rfl⟩:=mM;have G5:=bM hj;have:j=i:=by rw [List.getElem?_range (by simpa using G5)] at hj;exact (v6 hj).symm
  subst this;have aal:j<len:=by simpa using G5
  obtain ⟨_,CP,h1,h2⟩:=hA j aal;obtain ⟨_,IH,wO⟩:=abG h1;refine ⟨RT.q8 r (A j),fun k c hk=>?_⟩;obtain ⟨v,hv,lh⟩:=dk.nth h2 k c hk;have hkr:k<(abU r):=by
   have:=bM hk
   rwa [Function.comp,RT.q8] at this
  have cc:=wO k hkr;rw [hv] at cc;rw [Go.WideShapes.add_plain,Go.WideShapes.add_plain] at cc;have G4:c.plain=abX:=ab1.1 (RT.plain r (A j)) c (ab3 hk);exact ⟨v,lh.plain G4,Ko cc⟩)
 rw [bI] at this;exact this
theorem fQ.aam {t:TypeId} {fs:Array Field} {K:List SV->Prop} (h:fQ P t K) (ht:P.underlying t=abV (.struct fs)) {H:Type} {enc:TypeId×Value->H} {w:World} {fM:Nat} {v:Value} {d:DataW H} {p:List MemPlace}
 (hv:Value.okWide P w .any fM t v) (hd:DataW.Trod enc P w 0 (fun _=>abX) abX t v d p): ∃vs q,K vs/\lx vs=abV q/\VR (Cz w) cX (.agg q) v:=by
 obtain ⟨cs,rfl,_⟩:=okWide_struct ht hv;obtain ⟨mO,hf⟩:=hd;obtain ⟨vs,q,k1,k2,k3⟩:=h H enc w mO _ _ hf;exact ⟨vs,q,k1,k2,.agg q _ k3⟩
theorem wf_i64 {n:Int} (h:(Lit.int .i64 n).wf=abX): -9223372036854775808<=n/\n<9223372036854775808:=by
 simp only [Lit.wf,rc,decide_eq_true_eq] at h;have e1:IntKind.i64.min= -9223372036854775808:=by decide
 have e2:IntKind.i64.max=9223372036854775807:=by decide
 rw [e1,e2] at h;omega
end
theorem cM.adO {F:jl} {f:FuncId} {x:aG} {α:Type} {A:ao α} {fn:α->Option Bool} (h:cM F f ⟨A,Arg.bool,fn,.pure,abY⟩) (hf:F f=abV (.code x)) {a:α} (hb:fn a=abV abX) {ps:List PV} (hp:lx (A.enc a)=abV ps) (hx:yj [] (sO [] deep) ps=abV ps):
 ∃n s z,run F n (.func f ps [] [])=abV (.func (.bool abX) s z):=by
 obtain ⟨n,r,h1,p,h2,rfl⟩:=h a abX ps ps [] [] hb hp hx;have hp':p= .bool abX:=(v6 h2).symm;subst hp';refine ⟨n,?_⟩;simp only [bC,hx,hf] at h1;split at h1
 · rename_i v s z hr
   simp only [aag,if_false] at h1;split at h1
   · injection h1 with h1
     injection h1 with h1;subst h1;exact ⟨s,z,hr⟩
   rename_i hn
   split at h1
   · rename_i v' hv
     injection h1 with h1;injection h1 with h1;subst h1;exfalso;cases v with
     |bool b=>exact hn rfl
     |int _ _|str _|sl _ _ _=>injection hv with hv;cases hv
     |agg cs=>simp only [uc,aau] at hv;obtain ⟨_,_,hv⟩:=hv;cases hv
     |bH cs=>simp only [uc,aau] at hv;obtain ⟨_,_,hv⟩:=hv;cases hv
     |own t e off len cap ex=>simp only [uc] at hv;split at hv<;>first|(injection hv with hv;cases hv)|cases hv
     |_=>cases hv
   cases h1
 cases h1
end Go.Vm
/- A function that puts the rows of a slice in order: what is asked of it in a program, and that the table's entry is then right. -/
namespace Go.Vm
theorem BL: ∀{p:PT} {x:PV} {a:p.T},xp p x=abV a->x=p.pv a
 | .i k,.int l n,a,h=>by
  have h:(bif dF l k then abV n else abW)=abV a:=h;cases hk:dF l k with
  |false=>rw [hk] at h;cases h
  |true=>rw [hk] at h;obtain rfl:=dy.1 hk;injection h with h;subst h;rfl
 | .b,.bool x,a,h=>by have h:abV x=abV a:=h;injection h with h;subst h;rfl
theorem Dn: ∀{r:List PT} {x:List PV} {a:RT r},CB r x=abV a->x=RT.pv r a
 | [],[],a,h=>rfl
 | [],_::_,a,h=>by cases h
 | [p],[v],a,h=>by rw [BL (show xp p v=abV a from h)];rfl
 | [p],[],a,h=>by cases h
 | [p],_::_::_,a,h=>by cases h
 |p::q::r,[],a,h=>by cases h
 |p::q::r,v::vs,a,h=>by
  have h:(match xp p v,CB (q::r) vs with
   |some a,abV b=>abV (a,b)
   |_,_=>abW)=abV a:=h
  cases h1:xp p v with
  |none=>rw [h1] at h;cases h
  |some x=>
   cases h2:CB (q::r) vs with
   |none=>rw [h1,h2] at h;cases h
   |some y=>rw [h1,h2] at h;injection h with h;subst h;rw [BL h1,Dn h2];rfl
theorem ou {r:List PT}: ∀{x:List (List PV)} {l:List (RT r)},tj r x=abV l->x=l.map (RT.pv r)
 | [],l,h=>by injection h with h;subst h;rfl
 |v::vs,l,h=>by
  have h:(match CB r v,tj r vs with
   |some a,abV l=>abV (a::l)
   |_,_=>abW)=abV l:=h
  cases h1:CB r v with
  |none=>rw [h1] at h;cases h
  |some x=>
   cases h2:tj r vs with
   |none=>rw [h1,h2] at h;cases h
   |some y=>rw [h1,h2] at h;injection h with h;subst h;rw [Dn h1,ou h2];rfl
def T8:Option FuncId->List Value
 |none=>[]
 |some g=>[.func (.func g) ⟨[]⟩ ⟨[]⟩]
structure M8 (P:Program) (f:FuncId) (q:Yz):Prop where
 some_: ∀(b off c:Nat) (l m:List (RT q.r)) (arr:Array Value) (el:TypeId) (w:World),0<abU l->abU l<=c->abU l<=1048576->q.fn l=abV m->abU m=abU l->w.heap[b]? =abV (.cells arr el (0,0))->
  aR (fun k=>arr[k]?) off (abU q.r) (l.map (RT.pv q.r))->off+abU l*abU q.r<=arr.size->
  Calls P f ⟨.slice (abV ⟨b,off,abW⟩) (abU l) c::T8 q.g⟩ w fun x w'=>x= .returned (.tuple #[])/\(∃fin:Array Value,fin.size=arr.size/\w'.heap[b]? =abV (.cells fin el (0,0))/\aR (fun k=>fin[k]?) off (abU q.r) (m.map (RT.pv q.r))/\
   ∀j:Nat,off+abU l*abU q.r<=j->fin[j]? =arr[j]?)/\(∀b':Nat,b'<w.heap.size->b'≠b->w'.heap[b']? =w.heap[b']?)/\w.heap.size<=w'.heap.size/\w'.os=w.os/\Tape w w'/\w'.output=w.output
 none_: ∀(a:Option Addr) (c:Nat) (w:World),Calls P f ⟨.slice a 0 c::T8 q.g⟩ w fun x w'=>x= .returned (.tuple #[])/\w'=w
theorem T9 {im:Im} {loc:Loc} {g:Option FuncId} {r:List PV} {us:List Value} (h:O1 g r=abX) (hu:dk im loc r us):us=T8 g:=by
 unfold O1 at h;split at h
 · cases hu;rfl
 · rename_i g h'
   have:h'=g:=by simpa using h
   subst this;cases hu with
   |cons _ a _ b h1 h2=>
    cases h2;cases h1 with
    |di _ _ _ a2 bs ha hb=>cases ha;cases hb;rfl
 cases h
theorem KM {im:Im} {loc:Loc} {aj:bG} {fz:List Nat} {w w':World} {t e:Nat} {li:LI} {rows ny:List Row} {arr fin:Array Value} {el:TypeId} (gq:SR im loc aj fz w) (hl:loc t=abV li) (bw:aj[t]? =abV (.arr e rows)) (dK:rows≠[]) (hf:has fz t=abY)
 (_ha:w.heap[li.cB]? =abV (.cells arr el (0,0))) (hw:w'.heap[li.cB]? =abV (.cells fin el (0,0))) (oe: ∀b':Nat,b'<w.heap.size->b'≠li.cB->w'.heap[b']? =w.heap[b']?) (lq:w.heap.size<=w'.heap.size) (ho:w'.os=w.os) (ht:Tape w w') (hp:w'.output=w.output)
 (he:li.esz=e) (hn:li.n=abU ny) (bI:(abU ny)=abU rows) (hfs:fin.size=li.sz) (uV:li.sh+abU ny*e<=li.sz) (hr:aR (fun k=>fin[k]?) li.sh e ny):
 oj im loc aj w (.bH []) (aj.set t (.arr e ny)) fz im loc w' (.tuple #[]):=by
 have Kc:t<(abU aj):=(ww.1 bw).1;have zT:ny≠[]:=by intro h;subst h;rw [List.length_nil] at bI;exact dK (ut.1 bI.symm)
 have D0:(gY.arr e rows).ba=abX:=jV dK;have hs1:(gY.arr e ny).ba=abX:=jV zT;have w5:=gq.free t li _ hl bw D0 hf;have old: ∀{u:Nat} {k:gY},(aj.set t (.arr e ny))[u]? =abV k->(u=t/\k= .arr e ny)\/(u≠t/\aj[u]? =abV k):=by
  intro u k h;rw [abH] at h;split at h
  · rename_i e1;subst e1;first|(rw [ol Kc] at h;injection h with h;exact .inl ⟨rfl,h.symm⟩)|(injection h with h;exact .inl ⟨rfl,h.symm⟩)
  rename_i dK;exact .inr ⟨fun e=>dK e.symm,h⟩
 have sol: ∀{u:Nat} {k:gY},(aj.set t (.arr e ny))[u]? =abV k->k.ba=abX-> ∃k0,aj[u]? =abV k0/\k0.ba=abX:=by
  intro u k h hs;rcases old h with ⟨rfl,rfl⟩|⟨_,h⟩
  · exact ⟨_,bw,D0⟩
  exact ⟨k,h,hs⟩
 have lt: ∀{b:Nat} {o:Obj},w.heap[b]? =abV o->b<w.heap.size:=fun h=>(IR.1 h).1
 exact {
  eE:= .refl _,cD:= .refl _
  vr:= .bH _ _ .nil
  sr:={
   aS:=fun b o hb=>by
    have h1:=gq.aS b o hb;have h2:b≠li.cB:=fun h=>by rw [h,w5] at hb;cases hb
    rw [oe b (lt h1) h2];exact h1
   cB:=fun u lu hu=>by
    obtain ⟨k,hk,hb⟩:=gq.cB u lu hu
    by_cases e1:u=t
    · subst e1
      rw [hl] at hu;injection hu with hu;subst hu;exact ⟨_,List.getElem?_set_self Kc,he,hn,fun _=>⟨fin,el,hw,hfs,uV,hr⟩⟩
    refine ⟨k,by rw [List.getElem?_set_ne (fun h=>e1 h.symm)];exact hk,hb.eg (.refl _) (.refl _) fun hs=>?_⟩
    exact oe _ (hb.lt hs) fun h=>e1 (gq.fx _ _ _ _ _ _ hu hl hk bw hs D0 h)
   fx:=fun u v lu lv k k' hu hv hk IY hs qj h=>by obtain ⟨k0,a,b⟩:=sol hk hs;obtain ⟨k1,c,d⟩:=sol IY qj;exact gq.fx _ _ _ _ _ _ hu hv a c b d h
   free:=fun u lu k hu hk hs hz=>by obtain ⟨k0,a,b⟩:=sol hk hs;exact gq.free _ _ _ hu a b hz}
  os:=ho,tape:=ht,output:=hp,size:=lq
  frame:=fun b hb h=>oe b hb fun h2=>h t li _ hl bw D0 h2.symm
  cI:=fun b o h=> .inl h
  jw:=fun u lu h=> .inl h
  own:=fun u lu k hu hk hs=>by obtain ⟨k0,a,b⟩:=sol hk hs;exact .inr ⟨u,lu,k0,hu,a,b,rfl⟩}
theorem HZ {im:Im} {loc:Loc} {aj:bG} {fz:List Nat} {w:World} (gq:SR im loc aj fz w):oj im loc aj w (.bH []) aj fz im loc w (.tuple #[]) where
 eE:= .refl _
 cD:= .refl _
 vr:= .bH _ _ .nil
 sr:=gq
 os:=rfl
 tape:= .refl _
 output:=rfl
 size:=v4 _
 frame:=fun _ _ _=>rfl
 cI:=fun _ _ h=> .inl h
 jw:=fun _ _ h=> .inl h
 own:=fun t li k hl hk hs=> .inr ⟨t,li,k,hl,hk,hs,rfl⟩
theorem J6.srt {P:Program} {f:FuncId} {q:Yz} {fn:Func} {c:Code} (hf:P.funcs[f]? =abV fn) (jX:(fn.name== "runtime.NumGoroutine")=abY) (hb:fn.body=abV c) (h0:q.fn []=abV []) (H:M8 P f q):J6 P f (Mv q):=by
 refine ⟨fn,c,hf,jX,hb,?_⟩;intro args aj fz v qV EW hp im loc w us gq sq;unfold Mv at hp;split at hp
 case h_2=>cases hp
 rename_i t e1 off len cap ex r;split at hp
 case h_2=>cases hp
 rename_i e3 rows bw;split at hp
 case isFalse=>cases hp
 rename_i hc;simp only [rc,ab7,If,Nat.ble_eq] at hc;obtain ⟨⟨⟨⟨⟨q1,rfl⟩,bI⟩,jo⟩,Lu⟩,hg⟩:=hc;subst q1;have jo:len<=1048576:=jo;split at hp
 case h_2=>cases hp
 rename_i l EV;split at hp
 case h_2=>cases hp
 rename_i m hm;split at hp
 case isFalse=>cases hp
 rename_i Cp;have Cp:(abU m)=(abU l):=by simpa using Cp
 injection hp with hp;simp only [PP] at hp;obtain ⟨rfl,rfl,rfl⟩:=hp;have fP:=ou EV;have vQ:(abU l)=len:=by have:=congrArg List.length fP;rw [NE,pp] at this;omega
 obtain ⟨x0,Sp,rfl,FO,sq⟩: ∃x0 Sp,us=x0::Sp/\VR im loc (.own t (abU q.r) 0 len cap ex) x0/\dk im loc r Sp:=by cases sq with|cons _ a _ b h1 h2=>exact ⟨a,b,rfl,h1,h2⟩
 obtain rfl:=T9 hg sq;obtain ⟨li,a,bZ,rfl,hl,he,zR,hlc,IF,_,zU⟩:=FO.fI;obtain ⟨k1,fL,oS⟩:=gq.cB t li hl;rw [bw] at fL;injection fL with fL;subst fL;obtain ⟨b1,b2,b3⟩:=oS;obtain rfl:(abU q.r)=e3:=by rw [<- b1,he]
 refine .inr ⟨dP hf jX hb,?_⟩;rcases abE len with hz|JW
 · subst hz
   obtain rfl:l=[]:=ut.1 vQ;rw [h0] at hm;injection hm with hm;subst hm;refine (H.none_ a bZ w).mono fun x w' ⟨hx,hw⟩=>⟨_,hx,im,loc,?_⟩
   subst hw;have:aj.set t (.arr (abU q.r) (([]:List (RT q.r)).map (RT.pv q.r)++rows.drop 0))=aj:=by
    apply List.ext_getElem?;intro j;rw [abH];split
    · rename_i e;subst e;rw [ol (ww.1 bw).1,bw];rfl
    rfl
   rw [this];exact HZ gq
 have kB:rows≠[]:=by intro h;subst h;simp at bI;omega
 obtain ⟨arr,el,o6,DO,EU,cm⟩:=b3 kB;obtain ⟨OA,rfl,uV⟩:li.n≠0/\a=abV ⟨li.cB,li.sh,abW⟩/\li.sh+bZ*abU q.r<=li.sz:=by
  rcases zU with h|⟨h1,h2,h3⟩
  · omega
  exact ⟨h1,by simpa using h2,by simpa using h3⟩
 have iC:len*abU q.r<=abU rows*(abU q.r):=ab4 _ bI;subst vQ;refine (H.some_ li.cB li.sh bZ l m arr el w JW (by omega) (by omega) hm Cp o6 (by rw [<- fP];exact cm.take _) (by omega)).mono fun x w' ⟨hx,⟨fin,f1,f2,f3,f4⟩,oe,lq,ho,ZQ,ZR⟩=>⟨_,hx,im,loc,?_⟩
 have hL:(m.map (RT.pv q.r)++rows.drop (abU l)).length=(abU rows):=by simp only [ab8,pp,ab9,Cp];omega
 refine KM gq hl bw kB Lu o6 f2 oe lq ho ZQ ZR b1 (by rw [hL];exact b2) hL (by rw [f1];exact DO) (by rw [hL];exact EU) ?_;refine f3.append ?_;rw [pp,Cp];intro i r hr;obtain ⟨g1,g2⟩:=(cm.drop (abU l)) i r hr;refine ⟨g1,fun j c hc=>?_⟩;obtain ⟨v,v1,v2⟩:=g2 j c hc;refine ⟨v,v1,?_⟩;show fin[_]? =abV v;rw [f4 _ (by omega)];exact v2
end Go.Vm
/- A function that makes one new block of rows out of a slice's rows: the table's entry; and the law of a range over a function whose body never leaves. -/
namespace Go
open Go.RowKit
theorem yX {α:Type}: ∀(k:Ask α) (w:World),w.drawn<=(w.ask k).2.drawn
 | .done a,w=>v4 _
 | .ask aiZ range k,w=>by
  simp only [World.ask];split
  · exact yX _ w
  exact wn (Nat.le_succ _) (yX _ {w with drawn:=w.drawn+1})
theorem KN (w:World) (c:Sys):w.drawn<=(w.sys c).2.drawn:=by
 have:=yX (Kernel.perform c w.os) w;unfold World.sys;split
 · exact v4 _
 rename_i h;rw [h] at this;exact this
theorem BM {p:Program} {w w':World} {a:Addr} {v:Value} {b:Bool} {l:List Addr} (h:w.farStore p a v b= .ok (w',l)):w'.drawn=w.drawn:=by
 unfold World.farStore at h;split at h
 · split at h
   · rename_i r hr
     injection h with h;subst h;unfold World.viewStore at hr;simp only [bind,Except.bind,pure,Except.pure] at hr
     repeat' split at hr
     all_goals first|(injection hr with hr;injection hr with hr _;subst hr;rfl)|(cases hr;done)|(cases hr;rfl)
   cases h
 cases h
theorem KO {α:Type} {p:Program}: ∀(m:Sem α) {w w':World} {a:α},m.run p w= .ok a w'->w.drawn<=w'.drawn:=by
 intro m
 induction m with
 |pure a=>intro w w' b h;injection h with _ h;subst h;exact v4 _
 |load m a k ih=>
  intro w w' b h;unfold abN at h;split at h
  · exact ih _ h
  split at h
  · exact ih _ h
  cases h
 |store m a v k ih=>
  intro w w' b h;cases v<;>(unfold abN at h;first|cases h|(
   split at h
   · split at h
     · cases h
     refine wn (ab6 ?_) (ih h);rfl
   split at h
   · rename_i hf;exact wn (ab6 (BM hf).symm) (ih h)
   cases h))
 |new o k ih=>intro w w' b h;refine wn (ab6 ?_) (ih _ h);rfl
 |shape r k ih=>intro w w' b h;exact ih _ h
 |freeze a n k ih=>intro w w' b h;refine wn (ab6 ?_) (ih h);unfold World.freeze;split<;>rfl
 |frozen a k ih=>intro w w' b h;exact ih _ h
 |getObj r k ih=>
  intro w w' b h;unfold abN at h;split at h
  · cases h
  · exact ih _ h
  cases h
 |setObj r o k ih=>
  intro w w' b h;unfold abN at h;split at h
  · cases h
  · refine wn (ab6 ?_) (ih h);rfl
  cases h
 |choose q k ih=>
  intro w w' b h;unfold abN at h;split at h
  · exact ih _ h
  refine wn (Nat.le_succ w.drawn) ?_
  exact ih _ h
 |sys c k ih=>intro w w' b h;exact wn (KN w c) (ih _ h)
 |program k ih=>intro w w' b h;exact ih _ h
 |mark m k ih=>intro w w' b h;exact ih h
 |halt h=>intro w w' b h;cases h
end Go
namespace Go.Vm
open Go.RowKit
def pMk (q r:List PT) (fn:List (RT q)->Option (List (RT r))):List PV->Option (PV×bG)
 | [.agg [.sl e _ rows]]=>if EQ e (abU q)||rows.isEmpty then (match tj q rows with
  |some l=>match fn l with
   |some m=>abV (.own 0 (abU r) 0 (abU m) (abU m) abY,[.arr (abU r) (m.map (RT.pv r))])
   |none=>abW
  |none=>abW) else abW
 |_=>abW
def Pw (P : Program) (f : FuncId) (q r : List PT) (fn : List (RT q) -> Option (List (RT r))) : Prop :=
  ∀ (a : Option Addr) (c : Nat) (l : List (RT q)) (m : List (RT r)) (w : World), fn l = abV m -> (abU l) <= c ->
    (l ≠ [] -> ∃ b o, a = abV ⟨b, o, abW⟩ /\ aR (fun k => w.cell? ⟨b, k, abW⟩) o (abU q) (l.map (RT.pv q))) ->
    Calls P f #[.agg #[.slice a (abU l) c]] w fun x w' =>
      (m = [] /\ x = .returned (.slice abW 0 0) \/ m ≠ [] /\ ∃ g c' fin el, x = .returned (.slice (abV ⟨g, 0, abW⟩) (abU m) c') /\ w.heap.size <= g /\ w'.heap[g]? = abV (.cells fin el (0, 0)) /\
        (abU m) <= c' /\ c' * (abU r) <= fin.size /\ aR (fun k => fin[k]?) 0 (abU r) (m.map (RT.pv r))) /\ Below w.heap.size w w' /\ w.drawn <= w'.drawn
def tF (li:LI):Loc:=fun t=>if t=0 then abV li else abW
theorem uD {im:Im} {w w':World} {v:PV} {u:Value} {e:Nat} {rows:List Row} {li:LI} (gq:SR im cX [] [] w) (hb:Below w.heap.size w w') (hd:w.drawn<=w'.drawn) (he:li.esz=e) (hn:li.n=abU rows)
 (hr:rows≠[]->w.heap.size<=li.cB/\ ∃cs el,w'.heap[li.cB]? =abV (.cells cs el (0,0))/\cs.size=li.sz/\li.sh+abU rows*e<=li.sz/\aR (fun k=>cs[k]?) li.sh e rows)
 (hv:VR im (tF li) v u):oj im cX [] w v [.arr e rows] [] im (tF li) w' u:=by
 have T7: ∀{t:Nat} {l:LI},tF li t=abV l->t=0/\l=li:=fun {t l} h=>by
  unfold tF at h;split at h
  · rename_i e;injection h with h;exact ⟨e,h.symm⟩
  cases h
 have lt: ∀{b:Nat} {o:Obj},w.heap[b]? =abV o->b<w.heap.size:=fun h=>(IR.1 h).1
 have ne: ∀{k:gY},([.arr e rows]:bG)[0]? =abV k->k.ba=abX->rows≠[]:=fun h hs=>by injection h with h;subst h;intro h0;subst h0;cases hs
 exact {
  eE:= .refl _
  cD:=fun t l h=>by cases h
  vr:=hv
  sr:={
   aS:=fun b o h=>by have h1:=gq.aS b o h;rw [hb.block b (lt h1)];exact h1
   cB:=fun t l h=>by obtain ⟨rfl,rfl⟩:=T7 h;exact ⟨_,rfl,he,hn,fun h0=>(hr h0).2⟩
   fx:=fun t u l l' k k' h h' _ _ _ _ _=>(T7 h).1.trans (T7 h').1.symm
   free:=fun t l k h hk hs _=>by
    obtain ⟨rfl,rfl⟩:=T7 h;cases hi:im l.cB with
    |none=>rfl
    |some o=>have:=lt (gq.aS _ _ hi);have:=(hr (ne hk hs)).1;omega}
  os:=hb.os
  tape:=⟨hb.tape,hd⟩
  output:=hb.output
  size:=hb.size
  frame:=fun b h _=>hb.block b h
  cI:=fun b o h=> .inl h
  jw:=fun t l h=> .inr (Nat.zero_le _)
  own:=fun t l k h hk hs=>by obtain ⟨rfl,rfl⟩:=T7 h;exact .inl (hr (ne hk hs)).1}
theorem nm.mk {P:Program} {f:FuncId} {q r:List PT} {fn:List (RT q)->Option (List (RT r))} {F:Func} {c:Code} (hf:P.funcs[f]? =abV F) (jX:(F.name== "runtime.NumGoroutine")=abY) (hb:F.body=abV c)
 (H:Pw P f q r fn):nm P f (pMk q r fn):=by
 intro args v news hp im w us gq sq;unfold pMk at hp;split at hp
 case h_2=>cases hp
 rename_i e cl rows;split at hp
 case isFalse=>cases hp
 rename_i hc;split at hp
 case h_2=>cases hp
 rename_i l hl;split at hp
 case h_2=>cases hp
 rename_i m hm;injection hp with hp;simp only [PP] at hp;obtain ⟨rfl,rfl⟩:=hp;have fP:=ou hl;have bI:(abU rows)=(abU l):=by rw [fP,pp]
 obtain ⟨u,rfl,hu⟩: ∃u,us=[u]/\VR im cX (.agg [.sl e cl rows]) u:=by cases sq with|cons _ a _ b h1 h2=>cases h2;exact ⟨a,rfl,h1⟩
 obtain ⟨a,cap,rfl,ni,hh⟩: ∃a cap,u= .agg #[.slice a (abU rows) cap]/\abU rows<=cap/\(rows≠[]-> ∃b o,a=abV ⟨b,o,abW⟩/\aR (gL im b) o e rows):=by
  cases hu with
  |agg _ vs h=>
   cases h with
   |cons _ s _ b h1 h2=>
    cases h2;cases h1 with
    |sl _ _ _ a cap ni hk hh=>exact ⟨a,cap,rfl,ni,hh⟩
 rw [bI] at ni ⊢;refine .inr ⟨dP hf jX hb,(H a cap l m w hm ni fun dK=>?_).mono ?_⟩
 · have zT:rows≠[]:=fun h0=>dK (ut.1 (by rw [<- bI,h0];rfl))
   obtain ⟨b,o,rfl,hr⟩:=hh zT;have he:e=(abU q):=by
    rw [UV] at hc;rcases hc with hc|hc
    · exact ab7▸hc
    exact absurd (abb.1 hc) zT
   subst he;refine ⟨b,o,rfl,?_⟩;rw [<- fP];refine hr.mono fun k v hk=>?_
   unfold gL at hk;split at hk
   · rename_i cs _ _ hi
     have:=gq.aS _ _ hi;simp only [abL,this];exact hk
   cases hk
 rintro x w' ⟨hx,FF,hd⟩
 rcases hx with ⟨rfl,rfl⟩|⟨Ze,g,c',fin,el,rfl,hg,hw,wO,Ac,hr⟩
 · exact ⟨_,rfl,im,tF ⟨0,0,abU r,0,0⟩,uD gq FF hd rfl rfl (fun h=>absurd rfl h) (.own 0 (abU r) 0 0 0 abY ⟨0,0,abU r,0,0⟩ abW 0 rfl rfl (v4 _) (v4 _) (v4 _) (fun h=>by cases h) (.inl rfl))⟩
 have Cp:(m.map (RT.pv r)).length=(abU m):=pp _
 have iC:(abU m)*abU r<=c'*(abU r):=ab4 _ wO;refine ⟨_,rfl,im,tF ⟨g,0,abU r,abU m,fin.size⟩,uD gq FF hd rfl Cp.symm (fun _=>⟨hg,fin,el,hw,rfl,by show 0+(m.map (RT.pv r)).length*abU r<=fin.size;rw [Cp,abT];exact wn iC Ac,hr⟩) (.own 0 (abU r) 0 (abU m) (abU m) abY ⟨g,0,abU r,abU m,fin.size⟩ (abV ⟨g,0,abW⟩) c' rfl rfl (by simp) (v4 _) wO (fun h=>by cases h) (.inr ⟨fun h=>Ze (ut.1 h),by simp,by simpa using Ac⟩))⟩
theorem cM.rows {F:jl} {f:FuncId} {α:Type} {A:Arg α} {q r:List PT} {g:α->List (RT q)} {fn:List (RT q)->Option (List (RT r))} (hf:F f=abV (.fb abY (pMk q r fn)))
 (hA: ∀a,nB (A.enc a)=abV (.agg [.sl (abU q) abY ((g a).map (RT.pv q))])):cM F f (nC.rows A q r g fn):=by
 intro (a:α) (b:List (RT r)) a2 pa aj fz hb Fy hex;have hb:fn (g a)=abV b:=hb;have Es:pa=[.agg [.sl (abU q) abY ((g a).map (RT.pv q))]]:=by have:lx [A.enc a]=abV pa:=Fy;simp only [lx,hA] at this;exact (v6 this).symm
 subst Es;refine ⟨0,{v:= .own (abU aj) (abU r) 0 (abU b) (abU b) abY,news:=[.arr (abU r) (b.map (RT.pv r))],rd:=ck (bW aj deep) a2},?_,.sl (abU r) abY (b.map (RT.pv r)),.own (abU aj) (abU r) 0 (abU b) (abU b) abY,[.arr (abU r) (b.map (RT.pv r))],rfl,by simp only [yT,pp],rfl⟩;show bC F (run F 0) abY f a2 aj fz=_;simp only [bC,hex,hf,pMk,M2,abI,if_true,tC,hb,sP];simp [has]
end Go.Vm
/- Functions of a number and a slice in a struct, as entries of the table: rows, or a truth value, come out. -/
namespace Go.Vm
open Go.RowKit
def Gj (q r:List PT) (fn:Int->List (RT q)->Option (List (RT r))):List PV->Option (PV×bG)
 | [.agg [.int .i64 i,.sl e _ rows]]=>if EQ e (abU q)||rows.isEmpty then (match tj q rows with
  |some l=>match fn i l with
   |some m=>abV (.own 0 (abU r) 0 (abU m) (abU m) abY,[.arr (abU r) (m.map (RT.pv r))])
   |none=>abW
  |none=>abW) else abW
 |_=>abW
def Gk (q:List PT) (fn:Int->List (RT q)->Option Bool):List PV->Option (PV×bG)
 | [.agg [.int .i64 i,.sl e _ rows]]=>if EQ e (abU q)||rows.isEmpty then (match tj q rows with
  |some l=>match fn i l with
   |some b=>abV (.bool b,[])
   |none=>abW
  |none=>abW) else abW
 |_=>abW
def Gl (P : Program) (f : FuncId) (q r : List PT) (fn : Int -> List (RT q) -> Option (List (RT r))) : Prop :=
  ∀ (i : Int) (a : Option Addr) (c : Nat) (l : List (RT q)) (m : List (RT r)) (w : World), fn i l = abV m -> (abU l) <= c ->
    (l ≠ [] -> ∃ b o, a = abV ⟨b, o, abW⟩ /\ aR (fun k => w.cell? ⟨b, k, abW⟩) o (abU q) (l.map (RT.pv q))) ->
    Calls P f #[.agg #[.int .i64 i, .slice a (abU l) c]] w fun x w' =>
      (m = [] /\ x = .returned (.slice abW 0 0) \/ m ≠ [] /\ ∃ g c' fin el, x = .returned (.slice (abV ⟨g, 0, abW⟩) (abU m) c') /\ w.heap.size <= g /\ w'.heap[g]? = abV (.cells fin el (0, 0)) /\
        (abU m) <= c' /\ c' * (abU r) <= fin.size /\ aR (fun k => fin[k]?) 0 (abU r) (m.map (RT.pv r))) /\ Below w.heap.size w w' /\ w.drawn <= w'.drawn
def Gm (P : Program) (f : FuncId) (q : List PT) (fn : Int -> List (RT q) -> Option Bool) : Prop :=
  ∀ (i : Int) (a : Option Addr) (c : Nat) (l : List (RT q)) (v : Bool) (w : World), fn i l = abV v -> (abU l) <= c ->
    (l ≠ [] -> ∃ b o, a = abV ⟨b, o, abW⟩ /\ aR (fun k => w.cell? ⟨b, k, abW⟩) o (abU q) (l.map (RT.pv q))) ->
    Calls P f #[.agg #[.int .i64 i, .slice a (abU l) c]] w fun x w' => x = .returned (.bool v) /\ Below w.heap.size w w' /\ w.drawn <= w'.drawn
theorem nm.mkT {P:Program} {f:FuncId} {q r:List PT} {fn:Int->List (RT q)->Option (List (RT r))} {F:Func} {c:Code} (hf:P.funcs[f]? =abV F) (jX:(F.name== "runtime.NumGoroutine")=abY) (hb:F.body=abV c)
 (H:Gl P f q r fn):nm P f (Gj q r fn):=by
 intro args v news hp im w us gq sq;unfold Gj at hp;split at hp
 case h_2=>cases hp
 rename_i i0 e cl rows;split at hp
 case isFalse=>cases hp
 rename_i hc;split at hp
 case h_2=>cases hp
 rename_i l hl;split at hp
 case h_2=>cases hp
 rename_i m hm;injection hp with hp;simp only [PP] at hp;obtain ⟨rfl,rfl⟩:=hp;have fP:=ou hl;have bI:(abU rows)=(abU l):=by rw [fP,pp]
 obtain ⟨u,rfl,hu⟩: ∃u,us=[u]/\VR im cX (.agg [.int .i64 i0,.sl e cl rows]) u:=by cases sq with|cons _ a _ b h1 h2=>cases h2;exact ⟨a,rfl,h1⟩
 obtain ⟨a,cap,rfl,ni,hh⟩: ∃a cap,u= .agg #[.int .i64 i0,.slice a (abU rows) cap]/\abU rows<=cap/\(rows≠[]-> ∃b o,a=abV ⟨b,o,abW⟩/\aR (gL im b) o e rows):=by
  cases hu with
  |agg _ vs h=>
   cases h with
   |cons _ s0 _ b0 h0 h3=>
    obtain rfl:=h0.ec;cases h3 with
    |cons _ s _ b h1 h2=>
     cases h2;cases h1 with
     |sl _ _ _ a cap ni hk hh=>exact ⟨a,cap,rfl,ni,hh⟩
 rw [bI] at ni ⊢;refine .inr ⟨dP hf jX hb,(H i0 a cap l m w hm ni fun dK=>?_).mono ?_⟩
 · have zT:rows≠[]:=fun h0=>dK (ut.1 (by rw [<- bI,h0];rfl))
   obtain ⟨b,o,rfl,hr⟩:=hh zT;have he:e=(abU q):=by
    rw [UV] at hc;rcases hc with hc|hc
    · exact ab7▸hc
    exact absurd (abb.1 hc) zT
   subst he;refine ⟨b,o,rfl,?_⟩;rw [<- fP];refine hr.mono fun k v hk=>?_
   unfold gL at hk;split at hk
   · rename_i cs _ _ hi
     have:=gq.aS _ _ hi;simp only [abL,this];exact hk
   cases hk
 rintro x w' ⟨hx,FF,hd⟩
 rcases hx with ⟨rfl,rfl⟩|⟨Ze,g,c',fin,el,rfl,hg,hw,wO,Ac,hr⟩
 · exact ⟨_,rfl,im,tF ⟨0,0,abU r,0,0⟩,uD gq FF hd rfl rfl (fun h=>absurd rfl h) (.own 0 (abU r) 0 0 0 abY ⟨0,0,abU r,0,0⟩ abW 0 rfl rfl (v4 _) (v4 _) (v4 _) (fun h=>by cases h) (.inl rfl))⟩
 have Cp:(m.map (RT.pv r)).length=(abU m):=pp _
 have iC:(abU m)*abU r<=c'*(abU r):=ab4 _ wO;refine ⟨_,rfl,im,tF ⟨g,0,abU r,abU m,fin.size⟩,uD gq FF hd rfl Cp.symm (fun _=>⟨hg,fin,el,hw,rfl,by show 0+(m.map (RT.pv r)).length*abU r<=fin.size;rw [Cp,abT];exact wn iC Ac,hr⟩) (.own 0 (abU r) 0 (abU m) (abU m) abY ⟨g,0,abU r,abU m,fin.size⟩ (abV ⟨g,0,abW⟩) c' rfl rfl (by simp) (v4 _) wO (fun h=>by cases h) (.inr ⟨fun h=>Ze (ut.1 h),by simp,by simpa using Ac⟩))⟩
theorem H0 {im : Im} {w w' : World} {v : PV} {u : Value} (gq : SR im cX [] [] w) (hb : Below w.heap.size w w') (hd : w.drawn <= w'.drawn) (hv : VR im cX v u) : oj im cX [] w v [] [] im cX w' u :=
  have lt : ∀ {b : Nat} {o : Obj}, w.heap[b]? = abV o -> b < w.heap.size := fun h => (IR.1 h).1
  { eE := .refl _
    cD := fun t l h => h
    vr := hv
    sr := {
      aS := fun b o h => by
        have h1 := gq.aS b o h
        rw [hb.block b (lt h1)]; exact h1
      cB := fun t l h => by cases h
      fx := fun t u l l' k k' h => by cases h
      free := fun t l k h => by cases h }
    os := hb.os
    tape := ⟨hb.tape, hd⟩
    output := hb.output
    size := hb.size
    frame := fun b h _ => hb.block b h
    cI := fun b o h => .inl h
    jw := fun t l h => by cases h
    own := fun t l k h => by cases h }
theorem nm.YG {P:Program} {f:FuncId} {q:List PT} {fn:Int->List (RT q)->Option Bool} {F:Func} {c:Code} (hf:P.funcs[f]? =abV F) (jX:(F.name== "runtime.NumGoroutine")=abY) (hb:F.body=abV c)
 (H:Gm P f q fn):nm P f (Gk q fn):=by
 intro args v news hp im w us gq sq;unfold Gk at hp;split at hp
 case h_2=>cases hp
 rename_i i0 e cl rows;split at hp
 case isFalse=>cases hp
 rename_i hc;split at hp
 case h_2=>cases hp
 rename_i l hl;split at hp
 case h_2=>cases hp
 rename_i m hm;injection hp with hp;simp only [PP] at hp;obtain ⟨rfl,rfl⟩:=hp;have fP:=ou hl;have bI:(abU rows)=(abU l):=by rw [fP,pp]
 obtain ⟨u,rfl,hu⟩: ∃u,us=[u]/\VR im cX (.agg [.int .i64 i0,.sl e cl rows]) u:=by cases sq with|cons _ a _ b h1 h2=>cases h2;exact ⟨a,rfl,h1⟩
 obtain ⟨a,cap,rfl,ni,hh⟩: ∃a cap,u= .agg #[.int .i64 i0,.slice a (abU rows) cap]/\abU rows<=cap/\(rows≠[]-> ∃b o,a=abV ⟨b,o,abW⟩/\aR (gL im b) o e rows):=by
  cases hu with
  |agg _ vs h=>
   cases h with
   |cons _ s0 _ b0 h0 h3=>
    obtain rfl:=h0.ec;cases h3 with
    |cons _ s _ b h1 h2=>
     cases h2;cases h1 with
     |sl _ _ _ a cap ni hk hh=>exact ⟨a,cap,rfl,ni,hh⟩
 rw [bI] at ni ⊢;refine .inr ⟨dP hf jX hb,(H i0 a cap l m w hm ni fun dK=>?_).mono ?_⟩
 · have zT:rows≠[]:=fun h0=>dK (ut.1 (by rw [<- bI,h0];rfl))
   obtain ⟨b,o,rfl,hr⟩:=hh zT;have he:e=(abU q):=by
    rw [UV] at hc;rcases hc with hc|hc
    · exact ab7▸hc
    exact absurd (abb.1 hc) zT
   subst he;refine ⟨b,o,rfl,?_⟩;rw [<- fP];refine hr.mono fun k v hk=>?_
   unfold gL at hk;split at hk
   · rename_i cs _ _ hi
     have:=gq.aS _ _ hi;simp only [abL,this];exact hk
   cases hk
 rintro x w' ⟨rfl,FF,hd⟩
 exact ⟨_,rfl,im,cX,H0 gq FF hd (.bool m)⟩
def nC.Jq {α:Type} (A:Arg α) (q r:List PT) (i:α->Int) (g:α->List (RT q)) (fn:Int->List (RT q)->Option (List (RT r))):nC:=⟨.one A,.sl r,fun a=>fn (i a) (g a),.own,abY⟩
def nC.YG {α:Type} (A:Arg α) (q:List PT) (i:α->Int) (g:α->List (RT q)) (fn:Int->List (RT q)->Option Bool):nC:=⟨.one A,.bool,fun a=>fn (i a) (g a),.pure,abY⟩
theorem cM.Jq {F:jl} {f:FuncId} {α:Type} {A:Arg α} {q r:List PT} {i:α->Int} {g:α->List (RT q)} {fn:Int->List (RT q)->Option (List (RT r))} (hf:F f=abV (.fb abY (Gj q r fn)))
 (hA: ∀a,nB (A.enc a)=abV (.agg [.int .i64 (i a),.sl (abU q) abY ((g a).map (RT.pv q))])):cM F f (nC.Jq A q r i g fn):=by
 intro (a:α) (b:List (RT r)) a2 pa aj fz hb Fy hex;have hb:fn (i a) (g a)=abV b:=hb;have Es:pa=[.agg [.int .i64 (i a),.sl (abU q) abY ((g a).map (RT.pv q))]]:=by have:lx [A.enc a]=abV pa:=Fy;simp only [lx,hA] at this;exact (v6 this).symm
 subst Es;refine ⟨0,{v:= .own (abU aj) (abU r) 0 (abU b) (abU b) abY,news:=[.arr (abU r) (b.map (RT.pv r))],rd:=ck (bW aj deep) a2},?_,.sl (abU r) abY (b.map (RT.pv r)),.own (abU aj) (abU r) 0 (abU b) (abU b) abY,[.arr (abU r) (b.map (RT.pv r))],rfl,by simp only [yT,pp],rfl⟩;show bC F (run F 0) abY f a2 aj fz=_;simp only [bC,hex,hf,Gj,M2,abI,if_true,tC,hb,sP];simp [has]
theorem cM.YG {F:jl} {f:FuncId} {α:Type} {A:Arg α} {q:List PT} {i:α->Int} {g:α->List (RT q)} {fn:Int->List (RT q)->Option Bool} (hf:F f=abV (.fb abY (Gk q fn)))
 (hA: ∀a,nB (A.enc a)=abV (.agg [.int .i64 (i a),.sl (abU q) abY ((g a).map (RT.pv q))])):cM F f (nC.YG A q i g fn):=by
 intro (a:α) (b:Bool) a2 pa aj fz hb Fy hex;have hb:fn (i a) (g a)=abV b:=hb;have Es:pa=[.agg [.int .i64 (i a),.sl (abU q) abY ((g a).map (RT.pv q))]]:=by have:lx [A.enc a]=abV pa:=Fy;simp only [lx,hA] at this;exact (v6 this).symm
 subst Es;refine ⟨0,{v:= .bool b,news:=[],rd:=ck (bW aj deep) a2},?_,_,rfl,rfl⟩;show bC F (run F 0) abY f a2 aj fz=_;simp only [bC,hex,hf,Gk,M2,abI,if_true,tC,hb,sP];simp
def sA (N:List (Int×Int×Int)):Nat->Int->List Int->Option (List Int)
 |0,_,_=>abW
 |n+1,i,out=>if i<0 then abV out else if (abU N)<(abU out) then abV out else if i.toNat<(abU N) then (sA N n (N[i.toNat]!).2.1 out).bind fun o=>if (abU o)<1000 then sA N n (N[i.toNat]!).2.2 (o++[i]) else abW else abW
def ov (i:Int) (l:List (Int×Int×Int)):Option (List Int):=if (abU l)<=1000 then sA l 2000 i [] else abW
def iP (i:Int) (l:List (Int×Int×Int)):Option Bool:=(ov i l).map fun m=>decide (abU m=abU l)
end Go.Vm
