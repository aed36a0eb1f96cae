/- The logical machine, part 2: VmRun, VmInv, VmStep, VmShr, VmOp, VmReg, VmReg2, VmNorm, VmNorm2, VmCode, VmSound, VmPrim, VmIns, VmCat, VmTab, VmTab2, VmComp, VmLaw, VmSym, SvBase, SvDef, SvCod, SvRel. -/
import Derived.Test.YthljiplggdanpaaGreatPVm1
import Derived.Orders
import Derived.Laws.Sem
import Derived.Laws.Externs
import Derived.Lib.SliceRun
import Derived.Laws.CopyRow
import Derived.ProofKit
import Derived.Carry
import Derived.OpenShut
import Derived.Deep.Slices
import Derived.Deep.Grids
open Nat renaming beq->EQ,le_refl->PP,lt_or_ge->aaE,lt_trichotomy->ab1,le_trans->ab3,ble->aba,zero_le->abd,eq_or_lt_of_le->abe,lt_of_lt_of_le->abj,blt->abm,le_of_lt->abn,mul_le_mul_right->abC,ble_eq->abE,lt_or_gt_of_ne->abG,beq_eq->acl,le_total->acm,beq_refl->ad8
open List renaming getElem?_eq_getElem->If,getElem?_append_left->NE,getElem?_append_right->aa9,getElem?_eq_some_iff->aaF,take_of_length_le->abc,all_eq_true->abh,replicate->abl,flatMap_cons->abu,drop_of_length_le->abv,mem_append->abw,append_nil->aby,mem_append_right->abz,mem_append_left->abA,drop_zero->abD,mem_singleton->abJ,nodup_append->aco,getElem?_set->acp,append_assoc->acr,any_eq_true->ad1,mem_cons->ad4,length->adc
open Bool renaming and_eq_true->IR,not_eq_true'->abk,true->adV,false->adW
open Option.some renaming injEq->UV
open Option renaming map_eq_some_iff->WF,some->adh,none->adU
open Array renaming getD_eq_getD_getElem?->ab4,getElem?_setIfInBounds_self_of_lt->abf,getElem?_eq_some_iff->abg,replicate->abi,getElem?_eq_getElem->abo,ext'->ad3
open Prod.mk renaming injEq->abb
open Int renaming ofNat->ad2
open Go.Sem renaming run_bind->ad6
open Go.World renaming cell?->ad9
open Decidable renaming decide->adX
/- A region's run in the order of the text, step by step; what a block holds when adh of its operations are done. -/
namespace Go.Vm
structure Ch (F:p8) (rec:Task->Option Out) (ops:List ck) (S:Nat->St) (X:Nat->Option XR):Prop where
 steps: ∀(i:Nat) (o:ck),ops[i]? =adh o->
  (wanted o.guard (S i).env=adh adV/\ ∃x,BB F rec (S i).env (S i).aA (S i).fz o.op=adh x/\x.ok (S i).fz=adV/\X i=adh x/\S (i+1)=x.next o.dst (S i))\/
  (wanted o.guard (S i).env=adh adW/\X i=adU/\S (i+1)={S i with env:=kY o.dst .na (S i).env})
def DR (x:Option XR) (s:St):Tr:=
 match x with
 |some x=>x.tr (adc s.aA)
 |none=>Tr.idle
def D0 (S:Nat->St) (X:Nat->Option XR) (n:Nat):List Tr:=(List.range n).map fun i=>DR (X i) (S i)
theorem Sc (S:Nat->St) (X:Nat->Option XR) (n:Nat):D0 S X (n+1)=DR (X 0) (S 0)::D0 (fun i=>S (i+1)) (fun i=>X (i+1)) n:=by unfold D0;rw [List.range_succ_eq_map];simp
theorem GX {F:p8} {rec:Task->Option Out}: ∀(ops:List ck) (st:St) (tr:List Tr) (od:St) (VO:List Tr),rX F rec ops st tr=adh (od,VO)->
 ∃S X,S 0=st/\S (adc ops)=od/\Ch F rec ops S X/\VO=(D0 S X (adc ops)).reverse++tr
 | [],st,tr,od,VO,h=>by obtain ⟨rfl,rfl⟩:=h;exact ⟨fun _=>st,fun _=>adU,rfl,rfl,⟨fun i o h=>by simp at h⟩,by simp [D0]⟩
 |o::l,st,tr,od,VO,h=>by
  simp [rX] at h;have mk: ∀(s1:St) (x:Option XR) (t1:Tr),DR x st=t1->rX F rec l s1 (t1::tr)=adh (od,VO)->
   ((wanted o.guard st.env=adh adV/\ ∃y,BB F rec st.env st.aA st.fz o.op=adh y/\y.ok st.fz=adV/\x=adh y/\s1=y.next o.dst st)\/
    (wanted o.guard st.env=adh adW/\x=adU/\s1={st with env:=kY o.dst .na st.env}))->
   ∃S X,S 0=st/\S (o::l).length=od/\Ch F rec (o::l) S X/\VO=(D0 S X (o::l).length).reverse++tr:=by
   intro s1 x t1 ht he hs;obtain ⟨S,X,h0,hn,dq,htr⟩:=GX l s1 (t1::tr) od VO he;refine ⟨fun i=>match i with|0=>st|i+1=>S i,fun i=>match i with|0=>x|i+1=>X i,rfl,hn,⟨fun i o' ho=>?_⟩,?_⟩
   · cases i with
     |zero=>
      simp at ho;subst ho;rcases hs with ⟨a,y,b,c,d,e⟩|⟨a,b,c⟩
      · exact .inl ⟨a,y,b,c,d,by rw [<- e];exact h0⟩
      exact .inr ⟨a,b,by rw [<- c];exact h0⟩
     |succ i=>exact dq.steps i o' (by simpa using ho)
   grind [List.length_cons,Sc]
  cases hw:wanted o.guard st.env with
  |none=>grind
  |some b=>
   rw [hw] at h;cases b with
   |false=>exact mk _ adU _ rfl h (.inr ⟨hw,rfl,rfl⟩)
   |true=>
    cases hx:BB F rec st.env st.aA st.fz o.op with
    |none=>grind
    |some x=>
     rw [hx] at h;dsimp only at h;split at h
     · rename_i Av
       exact mk _ (adh x) _ rfl h (.inl ⟨hw,x,hx,Av,rfl,rfl⟩)
     cases h
theorem kf: ∀(wr:List (Nat×om)) (s:cU),(ly wr s).length=adc s
 | [],s=>rfl
 |(t,b)::r,s=>by rw [ly,kf r];simp
theorem y4: ∀(wr:List (Nat×om)) (s:cU) (t:Nat),(∀k,(t,k)∉wr)->(ly wr s)[t]? =s[t]?
 | [],s,t,_=>rfl
 |(u,b)::r,s,t,h=>by
  rw [ly,y4 r _ t (fun k hk=>h k (by simp [hk]))]
  grind
theorem JD: ∀(wr:List (Nat×om)) (s:cU),As wr=adV-> ∀{t:Nat} {k:om},(t,k)∈wr->t<adc s->(ly wr s)[t]? =adh k
 |(u,b)::r,s,hn,t,k,hm,iz=>by
  simp only [As,IR,abh,] at hn;rw [ly];rcases ad4.1 hm with h|h
  · injection h with h1 h2
    subst h1 h2;rw [y4 r _ t fun k' hk=>by simpa using hn.1 (t,k') hk];simp [iz]
  exact JD r _ hn.2 h (by simpa using iz)
section
variable {F : p8} {rec : Task -> Option Out} {ops : List ck} {S : Nat -> St} {X : Nat -> Option XR}
def W (X:Nat->Option XR) (i t:Nat):Prop:=
 match X i with
 |some (.loc r)=> ∃k,(t,k)∈r.wr
 |some (.shr ..)=>True
 |none=>False
def FR (X:Nat->Option XR) (i t:Nat):Prop:=
 match X i with
 |some (.loc r)=>t∈r.fr
 |some (.shr _ _ z)=>t∈z
 |none=>False
def Fw (S:Nat->St) (X:Nat->Option XR) (n:Nat) (done:Nat->Prop) (t:Nat) (k:om):Prop:=
 ∃m,m<=n/\(∀i,i<n->W X i t->(done i↔i<m))/\(∀c,c<n->(S c).aA.length<=t->t<(S (c+1)).aA.length->c<m)/\(S m).aA[t]? =adh k
theorem Uh {e:Env} {aA:cU} {fz:List Nat} {op:oC} {v:PV} {s:cU} {z:List Nat} (h:BB F rec e aA fz op=adh (.shr v s z)):(adc aA)<=adc s/\ ∀t,t∈fz->t∈z:=by
 have key: ∀{f:FuncId} {args:List PV},iB rec f args aA fz=adh (.shr v s z)->adc aA<=adc s/\ ∀t,t∈fz->t∈z:=by
  intro f args h;unfold iB at h;split at h
  · split at h
    · rename_i hc
      simp [IR,abE,abh] at hc;simp [UV,] at h;obtain ⟨rfl,rfl,rfl⟩:=h;exact ⟨hc.1,fun t ht=>uH.1 (hc.2 t ht)⟩
    cases h
  cases h
 cases op with
 |call m f args=>
  cases m with
  |pur=>simp [BB] at h
  |own=>simp [BB] at h
  |shr=>exact key h
  |fp=>simp [BB] at h
 |Bz x args=>
  simp [BB] at h;split at h
  · split at h
    · exact key h
    simp at h
  cases h
 |_=>simp [BB] at h
theorem Ch.afe (hr:Ch F rec ops S X) {i:Nat} (hi:i<adc ops):(S i).aA.length<=(S (i+1)).aA.length:=by
 rcases hr.steps i _ (If hi) with ⟨_,x,hx,_,_,hn⟩|⟨_,_,hn⟩
 · rw [hn]
   cases x with
   |loc r=>simp [XR.next,ya,kf]
   |shr v s z=>exact (Uh hx).1
 grind
theorem Ch.kg (hr:Ch F rec ops S X) {i j:Nat} (pX:i<=j) (hj:j<=adc ops):(S i).aA.length<=(S j).aA.length:=by
 induction j with
 |zero=>grind
 |succ j ih=>
  rcases abe pX with h|h
  · grind
  exact ab3 (ih (by omega) (by omega)) (hr.afe (by omega))
theorem Ch.same (hr:Ch F rec ops S X) {i t:Nat} (hi:i<adc ops) (hw: ¬W X i t) (ht:t<(S i).aA.length):(S (i+1)).aA[t]? =(S i).aA[t]?:=by
 rcases hr.steps i _ (If hi) with ⟨_,x,hx,_,hX,hn⟩|⟨_,_,hn⟩
 · rw [hn]
   cases x with
   |loc r=>simp [XR.next,ya];rw [NE (by rw [kf];exact ht)];exact y4 _ _ _ fun k hk=>hw (by unfold W;grind)
   |shr v s z=>exact absurd (by unfold W;rw [hX];trivial) hw
 rw [hn]
theorem Ch.Dg (hr:Ch F rec ops S X) {m m' t:Nat} (hm:m<=m') (Fx:m'<=adc ops) (hw: ∀i,m<=i->i<m'-> ¬W X i t) (ht:t<(S m).aA.length):(S m').aA[t]? =(S m).aA[t]?:=by
 induction m' with
 |zero=>grind
 |succ j ih=>
  rcases abe hm with h|h
  · subst h;rfl
  rw [hr.same (by omega) (hw j (by omega) (by omega)) (abj ht (hr.kg (by omega) (by omega)))]
  grind
theorem dm {α:Type} {l:List α} {i:Nat} {x:α} (h:l[i]? =adh x):i<(adc l):=(aaF.1 h).1
theorem Fw.unique (hr:Ch F rec ops S X) {done:Nat->Prop} {t:Nat} {k k':om} (h:Fw S X (adc ops) done t k) (h':Fw S X (adc ops) done t k'):k=k':=by
 obtain ⟨m,hm,hw,hc,hs⟩:=h;obtain ⟨m',Fx,hw',IB,BP⟩:=h';rcases acm m m' with h|h
 · have:=hr.Dg h Fx (fun i h1 h2 hW=>by
    have a:=hw i (by omega) hW;have b:=hw' i (by omega) hW;have:=a.1 (b.2 h2);omega) (dm hs)
   grind
 have:=hr.Dg h hm (fun i h1 h2 hW=>by
  have a:=hw i (by omega) hW;have b:=hw' i (by omega) hW;have:=b.1 (a.2 h2);omega) (dm BP)
 grind
theorem Ch.Yd (hr:Ch F rec ops S X) {i t:Nat} (hi:i<adc ops) (hd:(ops[i]).dst≠adh t):lk t (S (i+1)).env=lk t (S i).env:=by
 have key: ∀(d:Option Nat) (v:PV) (e:Env),d≠adh t->lk t (kY d v e)=lk t e:=by
  intro d v e h;cases d with
  |none=>rfl
  |some s=>simp [kY];rw [wz,Do (fun e=>h (by rw [e]))]
 rcases hr.steps i _ (If hi) with ⟨_,x,hx,_,hX,hn⟩|⟨_,_,hn⟩
 · rw [hn]
   cases x with
   |loc r=>exact key _ _ _ hd
   |shr v s z=>exact key _ _ _ hd
 grind
theorem Ch.Sd (hr:Ch F rec ops S X) {m m' t:Nat} (hm:m<=m') (Fx:m'<=adc ops) (hd: ∀i (hi:i<adc ops),m<=i->i<m'->(ops[i]).dst≠adh t):lk t (S m').env=lk t (S m).env:=by
 induction m' with
 |zero=>grind
 |succ j ih=>
  rcases abe hm with h|h
  · subst h;rfl
  rw [hr.Yd (by omega) (hd j (by omega) (by omega) (by omega))]
  grind
end
end Go.Vm
/- A region: what holds while adh of its operations are done, and that one more keeps it. -/
namespace Go.Vm
def aC (x:ck):List Nat:=(x.op.ie.filterMap fun| .t n=>adh n| .c _=>adU)++(match x.guard with|some (s,_)=>[s]|none=>[])
def zH (ops:Array Oper):Option (Nat×Bool)->Option (Nat×Bool)->Bool
 |none,adU=>adV
 |some (s,b),adh (j,c)=>b==c&&((ops[j]?).bind (·.dst))==adh s
 |_,_=>adW
def yi (P:Program) (prims:FuncId->Bool) (nt:Nat) (ops:Array Oper) (x:ck) (o:Oper):Bool:=
 x.dst==o.dst&&(match x.dst with|some d=>abm d nt|none=>adV)&&zH ops x.guard o.guard&&BD P prims o.type x.op o.op
def xl (X:Nat->Option XR) (i:Nat):Prop:= ∃v s z,X i=adh (.shr v s z)
def jJ (X:Nat->Option XR) (i:Nat):Prop:=
 match X i with
 |some (.loc r)=>r.rd≠[]\/r.fr≠[]\/r.wr≠[]\/r.news≠[]
 |some (.shr ..)=>True
 |none=>False
def A (X:Nat->Option XR) (i t:Nat):Prop:=
 match X i with
 |some (.loc r)=>t∈r.rd\/t∈r.fr
 |_=>False
structure Ord (ops:List ck) (S:Nat->St) (X:Nat->Option XR) (BS:Nat->Nat->Prop):Prop where
 JE: ∀(i j t:Nat) (x y:ck),i<j->ops[i]? =adh x->ops[j]? =adh y->x.dst=adh t->(t∈aC y\/y.dst=adh t)->BS i j
 Ye: ∀(i j t:Nat) (x y:ck),i<j->ops[i]? =adh x->ops[j]? =adh y->y.dst=adh t->t∈aC x->BS i j
 Se: ∀i j t,i<j->j<adc ops->W X i t->(A X j t\/W X j t)->BS i j
 aff: ∀i j t,i<j->j<adc ops->A X i t->W X j t->BS i j
 afg: ∀i j t,i<j->j<adc ops-> ¬xl X i->(S i).aA.length<=t->t<(S (i+1)).aA.length-> ¬xl X j->W X j t->BS i j
 PB: ∀i j,i<j->j<adc ops->(xl X i/\jJ X j\/jJ X i/\xl X j)->BS i j
 cl: ∀i t,i<adc ops-> ¬xl X i->(A X i t\/W X i t)->t<(S i).aA.length\/ ∀c,i<c->c<adc ops->BS i c
structure Inv (ops:List ck) (S:Nat->St) (X:Nat->Option XR) (nQ:Im) (eo:Loc) (w0:World) (nt:Nat) (done:Nat->Prop) (im:Im) (loc:Loc) (a:Act) (w:World):Prop where
 tm: ∀t,∃m,m<=adc ops/\(∀i x,ops[i]? =adh x->x.dst=adh t->(done i↔i<m))/\VR im loc (lk t (S m).env) (a.tmps.getD t Go.undef)
 bP: ∀b o,im b=adh o->w.heap[b]? =adh o
 tok: ∀t li,loc t=adh li-> ∃k,Fw S X (adc ops) done t k/\BR im loc w li k
 k7: ∀t u li lj k k',loc t=adh li->loc u=adh lj->Fw S X (adc ops) done t k->Fw S X (adc ops) done u k'->k.bW=adV->k'.bW=adV->li.eg=lj.eg->t=u
 free: ∀t li k,loc t=adh li->Fw S X (adc ops) done t k->k.bW=adV->t∉(S 0).fz->(∀i,i<adc ops->done i-> ¬FR X i t)->im li.eg=adU
 fresh: ∀i,i<adc ops-> ¬done i-> ∀t,(S i).aA.length<=t->t<(S (i+1)).aA.length->loc t=adU
 jt:rZ nQ im
 eS:pR eo loc
 os:w.os=w0.os
 tape:Tape w0 w
 output:w.output=w0.output
 size:w0.heap.size<=w.heap.size
 frame: ∀b,b<w0.heap.size->(∀t li k,eo t=adh li->(S 0).aA[t]? =adh k->k.bW=adV->li.eg≠b)->w.heap[b]? =w0.heap[b]?
 fa: ∀b o,im b=adh o->nQ b=adh o\/w0.heap.size<=b\/ ∃t li k,eo t=adh li/\(S 0).aA[t]? =adh k/\k.bW=adV/\li.eg=b
 rR: ∀t li,loc t=adh li->eo t=adh li\/(S 0).aA.length<=t
 own: ∀t li k,loc t=adh li->Fw S X (adc ops) done t k->k.bW=adV->(w0.heap.size<=li.eg\/ ∃u lu ku,eo u=adh lu/\(S 0).aA[u]? =adh ku/\ku.bW=adV/\lu.eg=li.eg)
 defers:a.defers=[]
 RX:a.tmps.size=nt
def plus (done:Nat->Prop) (i:Nat):Nat->Prop:=fun j=>done j\/j=i
section
variable {F : p8} {rec : Task -> Option Out} {ops : List ck} {S : Nat -> St} {X : Nat -> Option XR} {BS : Nat -> Nat -> Prop} {nQ : Im} {eo : Loc} {w0 : World} {nt : Nat}
  {done : Nat -> Prop} {im : Im} {loc : Loc} {a : Act} {w : World} {i : Nat}
structure Place (ops:List ck) (BS:Nat->Nat->Prop) (done:Nat->Prop) (i:Nat):Prop where
 lt:i<adc ops
 nd: ¬done i
 pre: ∀j,j<adc ops->BS j i->done j
 fx: ∀k,k<adc ops->done k-> ∀j,j<adc ops->BS j k->done j
theorem Place.zI (hp:Place ops BS done i) {k:Nat} (hk:k<adc ops) (h:BS i k): ¬done k:=fun hd=>hp.nd (hp.fx k hk hd i hp.lt h)
theorem Inv.slot (hr:Ch F rec ops S X) (ho:Ord ops S X BS) (hv:Inv ops S X nQ eo w0 nt done im loc a w) (hp:Place ops BS done i) {x:ck} (hx:ops[i]? =adh x) {t:Nat} (ht:t∈aC x):
 VR im loc (lk t (S i).env) (a.tmps.getD t Go.undef):=by
 obtain ⟨m,hm,hd,tM⟩:=hv.tm t;have hwr: ∀j y,ops[j]? =adh y->y.dst=adh t->(done j↔j<i):=by
  intro j y hy XE;rcases ab1 j i with h|h|h
  · exact ⟨fun _=>h,fun _=>hp.pre j (dm hy) (ho.JE j i t y x h hy hx XE (.inl ht))⟩
  · subst h;exact ⟨fun hd=>absurd hd hp.nd,fun h=>by omega⟩
  exact ⟨fun P5=>absurd P5 (hp.zI (dm hy) (ho.Ye i j t x y h hx hy XE ht)),fun h'=>by omega⟩
 have same:lk t (S i).env=lk t (S m).env:=by
  rcases acm m i with h|h
  · refine hr.Sd h (abn hp.lt) fun j hj h1 h2 y5=>?_
    have a1:=hd j _ (If hj) y5;have a2:=hwr j _ (If hj) y5;have:=a1.1 (a2.2 h2);omega
  refine (hr.Sd h hm fun j hj h1 h2 y5=>?_).symm
  have a1:=hd j _ (If hj) y5;have a2:=hwr j _ (If hj) y5;have:=a2.1 (a1.2 h2);omega
 grind
theorem Inv.cur (hr:Ch F rec ops S X) (ho:Ord ops S X BS) (hv:Inv ops S X nQ eo w0 nt done im loc a w) (hp:Place ops BS done i) {t:Nat} {li:LI} (hl:loc t=adh li)
 (ht:(A X i t\/W X i t)) {k:om} (hc:Fw S X (adc ops) done t k):(S i).aA[t]? =adh k:=by
 obtain ⟨m,hm,hw,hcr,hs⟩:=hc;have eT:t<(S i).aA.length:=by
  rcases aaE t (S i).aA.length with h|h
  · exact h
  have hmi:i<m:=by
   rcases aaE i m with h'|h'
   · exact h'
   have:=hr.kg h' (abn hp.lt);have:=dm hs;omega
  have: ∃c,i<=c/\c<m/\(S c).aA.length<=t/\t<(S (c+1)).aA.length:=by
   have hex: ∀d,i+d<=m->t<(S (i+d)).aA.length-> ∃c,i<=c/\c<i+d/\(S c).aA.length<=t/\t<(S (c+1)).aA.length:=by
    intro d
    induction d with
    |zero=>intro _ h2;exact absurd h2 (by simpa using h)
    |succ d ih=>
     intro h1 h2;rcases aaE t (S (i+d)).aA.length with h3|h3
     · obtain ⟨c,c1,c2,c3,c4⟩:=ih (by omega) h3
       exact ⟨c,c1,by omega,c3,c4⟩
     exact ⟨i+d,by omega,by omega,h3,h2⟩
   obtain ⟨c,c1,c2,c3,c4⟩:=hex (m-i) (by omega) (by rw [show i+(m-i)=m by omega];exact dm hs);exact ⟨c,c1,by omega,c3,c4⟩
  obtain ⟨c,c1,c2,c3,c4⟩:=this;have hcn:c<(adc ops):=by omega
  have anB: ¬done c:=by
   intro hdc;rcases abe c1 with e|e
   · subst e;exact hp.nd hdc
   by_cases hsh:xl X i
   · refine hp.zI hcn (ho.PB i c e hcn (.inl ⟨hsh,?_⟩)) hdc
     rcases hr.steps c _ (If hcn) with ⟨_,x,hx,_,hX,hn⟩|⟨_,_,hn⟩
     · unfold jJ;rw [hX]
       cases x with
       |loc r=>refine .inr (.inr (.inr fun NL=>?_));rw [hn] at c4;simp [XR.next,ya,kf,NL] at c4;omega
       |shr v s z=>trivial
     rw [hn] at c4;simp at c4;omega
   rcases ho.cl i t hp.lt hsh ht with h'|h'
   · omega
   exact hp.zI hcn (h' c e hcn) hdc
  have:=hv.fresh c hcn anB t c3 c4
  grind
 have hwr: ∀j,j<adc ops->W X j t->(done j↔j<i):=by
  intro j hj hW;rcases ab1 j i with h|h|h
  · exact ⟨fun _=>h,fun _=>hp.pre j hj (ho.Se j i t h hp.lt hW ht)⟩
  · subst h;exact ⟨fun hd=>absurd hd hp.nd,fun h=>by omega⟩
  refine ⟨fun P5=>absurd P5 (hp.zI hj ?_),fun h'=>by omega⟩
  rcases ht with ht|ht
  · exact ho.aff i j t h hj ht hW
  exact ho.Se i j t h hj ht (.inr hW)
 rcases acm m i with h|h
 · rw [hr.Dg h (abn hp.lt) (fun j h1 h2 hW=>by
    have a1:=hw j (by have:=hp.lt;omega) hW;have a2:=hwr j (by have:=hp.lt;omega) hW
    grind) (dm hs)]
   exact hs
 rw [<- hr.Dg h hm (fun j h1 h2 hW=>by
  grind) eT]
 exact hs
end
end Go.Vm
/- A region: one more operation keeps what holds. -/
namespace Go.Vm
theorem BR.aiI {im fA:Im} {loc bz:Loc} {w w':World} {li:LI} {k:om} (h:BR im loc w li k) (hi:rZ im fA) (hl:pR loc bz)
 (hw:k.bW=adV->w'.heap[li.eg]? =w.heap[li.eg]?):BR fA bz w' li k:=by
 cases hs:k.bW with
 |true=>exact h.mono hi hl (hw hs)
 |false=>
  cases k with
  |arr e rows=>
   cases rows with
   |nil=>exact ⟨h.1,h.2.1,fun fy=>absurd rfl fy⟩
   |cons _ _=>cases hs
  |box _=>cases hs
  |map _=>cases hs
  |dead=>trivial
section
variable {F : p8} {rec : Task -> Option Out} {ops : List ck} {S : Nat -> St} {X : Nat -> Option XR} {BS : Nat -> Nat -> Prop} {nQ : Im} {eo : Loc} {w0 : World} {nt : Nat}
  {done : Nat -> Prop} {im : Im} {loc : Loc} {a : Act} {w : World} {i : Nat}
theorem Ch.aiJ (hr:Ch F rec ops S X) {j:Nat} (hj:j<adc ops): ∀t,t∈(S j).fz->t∈(S (j+1)).fz:=by
 intro t ht;rcases hr.steps j _ (If hj) with ⟨_,x,hx,_,_,hn⟩|⟨_,_,hn⟩
 · rw [hn]
   cases x with
   |loc r=>simp only [XR.next];exact abz _ ht
   |shr v s z=>exact (Uh hx).2 t ht
 grind
theorem Ch.IY (hr:Ch F rec ops S X) {m m':Nat} (h:m<=m') (hm:m'<=adc ops): ∀t,t∈(S m).fz->t∈(S m').fz:=by
 induction m' with
 |zero=>grind
 |succ j ih=>
  rcases abe h with e|e
  · grind
  exact fun t ht=>hr.aiJ (by omega) t (ih (by omega) (by omega) t ht)
theorem Ch.aed (hr:Ch F rec ops S X) {j:Nat} (hj:j<adc ops) {t:Nat} (h:FR X j t):t∈(S (j+1)).fz:=by
 rcases hr.steps j _ (If hj) with ⟨_,x,hx,_,hX,hn⟩|⟨_,hX,_⟩
 · rw [hn]
   unfold FR at h;rw [hX] at h;cases x with
   |loc r=>exact abA _ h
   |shr v s z=>exact h
 unfold FR at h;grind
theorem aiK {j t:Nat} (h:FR X j t):A X j t\/W X j t:=by
 unfold FR at h;unfold A W
 grind
theorem Inv.JF (hr:Ch F rec ops S X) (ho:Ord ops S X BS) (hp:Place ops BS done i) {t:Nat} (hW:W X i t) (hz:t∉(S i).fz):
 t∉(S 0).fz/\ ∀j,j<adc ops->done j-> ¬FR X j t:=by
 refine ⟨fun h=>hz (hr.IY (abd _) (abn hp.lt) t h),fun j hj hd hf=>?_⟩;rcases ab1 j i with h|h|h
 · exact hz (hr.IY h (abn hp.lt) t (hr.aed hj hf))
 · subst h;exact hp.nd hd
 exact hp.zI hj (ho.Se i j t h hj hW (aiK hf)) hd
theorem Inv.known (hr:Ch F rec ops S X) (ho:Ord ops S X BS) (hv:Inv ops S X nQ eo w0 nt done im loc a w) (hp:Place ops BS done i) {r:tz} (hX:X i=adh (.loc r)) (Av:(XR.loc r).ok (S i).fz=adV)
 (hn:(S (i+1)).aA.length=(S i).aA.length+adc r.news):mb im loc (S i).aA w r where
 bP:=hv.bP
 tok:=fun t ht li hl=>by
  obtain ⟨k,hc,yf⟩:=hv.tok t li hl;refine ⟨k,hv.cur hr ho hp hl ?_ hc,yf⟩;rcases ht with ht|ht
  · exact .inl (by unfold A;grind)
  exact .inr (by unfold W;grind)
 free:=fun t k hm li k' hl hs pC=>by
  have hW:W X i t:=by unfold W;grind
  simp only [XR.ok,IR,abh,abk] at Av;have hz:=mG.1 (Av.1 (t,k) hm);obtain ⟨h0,h1⟩:=Inv.JF hr ho hp hW hz;obtain ⟨k2,hc,_⟩:=hv.tok t li hl;have:=hv.cur hr ho hp hl (.inr hW) hc;rw [hs] at this;injection this with this;subst this;exact hv.free t li k' hl hc pC h0 h1
 fresh:=fun j hj=>hv.fresh i hp.lt hp.nd _ (by omega) (by omega)
 k7:=fun t u li lj k k' ht hu hl qC hs BP pC Mi hb=>by
  have aw: ∀t,(t∈r.rd\/ ∃b,(t,b)∈r.wr)->A X i t\/W X i t:=fun t h=>by
   rcases h with h|h
   · exact .inl (by unfold A;grind)
   exact .inr (by unfold W;rw [hX];exact h)
  obtain ⟨k1,LD,_⟩:=hv.tok t li hl;obtain ⟨k2,Pn,_⟩:=hv.tok u lj qC;have e1:=hv.cur hr ho hp hl (aw t ht) LD;have e2:=hv.cur hr ho hp qC (aw u hu) Pn;rw [hs] at e1;injection e1 with e1;subst e1;rw [BP] at e2;injection e2 with e2;subst e2;exact hv.k7 t u li lj _ _ hl qC LD Pn pC Mi hb
theorem Inv.Fy (hr:Ch F rec ops S X) (ho:Ord ops S X BS) (hv:Inv ops S X nQ eo w0 nt done im loc a w) (hp:Place ops BS done i) {x:ck} (hx:ops[i]? =adh x) {r:tz} (hX:X i=adh (.loc r))
 (Av:(XR.loc r).ok (S i).fz=adV) (hS:S (i+1)=(XR.loc r).next x.dst (S i)) {v':Value} {fA:Im} {bz:Loc} {w':World} (tM:VR fA bz r.v v') (he:yc im loc (S i).aA w r fA bz w')
 (y5: ∀d,x.dst=adh d->d<nt):Inv ops S X nQ eo w0 nt (plus done i) fA bz (a.put x.dst v') w':=by
 have eT:(S (i+1)).aA.length=(S i).aA.length+(adc r.news):=by rw [hS];simp [XR.next,ya,kf]
 have D1:=hp.lt;have GO:As r.wr=adV:=by simp [XR.ok,IR] at Av;exact Av.2
 have Ax:(S (i+1)).aA=ly r.wr (S i).aA++r.news:=by rw [hS];exact ya _ _
 have aiL: ∀t k,(t,k)∈r.wr->t<(S i).aA.length->(S (i+1)).aA[t]? =adh k:=by
  grind [NE,kf,JD]
 have afi: ∀j k,r.news[j]? =adh k->(S (i+1)).aA[(S i).aA.length+j]? =adh k:=by
  grind
 have wlt: ∀t li,loc t=adh li->W X i t->t<(S i).aA.length:=by intro t li hl hW;obtain ⟨k,hc,_⟩:=hv.tok t li hl;exact dm (hv.cur hr ho hp hl (.inr hW) hc)
 have NT: ∀t k li,(t,k)∈r.wr->loc t=adh li->Fw S X (adc ops) (plus done i) t k:=by
  intro t k li hm hl;have hW:W X i t:=by unfold W;grind
  have iz:=wlt t li hl hW;refine ⟨i+1,D1,fun j hj Ui=>?_,fun c hc h1 h2=>?_,aiL t k hm iz⟩
  · rcases ab1 j i with h|h|h
    · exact ⟨fun _=>by omega,fun _=> .inl (hp.pre j hj (ho.Se j i t h D1 Ui (.inr hW)))⟩
    · subst h;exact ⟨fun _=>by omega,fun _=> .inr rfl⟩
    refine ⟨fun hd=>?_,fun h'=>by omega⟩
    rcases hd with hd|hd
    · exact absurd hd (hp.zI hj (ho.Se i j t h hj hW (.inr Ui)))
    omega
  rcases aaE c (i+1) with h|h
  · exact h
  have:=hr.kg (show i<=c by omega) (by omega);omega
 have Fz: ∀j k,r.news[j]? =adh k->Fw S X (adc ops) (plus done i) ((S i).aA.length+j) k:=by
  intro j k hj;have R5:=dm hj;refine ⟨i+1,D1,fun q hq hWq=>?_,fun c hc h1 h2=>?_,afi j k hj⟩
  · rcases ab1 q i with h|h|h
    · refine ⟨fun _=>by omega,fun _=> .inl ?_⟩
      by_cases hs:xl X q
      ·
       refine hp.pre q hq (ho.PB q i h D1 (.inl ⟨hs,?_⟩));unfold jJ;grind
      rcases ho.cl q _ hq hs (.inr hWq) with h'|h'
      · have:=hr.kg (show q<=i by omega) (by omega);omega
      exact hp.pre q hq (h' i h D1)
    · subst h;exact ⟨fun _=>by omega,fun _=> .inr rfl⟩
    refine ⟨fun hd=>?_,fun h'=>by omega⟩
    rcases hd with hd|hd
    · exfalso
      by_cases hs:xl X q
      · refine hp.zI hq (ho.PB i q h hq (.inr ⟨?_,hs⟩)) hd
        unfold jJ;grind
      exact hp.zI hq (ho.afg i q _ h hq (by rintro ⟨v,s,z,e⟩;grind) (by omega) (by omega) hs hWq) hd
    omega
  rcases aaE c (i+1) with h|h
  · exact h
  have:=hr.kg (show i+1<=c by omega) (by omega);omega
 have Uj: ∀t k,¬W X i t->Fw S X (adc ops) done t k->Fw S X (adc ops) (plus done i) t k:=by
  intro t k hW hc;obtain ⟨m,hm,h1,h2,h3⟩:=hc;refine ⟨m,hm,fun j hj Ui=>?_,h2,h3⟩;have fy:j≠i:=fun e=>hW (e▸Ui)
  have:=h1 j hj Ui;exact ⟨fun hd=>this.1 (hd.resolve_right fy),fun h=> .inl (this.2 h)⟩
 have Dh: ∀t li,bz t=adh li->(∃j k,t=(S i).aA.length+j/\r.news[j]? =adh k/\loc t=adU)\/loc t=adh li:=by
  intro t li hl;rcases he.oo t li hl with h|⟨h1,h2⟩
  · exact .inr h
  refine .inl ⟨t- (S i).aA.length,r.news[t- (S i).aA.length],by omega,If (by omega),?_⟩
  exact hv.fresh i D1 hp.nd t h1 (by omega)
 have old: ∀t li k,loc t=adh li->Fw S X (adc ops) (plus done i) t k->k.bW=adV-> ∃k0,Fw S X (adc ops) done t k0/\k0.bW=adV/\BR im loc w li k0/\(¬W X i t->k0=k)/\(W X i t->(t,k)∈r.wr):=by
  intro t li k hl hc hs;obtain ⟨k0,LL,yf⟩:=hv.tok t li hl
  by_cases hW:W X i t
  · have NU:=hW
    unfold W at NU;rw [hX] at NU;obtain ⟨k2,hm⟩:=NU;have e:=(NT t k2 li hm hl).unique hr hc;subst e;obtain ⟨k3,h3,h4⟩:=he.Vx t k2 hm hs;have:=hv.cur hr ho hp hl (.inr hW) LL
    grind
  have e:=(Uj t k0 hW LL).unique hr hc
  grind
 have NV: ∀t k li k0,(t,k)∈r.wr->loc t=adh li->(S i).aA[t]? =adh k0->Fw S X (adc ops) done t k0:=by
  intro t k li k0 hm hl hs;obtain ⟨k1,LD,_⟩:=hv.tok t li hl;have:=hv.cur hr ho hp hl (.inr (by unfold W;rw [hX];exact ⟨k,hm⟩)) LD
  grind
 have Yf: ∀t li k0,t∈r.fr->loc t=adh li->(S i).aA[t]? =adh k0->Fw S X (adc ops) done t k0:=by
  intro t li k0 hm hl hs;obtain ⟨k1,LD,_⟩:=hv.tok t li hl;have:=hv.cur hr ho hp hl (.inl (by unfold A;rw [hX];exact .inr hm)) LD
  grind
 refine {
  tm:=fun t=>?_
  bP:=he.bP
  tok:=fun t li hl=>?_
  k7:=fun t u li lj k k' hl qC hc IB hs BP hb=>?_
  free:=fun t li k hl hc hs h0 hf=>?_
  fresh:=fun j hj LH t h1 h2=>?_
  jt:=hv.jt.trans he.jt
  eS:=hv.eS.trans he.eS
  os:=he.os.trans hv.os
  tape:=he.tape.trans hv.tape
  output:=he.output.trans hv.output
  size:=ab3 hv.size he.size
  frame:=fun b hb hh=>?_
  fa:=fun b o hb=>?_
  rR:=fun t li hl=>?_
  own:=fun t li k hl hc hs=>?_
  defers:=by cases hd:x.dst<;>simp [Act.put,hv.defers]
  RX:=by cases hd:x.dst<;>simp [Act.put,hv.RX]}
 ·
  by_cases hd:x.dst=adh t
  · refine ⟨i+1,D1,fun j y hy XE=>?_,?_⟩
    · rcases ab1 j i with h|h|h
      · exact ⟨fun _=>by omega,fun _=> .inl (hp.pre j (dm hy) (ho.JE j i t y x h hy hx XE (.inr hd)))⟩
      · subst h;exact ⟨fun _=>by omega,fun _=> .inr rfl⟩
      refine ⟨fun P5=>?_,fun h'=>by omega⟩
      rcases P5 with P5|P5
      · exact absurd P5 (hp.zI (dm hy) (ho.JE i j t x y h hx hy hd (.inr XE)))
      omega
    rw [hS]
    simp [XR.next,hd,kY,wz,Act.put];have:=y5 t hd;simp [hv.RX,this,tM]
  obtain ⟨m,hm,h1,h2⟩:=hv.tm t
  refine ⟨m,hm,fun j y hy XE=>?_,?_⟩
  · have fy:j≠i:=by grind
    have:=h1 j y hy XE;exact ⟨fun P5=>this.1 (P5.resolve_right fy),fun h=> .inl (this.2 h)⟩
  have:=h2.mono he.jt he.eS
  cases hxd:x.dst with
  |none=>assumption
  |some d=>
   have fy:d≠t:=fun e=>hd (by rw [hxd,e])
   simpa [Act.put,fy] using this
 ·
  rcases Dh t li hl with ⟨j,k,rfl,hj,_⟩|VJ
  · obtain ⟨h2,_⟩:=he.news j k li hj hl
    grind
  obtain ⟨k0,LL,yf⟩:=hv.tok t li VJ
  by_cases hW:W X i t
  · have NU:=hW
    unfold W at NU;rw [hX] at NU;obtain ⟨k2,hm⟩:=NU;exact ⟨k2,NT t k2 li hm VJ,he.wr t k2 li hm VJ⟩
  refine ⟨k0,Uj t k0 hW LL,yf.aiI he.jt he.eS fun hs=>?_⟩
  refine he.frame _ (yf.lt hs) fun t2 k2 l2 k3 hm PK hs3 pC XD=>?_
  have:=hv.k7 t2 t l2 li k3 k0 PK VJ (NV t2 k2 l2 k3 hm PK hs3) LL pC hs XD;exact hW (by unfold W;grind)
 ·
  have anE: ∀t u li lj k k',(∃j k,t=(S i).aA.length+j/\r.news[j]? =adh k/\loc t=adU)->loc u=adh lj->bz t=adh li->Fw S X (adc ops) (plus done i) t k->Fw S X (adc ops) (plus done i) u k'->
   k.bW=adV->k'.bW=adV->li.eg=lj.eg->False:=by
   intro t u li lj k k' hj hlu hl hc IB hs BP hb;obtain ⟨j,k1,rfl,hj,_⟩:=hj;have e:=(Fz j k1 hj).unique hr hc;subst e;obtain ⟨h2,h3⟩:=he.news j k1 li hj hl;obtain ⟨k0,LL,Pr,afj,hk0,hw0⟩:=old u lj k' hlu IB BP;have iz:=afj.lt Pr;rcases (h3 hs).2 with h|⟨td,lt,kd,hm,hld,hsd,Yg,hbd⟩
   · omega
   have:=hv.k7 td u lt lj kd k0 hld hlu (NV td _ lt kd hm hld hsd) LL Yg Pr (by rw [hbd,hb])
   subst this;have hm2:=hw0 (by unfold W;rw [hX];exact ⟨_,hm⟩);have e2:=(NT td _ lj hm hlu).unique hr (NT td _ lj hm2 hlu);subst e2;cases BP
  rcases Dh t li hl with h1|h1
  · rcases Dh u lj qC with h2|h2
    · obtain ⟨j1,k1,rfl,hj1,_⟩:=h1
      obtain ⟨j2,k2,rfl,hj2,_⟩:=h2;have e1:=(Fz j1 k1 hj1).unique hr hc;have e2:=(Fz j2 k2 hj2).unique hr IB;subst e1 e2;rw [he.distinct j1 j2 k1 k2 li lj hj1 hj2 hs BP hl qC hb]
    grind
  rcases Dh u lj qC with h2|h2
  · grind
  obtain ⟨k0,LL,Pr,_⟩:=old t li k h1 hc hs
  obtain ⟨k1,LD,hs1,_⟩:=old u lj k' h2 IB BP;exact hv.k7 t u li lj k0 k1 h1 h2 LL LD Pr hs1 hb
 ·
  rcases Dh t li hl with ⟨j,k1,rfl,hj,_⟩|VJ
  · have e:=(Fz j k1 hj).unique hr hc
    subst e;obtain ⟨h2,h3⟩:=he.news j k1 li hj hl;exact (h3 hs).1
  obtain ⟨k0,LL,Pr,afj,_,_⟩:=old t li k VJ hc hs
  have hn:=hv.free t li k0 VJ LL Pr h0 (fun j hj hd=>hf j hj (.inl hd));cases hb:fA li.eg with
  |none=>rfl
  |some o=>
   rcases he.fa _ _ hb with h|h|⟨t2,l2,k2,h1,h2,h3,h4,h5⟩
   · grind
   · have:=afj.lt Pr;omega
   have hm:=uH.1 h1
   have:=hv.k7 t2 t l2 li k2 k0 h2 VJ (Yf t2 l2 k2 hm h2 h3) LL h4 Pr h5;exact absurd (by unfold FR;grind) (hf i D1 (.inr rfl))
 ·
  have hji:=fun e=>LH (.inr e)
  have afl:=fun h=>LH (.inl h)
  cases hl:bz t with
  |none=>rfl
  |some li=>
   rcases he.oo t li hl with h|⟨h3,h4⟩
   · rw [hv.fresh j hj afl t h1 h2] at h;cases h
   rcases abG hji with h|h
   · have:=hr.kg (show j+1<=i by omega) (by omega);omega
   have:=hr.kg (show i+1<=j by omega) (by omega);omega
 ·
  have Sf:=abj hb hv.size;rw [he.frame b Sf (fun t k li k0 hm hl hs pC XD=>?_)]
  · exact hv.frame b hb hh
  rcases hv.own t li k0 hl (NV t k li k0 hm hl hs) pC with h|⟨u,lu,ku,h1,h2,h3,h4⟩
  · omega
  grind
 · rcases he.fa b o hb with h|h|⟨t,li,k,h1,h2,h3,h4,h5⟩
   · exact hv.fa b o h
   · exact .inr (.inl (ab3 hv.size h))
   rcases hv.own t li k h2 (Yf t li k (uH.1 h1) h2 h3) h4 with h|⟨u,lu,ku,g1,g2,g3,g4⟩
   · exact .inr (.inl (by omega))
   grind
 · rcases he.oo t li hl with h|⟨h,_⟩
   · exact hv.rR t li h
   exact .inr (ab3 (hr.kg (abd _) (by omega)) h)
 rcases Dh t li hl with ⟨j,k1,rfl,hj,_⟩|VJ
 · have e:=(Fz j k1 hj).unique hr hc
   subst e;obtain ⟨h2,h3⟩:=he.news j k1 li hj hl;rcases (h3 hs).2 with h|⟨td,lt,kd,hm,hld,hsd,Yg,hbd⟩
   · exact .inl (ab3 hv.size h)
   rcases hv.own td lt kd hld (NV td _ lt kd hm hld hsd) Yg with h|⟨u,lu,ku,g1,g2,g3,g4⟩
   · exact .inl (by omega)
   grind
 obtain ⟨k0,LL,Pr,_⟩:=old t li k VJ hc hs
 exact hv.own t li k0 VJ LL Pr
end
end Go.Vm
/- A region: a call that works on the blocks themselves, and a skipped operation. -/
namespace Go.Vm
section
variable {F : p8} {rec : Task -> Option Out} {ops : List ck} {S : Nat -> St} {X : Nat -> Option XR} {BS : Nat -> Nat -> Prop} {nQ : Im} {eo : Loc} {w0 : World} {nt : Nat}
  {done : Nat -> Prop} {im : Im} {loc : Loc} {a : Act} {w : World} {i : Nat}
theorem Mj {v:PV} {s:cU} {z:List Nat} (hX:X i=adh (.shr v s z)) (t:Nat):W X i t:=by unfold W;rw [hX];trivial
theorem AB {j t:Nat} (h:W X j t):jJ X j:=by
 unfold W at h;unfold jJ
 grind
theorem Inv.sr (hr:Ch F rec ops S X) (ho:Ord ops S X BS) (hv:Inv ops S X nQ eo w0 nt done im loc a w) (hp:Place ops BS done i) {v:PV} {s:cU} {z:List Nat} (hX:X i=adh (.shr v s z)):
 SR im loc (S i).aA (S i).fz w where
 bP:=hv.bP
 eg:=fun t li hl=>by obtain ⟨k,hc,hb⟩:=hv.tok t li hl;exact ⟨k,hv.cur hr ho hp hl (.inr (Mj hX t)) hc,hb⟩
 k7:=fun t u li lj k k' hl qC hs BP h h' hb=>by obtain ⟨k1,LD,_⟩:=hv.tok t li hl;obtain ⟨k2,Pn,_⟩:=hv.tok u lj qC;have e1:=hv.cur hr ho hp hl (.inr (Mj hX t)) LD;have e2:=hv.cur hr ho hp qC (.inr (Mj hX u)) Pn;rw [hs] at e1;injection e1 with e1;subst e1;rw [BP] at e2;injection e2 with e2;subst e2;exact hv.k7 t u li lj _ _ hl qC LD Pn h h' hb
 free:=fun t li k hl hs h hz=>by obtain ⟨k1,LD,_⟩:=hv.tok t li hl;have e1:=hv.cur hr ho hp hl (.inr (Mj hX t)) LD;rw [hs] at e1;injection e1 with e1;subst e1;obtain ⟨h0,h1⟩:=Inv.JF hr ho hp (Mj hX t) (mG.1 hz);exact hv.free t li _ hl LD h h0 h1
theorem Inv.Yh {S:Nat->St} (ho:Ord ops S X BS) (hp:Place ops BS done i) {x:ck} (hx:ops[i]? =adh x) {v:PV} {v':Value} {fA:Im} {bz:Loc}
 (hv:Inv ops S X nQ eo w0 nt done im loc a w) (hi:rZ im fA) (hl:pR loc bz) (hS:(S (i+1)).env=kY x.dst v (S i).env) (tM:VR fA bz v v') (y5: ∀d,x.dst=adh d->d<nt):
 ∀t,∃m,m<=adc ops/\(∀j y,ops[j]? =adh y->y.dst=adh t->(plus done i j↔j<m))/\VR fA bz (lk t (S m).env) ((a.put x.dst v').tmps.getD t Go.undef):=by
 intro t;have D1:=hp.lt
 by_cases hd:x.dst=adh t
 · refine ⟨i+1,D1,fun j y hy XE=>?_,?_⟩
   · rcases ab1 j i with h|h|h
     · exact ⟨fun _=>by omega,fun _=> .inl (hp.pre j (dm hy) (ho.JE j i t y x h hy hx XE (.inr hd)))⟩
     · subst h;exact ⟨fun _=>by omega,fun _=> .inr rfl⟩
     refine ⟨fun P5=>?_,fun h'=>by omega⟩
     rcases P5 with P5|P5
     · exact absurd P5 (hp.zI (dm hy) (ho.JE i j t x y h hx hy hd (.inr XE)))
     omega
   rw [hS]
   simp [hd,kY,wz,Act.put];have:=y5 t hd;simp [hv.RX,this,tM]
 obtain ⟨m,hm,h1,h2⟩:=hv.tm t
 refine ⟨m,hm,fun j y hy XE=>?_,?_⟩
 · have fy:j≠i:=by grind
   have:=h1 j y hy XE;exact ⟨fun P5=>this.1 (P5.resolve_right fy),fun h=> .inl (this.2 h)⟩
 have:=h2.mono hi hl
 cases hxd:x.dst with
 |none=>assumption
 |some d=>
  have fy:d≠t:=fun e=>hd (by rw [hxd,e])
  simpa [Act.put,fy] using this
theorem put_defers (a:Act) (d:Option Nat) (v:Value):(a.put d v).defers=a.defers:=by cases d<;>rfl
theorem P6 (a:Act) (d:Option Nat) (v:Value):(a.put d v).tmps.size=a.tmps.size:=by cases d<;>simp [Act.put]
theorem Inv.Yi (hr:Ch F rec ops S X) (ho:Ord ops S X BS) (hv:Inv ops S X nQ eo w0 nt done im loc a w) (hp:Place ops BS done i) {x:ck} (hx:ops[i]? =adh x) {v:PV} {s:cU} {z:List Nat}
 (hX:X i=adh (.shr v s z)) (hS:S (i+1)=(XR.shr v s z).next x.dst (S i)) {v':Value} {fA:Im} {bz:Loc} {w':World} (hf:zF im loc (S i).aA w v s z fA bz w' v')
 (y5: ∀d,x.dst=adh d->d<nt):Inv ops S X nQ eo w0 nt (plus done i) fA bz (a.put x.dst v') w':=by
 have D1:=hp.lt;have Ax:(S (i+1)).aA=s:=by rw [hS];rfl
 have afm: ∀t li,loc t=adh li-> ∀k,(S i).aA[t]? =adh k->Fw S X (adc ops) done t k:=by
  intro t li hl k hs;obtain ⟨k1,LD,_⟩:=hv.tok t li hl;have e1:=hv.cur hr ho hp hl (.inr (Mj hX t)) LD
  grind
 have afn: ∀t k,s[t]? =adh k->Fw S X (adc ops) (plus done i) t k:=by
  intro t k hs;refine ⟨i+1,D1,fun j hj Ui=>?_,fun c hc h1 h2=>?_,by grind⟩
  · rcases ab1 j i with h|h|h
    · exact ⟨fun _=>by omega,fun _=> .inl (hp.pre j hj (ho.PB j i h D1 (.inr ⟨AB Ui,⟨v,s,z,hX⟩⟩)))⟩
    · subst h;exact ⟨fun _=>by omega,fun _=> .inr rfl⟩
    refine ⟨fun hd=>?_,fun h'=>by omega⟩
    rcases hd with hd|hd
    · exact absurd hd (hp.zI hj (ho.PB i j h hj (.inl ⟨⟨v,s,z,hX⟩,AB Ui⟩)))
    omega
  rcases aaE c (i+1) with h|h
  · exact h
  have:=hr.kg (by omega) (by omega)
  grind
 have NW: ∀t li,bz t=adh li-> ∀k,Fw S X (adc ops) (plus done i) t k->s[t]? =adh k:=by
  intro t li hl k hc;obtain ⟨k1,h1,_⟩:=hf.sr.eg t li hl;have:=hc.unique hr (afn t k1 h1)
  grind
 refine {
  tm:=Inv.Yh ho hp hx hv hf.jt hf.eS (by rw [hS];rfl) hf.vr y5
  bP:=hf.sr.bP
  tok:=fun t li hl=>by
   obtain ⟨k,h1,h2⟩:=hf.sr.eg t li hl
   grind
  k7:=fun t u li lj k k' hl qC hc IB hs BP hb=>hf.sr.k7 t u li lj k k' hl qC (NW t li hl k hc) (NW u lj qC k' IB) hs BP hb
  free:=fun t li k hl hc hs h0 yX=>by refine hf.sr.free t li k hl (NW t li hl k hc) hs (mG.2 ?_);have:=yX i D1 (.inr rfl);unfold FR at this;grind
  fresh:=fun j hj LH t h1 h2=>?_
  jt:=hv.jt.trans hf.jt
  eS:=hv.eS.trans hf.eS
  os:=hf.os.trans hv.os
  tape:=hf.tape.trans hv.tape
  output:=hf.output.trans hv.output
  size:=ab3 hv.size hf.size
  frame:=fun b hb hh=>?_
  fa:=fun b o hb=>?_
  rR:=fun t li hl=>?_
  own:=fun t li k hl hc hs=>?_
  defers:=by rw [put_defers];exact hv.defers
  RX:=by rw [P6];exact hv.RX}
 · have hji:=fun e=>LH (.inr e)
   have afl:=fun h=>LH (.inl h)
   cases hl:bz t with
   |none=>rfl
   |some li=>
    obtain ⟨k,hk,_⟩:=hf.sr.eg t li hl;have iz:=dm hk;rcases hf.rR t li hl with h|h
    · rw [hv.fresh j hj afl t h1 h2] at h;cases h
    rcases abG hji with h'|h'
    · have:=hr.kg (show j+1<=i by omega) (by omega);omega
    have:=hr.kg (show i+1<=j by omega) (by omega)
    grind
 · rw [hf.frame b (abj hb hv.size) fun t li k hl hs pC XD=>?_]
   · exact hv.frame b hb hh
   rcases hv.own t li k hl (afm t li hl k hs) pC with h|⟨u,lu,ku,g1,g2,g3,g4⟩
   · omega
   grind
 · rcases hf.fa b o hb with h|h|⟨t,li,k,h1,h2,h3,h4⟩
   · exact hv.fa b o h
   · exact .inr (.inl (ab3 hv.size h))
   rcases hv.own t li k h1 (afm t li h1 k h2) h3 with h|⟨u,lu,ku,g1,g2,g3,g4⟩
   · exact .inr (.inl (by omega))
   grind
 · rcases hf.rR t li hl with h|h
   · exact hv.rR t li h
   exact .inr (ab3 (hr.kg (abd _) (by omega)) h)
 rcases hf.own t li k hl (NW t li hl k hc) hs with h|⟨u,lu,ku,h1,h2,h3,h4⟩
 · exact .inl (ab3 hv.size h)
 rcases hv.own u lu ku h1 (afm u lu h1 ku h2) h3 with h|⟨u',lu',ku',g1,g2,g3,g4⟩
 · exact .inl (by omega)
 grind
theorem Inv.step_skip (_hr:Ch F rec ops S X) (ho:Ord ops S X BS) (hv:Inv ops S X nQ eo w0 nt done im loc a w) (hp:Place ops BS done i) {x:ck} (hx:ops[i]? =adh x)
 (hX:X i=adU) (hS:S (i+1)={S i with env:=kY x.dst .na (S i).env}) (y5: ∀d,x.dst=adh d->d<nt):Inv ops S X nQ eo w0 nt (plus done i) im loc (a.put x.dst Go.undef) w:=by
 have hnW: ∀t,¬W X i t:=fun t h=>by unfold W at h;grind
 have afn: ∀t k,Fw S X (adc ops) done t k->Fw S X (adc ops) (plus done i) t k:=by
  intro t k ⟨m,hm,h1,h2,h3⟩;refine ⟨m,hm,fun j hj Ui=>?_,h2,h3⟩;have fy:j≠i:=fun e=>hnW t (e▸Ui)
  have:=h1 j hj Ui;exact ⟨fun hd=>this.1 (hd.resolve_right fy),fun h=> .inl (this.2 h)⟩
 have NW: ∀t k,Fw S X (adc ops) (plus done i) t k->Fw S X (adc ops) done t k:=by
  intro t k ⟨m,hm,h1,h2,h3⟩;refine ⟨m,hm,fun j hj Ui=>?_,h2,h3⟩;have fy:j≠i:=fun e=>hnW t (e▸Ui)
  have:=h1 j hj Ui;exact ⟨fun hd=>this.1 (.inl hd),fun h=>(this.2 h).resolve_right fy⟩
 refine {
  tm:=Inv.Yh ho hp hx hv (.refl _) (.refl _) (by rw [hS]) .na y5
  bP:=hv.bP
  tok:=fun t li hl=>let ⟨k,h1,h2⟩:=hv.tok t li hl;⟨k,afn t k h1,h2⟩
  k7:=fun t u li lj k k' hl qC hc IB hs BP hb=>hv.k7 t u li lj k k' hl qC (NW t k hc) (NW u k' IB) hs BP hb
  free:=fun t li k hl hc hs h0 yX=>hv.free t li k hl (NW t k hc) hs h0 fun j hj hd=>yX j hj (.inl hd)
  fresh:=fun j hj LH t h1 h2=>hv.fresh j hj (fun h=>LH (.inl h)) t h1 h2
  jt:=hv.jt
  eS:=hv.eS
  os:=hv.os
  tape:=hv.tape
  output:=hv.output
  size:=hv.size
  frame:=hv.frame
  fa:=hv.fa
  rR:=hv.rR
  own:=fun t li k hl hc hs=>hv.own t li k hl (NW t k hc) hs
  defers:=by rw [put_defers];exact hv.defers
  RX:=by rw [P6];exact hv.RX}
theorem Inv.start {st:St} (h0:S 0=st) (ov:SR nQ eo st.aA st.fz w0) (her:ER nQ eo st.env a.tmps) (hd:a.defers=[]) (hn:a.tmps.size=nt) (hr:Ch F rec ops S X):
 Inv ops S X nQ eo w0 nt (fun _=>False) nQ eo a w0:=by
 subst h0;have iz:=fun t li hl=>let ⟨k,h,_⟩:=ov.eg t li hl;dm h
 have cur: ∀t li k,eo t=adh li->Fw S X (adc ops) (fun _=>False) t k->(S 0).aA[t]? =adh k:=by intro t li k hl ⟨m,hm,h1,h2,h3⟩;rw [<- hr.Dg (abd m) hm (fun j _ hj hW=>(h1 j (by omega) hW).2 hj) (iz t li hl)];exact h3
 exact {
  tm:=fun t=>⟨0,abd _,fun j y _ _=>⟨fun h=>h.elim,fun h=>by omega⟩,her t⟩
  bP:=ov.bP
  tok:=fun t li hl=>by obtain ⟨k,h1,h2⟩:=ov.eg t li hl;refine ⟨k,⟨0,abd _,fun j _ _=>⟨fun h=>h.elim,fun h=>by omega⟩,fun c hc h3 h4=>?_,h1⟩,h2⟩;have:=iz t li hl;have:=hr.kg (abd c) (by omega);omega
  k7:=fun t u li lj k k' hl qC hc IB=>ov.k7 t u li lj k k' hl qC (cur t li k hl hc) (cur u lj k' qC IB)
  free:=fun t li k hl hc hs hz _=>ov.free t li k hl (cur t li k hl hc) hs (mG.2 hz)
  fresh:=fun j hj _ t h1 h2=>by
   cases hl:eo t with
   |none=>rfl
   |some li=>have:=iz t li hl;have:=hr.kg (abd j) (by omega);omega
  jt:= .refl _
  eS:= .refl _
  os:=rfl
  tape:= .refl _
  output:=rfl
  size:=PP _
  frame:=fun _ _ _=>rfl
  fa:=fun _ _ h=> .inl h
  rR:=fun _ _ h=> .inl h
  own:=fun t li k hl hc hs=> .inr ⟨t,li,k,hl,cur t li k hl hc,hs,rfl⟩
  defers:=hd
  RX:=hn}
structure Kept (nQ:Im) (eo:Loc) (mh:cU) (w0:World) (st:St) (im:Im) (loc:Loc) (w:World):Prop where
 sr:SR im loc st.aA st.fz w
 jt:rZ nQ im
 eS:pR eo loc
 os:w.os=w0.os
 tape:Tape w0 w
 output:w.output=w0.output
 size:w0.heap.size<=w.heap.size
 frame: ∀b,b<w0.heap.size->(∀t li k,eo t=adh li->mh[t]? =adh k->k.bW=adV->li.eg≠b)->w.heap[b]? =w0.heap[b]?
 fa: ∀b o,im b=adh o->nQ b=adh o\/w0.heap.size<=b\/ ∃t li k,eo t=adh li/\mh[t]? =adh k/\k.bW=adV/\li.eg=b
 rR: ∀t li,loc t=adh li->eo t=adh li\/adc mh<=t
 own: ∀t li k,loc t=adh li->st.aA[t]? =adh k->k.bW=adV->(w0.heap.size<=li.eg\/ ∃u lu ku,eo u=adh lu/\mh[u]? =adh ku/\ku.bW=adV/\lu.eg=li.eg)
theorem Inv.finish (hr : Ch F rec ops S X) (hv : Inv ops S X nQ eo w0 nt done im loc a w) (hd : ∀ j, j < (adc ops) -> done j) :
    Kept nQ eo (S 0).aA w0 (S (adc ops)) im loc w /\ ER im loc (S (adc ops)).env a.tmps /\ a.defers = [] /\ a.tmps.size = nt := by
  have cur : ∀ t k, Fw S X (adc ops) done t k -> (S (adc ops)).aA[t]? = adh k := by
    intro t k ⟨m, hm, h1, h2, h3⟩
    rw [hr.Dg hm (PP _) (fun j h4 h5 hW => by have := (h1 j h5 hW).1 (hd j h5); omega) (dm h3)]
    exact h3
  have abH : ∀ t li k, loc t = adh li -> (S (adc ops)).aA[t]? = adh k -> Fw S X (adc ops) done t k := by
    intro t li k hl hs
    obtain ⟨k1, hc, _⟩ := hv.tok t li hl
    have := cur t k1 hc
    rw [hs] at this; injection this with this; subst this; exact hc
  refine ⟨{
    sr := { bP := hv.bP
            eg := fun t li hl => let ⟨k, h1, h2⟩ := hv.tok t li hl; ⟨k, cur t k h1, h2⟩
            k7 := fun t u li lj k k' hl qC hs BP => hv.k7 t u li lj k k' hl qC (abH t li k hl hs) (abH u lj k' qC BP)
            free := fun t li k hl hs pC hz => by
              have hz := mG.1 hz
              refine hv.free t li k hl (abH t li k hl hs) pC (fun h => hz (hr.IY (abd _) (PP _) t h)) fun j hj _ hf => ?_
              exact hz (hr.IY (hj) (PP _) t (hr.aed hj hf)) }
    jt := hv.jt, eS := hv.eS, os := hv.os, tape := hv.tape, output := hv.output, size := hv.size, frame := hv.frame, fa := hv.fa, rR := hv.rR
    own := fun t li k hl hs => hv.own t li k hl (abH t li k hl hs) }, fun t => ?_, hv.defers, hv.RX⟩
  obtain ⟨m, hm, h1, h2⟩ := hv.tm t
  rw [hr.Sd hm (PP _) fun j hj h3 h4 y5 => ?_]
  · exact h2
  grind
end
end Go.Vm
/- One operation of a region, in the model. -/
namespace Go.Vm
theorem GY {P:Program} {o:Oper} {a:Act} {w:World} {f:FuncId} {us:Array Value} {R:Value->World->Prop} {next:Act->World->Prop} {Q:Exit->Act->World->Prop}
 (h:(execOp a.eval o).run P w=(callFunc f us).run P w) (hc:yZ P f us w R) (hR: ∀v w',R v w'->next (a.put o.dst v) w'):o.wp P a w next Q:=by
 unfold Oper.wp;rw [h];rcases hc with ⟨v,w',h1,h2⟩|⟨h1,h2⟩
 · grind [Oper.upon_value]
 rw [h1,Oper.upon_enter]
 refine h2.mono fun e w' ⟨v,he,hv⟩=>?_
 grind
theorem Sg {im:Im} {loc:Loc} {e:Env} {a:Act} (x:gR) (h: ∀t,x= .t t->VR im loc (lk t e) (a.tmps.getD t Go.undef)) (o:Operand) (hc:bF x o=adV):VR im loc (x.ev e) (a.eval o):=by
 unfold bF at hc;split at hc
 · rename_i n m
   have:n=m:=by simpa using hc
   subst this;exact h n rfl
 · exact NC hc
 · rename_i f g
   have:f=g:=by simpa using hc
   subst this;exact .fx f [] [] [] [] .nil .nil
 · exact .undef _
 cases hc
section
variable {P : Program} {F : p8} {rec : Task -> Option Out} {ops : List ck} {S : Nat -> St} {X : Nat -> Option XR} {BS : Nat -> Nat -> Prop} {nQ : Im} {eo : Loc} {w0 : World} {nt : Nat}
  {done : Nat -> Prop} {im : Im} {loc : Loc} {a : Act} {w : World} {i : Nat} {prims : FuncId -> Bool} {mi : Array Oper}
theorem VR.abI {v:Value} (h:VR im loc .na v):v=Go.undef:=by cases h;rfl
theorem AD {r:tz} {d:Option Nat} {st:St}:((XR.loc r).next d st).aA.length=adc st.aA+(adc r.news):=by simp [XR.next,ya,kf]
theorem Mk {x:ck} {o:Oper} {e:Env} {b:Bool} (hc:zH mi x.guard o.guard=adV) (hs: ∀s c,x.guard=adh (s,c)->VR im loc (lk s e) (a.tmps.getD s Go.undef)) (h:wanted x.guard e=adh b):
 Region.wanted o (yielded mi a.tmps)=b:=by
 unfold Region.wanted;cases hg:x.guard with
 |none=>
  rw [hg] at hc h;cases ho:o.guard with
  |none=>simp [wanted] at h;subst h;rfl
  |some q=>rw [ho] at hc;simp [zH] at hc
 |some q=>
  obtain ⟨s,c⟩:=q;rw [hg] at hc h;cases ho:o.guard with
  |none=>rw [ho] at hc;simp [zH] at hc
  |some q'=>
   obtain ⟨j,c'⟩:=q';rw [ho] at hc;simp [zH,IR,beq_iff_eq] at hc;obtain ⟨rfl,hd⟩:=hc;have hv:=hs s c hg;dsimp only;unfold yielded;rw [hd];simp [wanted] at h;split at h
   · rename_i b' hl
     rw [hl] at hv;have:=hv.mE;have ht:a.tmps[s]? =adh (.bool b'):=by
      simp [ab4] at this;cases hq:a.tmps[s]? with
      |none=>rw [hq] at this;simp [Go.undef] at this
      |some u=>rw [hq] at this;exact congrArg adh this
     simp_all
   · rename_i hl
     rw [hl] at hv;have:=hv.abI;injection h with h;subst h;have ht: ∀b',a.tmps[s]?≠adh (.bool b'):=by intro b' hq;simp [ab4,hq,] at this;cases this
     simp
   cases h
structure NX (P:Program) (F:p8) (rec:Task->Option Out):Prop where
 func:GV P rec
 nN:Df P F
theorem Inv.wpOp (hE:NX P F rec) (hr:Ch F rec ops S X) (ho:Ord ops S X BS) (hv:Inv ops S X nQ eo w0 nt done im loc a w) (hp:Place ops BS done i) {x:ck} {o:Oper} (hx:ops[i]? =adh x) (hmo:mi[i]? =adh o)
 (hc:yi P prims nt mi x o=adV) {Q:Exit->Act->World->Prop} {K:Act->World->Prop}
 (hK: ∀fA bz a' w',Inv ops S X nQ eo w0 nt (plus done i) fA bz a' w'->K a' w'):Go.wpOp P mi Q i K a w:=by
 unfold yi at hc;simp [IR,beq_iff_eq] at hc;obtain ⟨⟨⟨y5,hnt⟩,hg⟩,iA⟩:=hc;have hd: ∀d,x.dst=adh d->d<nt:=by intro d h;rw [h] at hnt;simpa using hnt
 have aee: ∀t,t∈aC x->VR im loc (lk t (S i).env) (a.tmps.getD t Go.undef):=fun t ht=>hv.slot hr ho hp hx ht
 have VP: ∀y∈x.op.ie,∀o',bF y o'=adV->VR im loc (y.ev (S i).env) (a.eval o'):=by intro y hy o' hco;refine Sg y (fun t ht=>aee t ?_) o' hco;subst ht;exact abA _ (List.mem_filterMap.2 ⟨.t t,hy,rfl⟩)
 have hgs: ∀s c,x.guard=adh (s,c)->VR im loc (lk s (S i).env) (a.tmps.getD s Go.undef):=by intro s c h;refine aee s (abz _ ?_);rw [h];simp
 unfold Go.wpOp;simp [hmo];rcases hr.steps i x hx with ⟨hw,xr,mg,Av,hX,hS⟩|⟨hw,hX,hS⟩
 · rw [Mk hg hgs hw]
   left;have aiR: ∀{own:Bool} {f:FuncId} {args:List PV} {us:List Value} {r:tz},xr= .loc r->ez F rec own f args (S i).aA (S i).fz=adh r->fW im loc args us->
    (execOp a.eval o).run P w=(callFunc f ⟨us⟩).run P w->o.wp P a w K Q:=by
    intro own f args us r hxr hcp Dd dq;subst hxr;have hk:=hv.known hr ho hp hX Av (by rw [hS];exact AD);refine GY dq (NS hE.func hE.nN hcp Dd hk) fun v' w' ⟨fA,bz,tM,BQ⟩=>?_
    exact hK _ _ _ _ (y5▸hv.Fy hr ho hp hx hX Av hS tM BQ hd)
   have Yj: ∀{f:FuncId} {args:List PV} {us:List Value},iB rec f args (S i).aA (S i).fz=adh xr->fW im loc args us->
    (execOp a.eval o).run P w=(callFunc f ⟨us⟩).run P w->o.wp P a w K Q:=by
    intro f args us wB Dd dq;unfold iB at wB;split at wB
    · rename_i v s z Jv
      split at wB
      · injection wB with wB;subst wB
        refine GY dq (hE.func f args _ _ v s z Jv im loc w us (hv.sr hr ho hp hX) Dd) fun v' w' ⟨fA,bz,hf⟩=>?_
        exact hK _ _ _ _ (y5▸hv.Yi hr ho hp hx hX hS hf hd)
      cases wB
    cases wB
   have afp: ∀{r:tz},xr= .loc r->bO (S i).env (S i).aA (S i).fz x.op=adh r->o.wp P a w K Q:=by
    intro r hxr he;subst hxr;have hk:=hv.known hr ho hp hX Av (by rw [hS];exact AD);obtain ⟨nx,w',bz,dq,hnx,BQ⟩:=X2 iA VP he hk;unfold Oper.wp;rw [dq];rcases hnx with ⟨rfl,hu⟩|⟨v,rfl,tM⟩
    · rw [Oper.upon_skip]
      exact hK _ _ _ _ (y5▸hv.Fy hr ho hp hx hX Av hS (by rw [hu];exact .undef _) BQ hd)
    exact hK _ _ _ _ (y5▸hv.Fy hr ho hp hx hX Av hS tM BQ hd)
   cases hxo:x.op with
   |call m f args=>
    rw [hxo] at mg iA VP;have Yk: ∃as ats,o.op= .call {callee:= .value (.func f),args:=as,argTypes:=ats}/\fX args as.toList=adV:=by
     cases XF:o.op with
     |call c=>
      obtain ⟨callee,as,ats⟩:=c;rw [XF] at iA;cases callee with
      |value g=>
       cases g with
       |func g=>
        simp [BD,] at iA
        grind
       |_=>simp [BD] at iA
      |_=>simp [BD] at iA
     |_=>rw [XF] at iA;simp [BD] at iA
    obtain ⟨as,ats,XF,hco⟩:=Yk;have hrel:=qV (fun y hy=>VP y (by assumption)) hco;have dq:(execOp a.eval o).run P w=(callFunc f ⟨as.toList.map a.eval⟩).run P w:=by
     have:(⟨as.toList.map a.eval⟩:Array Value)=as.map a.eval:=by apply ad3;simp
     rw [this];simp [execOp,XF,resolve,Act.eval,Deferred.ofValue,invoke]
    cases m with
    |pur=>
     simp [BB,WF] at mg
     grind
    |own=>
     simp [BB,WF] at mg
     grind
    |shr=>exact Yj mg hrel dq
    |fp=>
     simp [BB,WF] at mg;obtain ⟨r,hr1,hr2⟩:=mg;subst hr2;have hk:=hv.known hr ho hp hX Av (by rw [hS];exact AD);refine GY dq (Sb hE.func hr1 hrel hk) fun v' w' ⟨fA,bz,tM,BQ⟩=>?_
     exact hK _ _ _ _ (y5▸hv.Fy hr ho hp hx hX Av hS tM BQ hd)
   |Bz y args=>
    rw [hxo] at mg iA VP;have Yk: ∃t as ats,o.op= .call {callee:= .value (.tmp t),args:=as,argTypes:=ats}/\bF y (.tmp t)=adV/\fX args as.toList=adV:=by
     cases XF:o.op with
     |call c=>
      obtain ⟨callee,as,ats⟩:=c;rw [XF] at iA;cases callee with
      |value g=>
       cases g with
       |tmp g=>
        simp [BD,] at iA
        grind
       |_=>simp [BD] at iA
      |_=>simp [BD] at iA
     |_=>rw [XF] at iA;simp [BD] at iA
    obtain ⟨t,as,ats,XF,hcy,hco⟩:=Yk;have hrel:=qV (fun y hy=>VP y (by simp [oC.ie,hy])) hco;have hy:=VP y (by simp [oC.ie]) (.tmp t) hcy;simp [BB] at mg;split at mg
    · rename_i f p q hyv
      rw [hyv] at hy;generalize hgv:a.eval (.tmp t)=gv at hy;cases hy with
      |fx _ _ _ us vs h1 h2=>
      have qW:=(h1.append hrel).append h2;have dq:(execOp a.eval o).run P w=(callFunc f ⟨us++as.toList.map a.eval++vs⟩).run P w:=by
       have:(⟨us++as.toList.map a.eval++vs⟩:Array Value)=(⟨us⟩++as.map a.eval)++⟨vs⟩:=by apply ad3;simp
       rw [this];simp [execOp,XF,resolve,hgv,Deferred.ofValue,invoke]
      grind [WF]
    cases mg
   |_=>rw [hxo] at mg;simp [BB,WF] at mg;obtain ⟨r,hr1,hr2⟩:=mg;exact afp hr2.symm (by rw [hxo];exact hr1)
 rw [Mk hg hgs hw]
 exact hK _ _ _ _ (y5▸hv.step_skip hr ho hp hx hX hS hd)
end
end Go.Vm
/- A region, in the order of the text or in a drawn one. -/
namespace Go.Vm
def zJ (P:Program) (prims:FuncId->Bool) (nt:Nat) (mi:Array Oper):List ck->List Oper->Bool
 | [],[]=>adV
 |x::xs,o::os=>yi P prims nt mi x o&&zJ P prims nt mi xs os
 |_,_=>adW
theorem FA {P:Program} {prims:FuncId->Bool} {nt:Nat} {mi:Array Oper}: ∀{xs:List ck} {os:List Oper},zJ P prims nt mi xs os=adV->
 (adc xs)=adc os/\ ∀(i:Nat) (x:ck) (o:Oper),xs[i]? =adh x->os[i]? =adh o->yi P prims nt mi x o=adV
 | [],[],_=>⟨rfl,fun i x o h=>by simp at h⟩
 |x::xs,o::os,h=>by
  simp [zJ,] at h;obtain ⟨h1,h2⟩:=FA h.2
  grind
 | [],_::_,h=>by simp [zJ] at h
 |_::_,[],h=>by simp [zJ] at h
def bit (m i:Nat):Bool:=Nat.testBit m i
def qY (mc:List Nat) (j:Nat):List Edge->Option Nat
 | []=>adh 0
 |e::es=>match qY mc j es with
  |some m=>if Region.binds .any e then (if abm e.on j then adh (m|||((mc.getD e.on 0)|||(1<<<e.on))) else adU) else adh m
  |none=>adU
def zK (mc:List Nat):Nat->List Nat->List Oper->Bool
 |_,[],[]=>adV
 |j,m::ms,o::os=>(match qY mc j o.after.toList with|some m'=>m==m'|none=>adW)&&zK mc (j+1) ms os
 |_,_,_=>adW
def zL (i : Nat) (x : ck) (ux : List Nat) : List ck -> List Nat -> Bool
  | [], _ => adV
  | y :: ys, m :: ms => (bit m i || ((match x.dst with
      | some d => !has (aC y) d && (match y.dst with | some d' => !(EQ d d') | none => adV)
      | none => adV) && (match y.dst with | some d => !has ux d | none => adV))) && zL i x ux ys ms
  | _ :: _, [] => adW
def zM:Nat->List ck->List Nat->Bool
 |_,[],_=>adV
 |i,x::xs,_::ms=>zL i x (aC x) xs ms&&zM (i+1) xs ms
 |_,_::_,[]=>adW
def GZ (P:Program) (prims:FuncId->Bool) (nt:Nat) (draw:Option (List Nat)) (afr:List ck) (mi:Array Oper) (flag:Bool):Bool:=
 zJ P prims nt mi afr mi.toList&&match draw with
 |none=>!flag
 |some bf=>flag&&EQ (adc bf) (adc afr)&&zK bf 0 bf mi.toList&&zM 0 afr bf
section
variable {P : Program} {F : p8} {rec : Task -> Option Out} {ops : List ck} {S : Nat -> St} {X : Nat -> Option XR} {BS : Nat -> Nat -> Prop} {nQ : Im} {eo : Loc} {w0 : World} {nt : Nat}
  {done : Nat -> Prop} {im : Im} {loc : Loc} {a : Act} {w : World} {i : Nat} {prims : FuncId -> Bool} {mi : Array Oper}
theorem Ord.text:Ord ops S X (· < ·) where
 JE:=fun _ _ _ _ _ h _ _ _ _=>h
 Ye:=fun _ _ _ _ _ h _ _ _ _=>h
 Se:=fun _ _ _ h _ _ _=>h
 aff:=fun _ _ _ h _ _ _=>h
 afg:=fun _ _ _ h _ _ _ _ _ _=>h
 PB:=fun _ _ h _ _=>h
 cl:=fun _ _ _ _ _=> .inr fun _ h _=>h
theorem JG (hE:NX P F rec) (hr:Ch F rec ops S X) (hc: ∀(i:Nat) (x:ck) (o:Oper),ops[i]? =adh x->mi[i]? =adh o->yi P prims nt mi x o=adV) (eT:(adc ops)=mi.size)
 {Q:Exit->Act->World->Prop} (hQ: ∀im loc a w,Inv ops S X nQ eo w0 nt (fun i=>i<adc ops) im loc a w->Q .normal a w):
 ∀(d n:Nat) (im:Im) (loc:Loc) (a:Act) (w:World),n+d=adc ops->Inv ops S X nQ eo w0 nt (fun i=>i<n) im loc a w->wpOps P mi Q (List.range' n d) a w
 |0,n,im,loc,a,w,hn,hv=>by
  have:n=(adc ops):=by omega
  subst this;exact hQ im loc a w hv
 |d+1,n,im,loc,a,w,hn,hv=>by
  have hx:=If (show n<(adc ops) by omega);have ho:=abo (show n<mi.size by omega);refine Inv.wpOp hE hr Ord.text hv {lt:=by omega,nd:=by omega,pre:=fun j _ h=>h,fx:=fun k _ h1 j _ h2=>by omega} hx ho (hc n _ _ hx ho) fun fA bz a' w' h'=>?_
  refine JG hE hr hc eT hQ d _ fA bz a' w' (by omega) ?_;have e:plus (fun i=>i<n) n=fun i=>i<n+1:=by
   funext j;unfold plus;apply propext;omega
  grind
def Bef (mc:List Nat) (i j:Nat):Prop:=bit (mc.getD j 0) i=adV
theorem AE {mc:List Nat} {j:Nat}: ∀{es:List Edge} {m:Nat},qY mc j es=adh m->(∀e∈es,Region.binds .any e=adV->e.on<j)/\
 ∀i,bit m i=adV-> ∃e∈es,Region.binds .any e=adV/\(e.on=i\/bit (mc.getD e.on 0) i=adV)
 | [],m,h=>by simp [qY,] at h;subst h;exact ⟨fun e h=>(by cases h),fun i h=>by simp [bit] at h⟩
 |e::es,m,h=>by
  simp [qY] at h;split at h
  · rename_i m' Fx
    obtain ⟨h1,h2⟩:=AE Fx;split at h
    · rename_i hb
      split at h
      · rename_i iz
        injection h with h;subst h;refine ⟨fun e' Pm HL=>?_,fun i hi=>?_⟩
        · rcases ad4.1 Pm with rfl|Pm
          · simpa using iz
          exact h1 e' Pm HL
        simp only [bit,Nat.testBit_or,Bool.or_eq_true] at hi
        rcases hi with hi|hi|hi
        · obtain ⟨e',Pm,h3⟩:=h2 i hi
          exact ⟨e',List.mem_cons_of_mem _ Pm,h3⟩
        · exact ⟨e,by simp,hb,.inr hi⟩
        refine ⟨e,by simp,hb,.inl ?_⟩
        rw [Nat.one_shiftLeft,Nat.testBit_two_pow] at hi;simpa using hi
      cases h
    grind
  cases h
theorem HS {mc:List Nat}: ∀{j:Nat} {ms:List Nat} {os:List Oper},zK mc j ms os=adV->adc ms=adc os/\
 ∀(k:Nat) (m:Nat) (o:Oper),ms[k]? =adh m->os[k]? =adh o->qY mc (j+k) o.after.toList=adh m
 |j,[],[],_=>⟨rfl,fun k m o h=>by simp at h⟩
 |j,m::ms,o::os,h=>by
  simp [zK,] at h;obtain ⟨h1,h2⟩:=h;obtain ⟨h3,h4⟩:=HS h2
  grind
 |j,[],_::_,h=>by simp [zK] at h
 |j,_::_,[],h=>by simp [zK] at h
theorem FB {i:Nat} {x:ck} {ux:List Nat}: ∀{ys:List ck} {ms:List Nat},zL i x ux ys ms=adV-> ∀(k:Nat) (y:ck),ys[k]? =adh y->
 bit (ms.getD k 0) i=adV\/((∀d,x.dst=adh d->d∉aC y/\y.dst≠adh d)/\ ∀d,y.dst=adh d->d∉ux)
 | [],_,_,k,y,h=>by simp at h
 |z::ys,[],h,k,y,hy=>by simp [zL] at h
 |z::ys,m::ms,h,k,y,hy=>by
  simp [zL,] at h;obtain ⟨h1,h2⟩:=h;cases k with
  |succ k=>simpa using FB h2 k y (by simpa using hy)
  |zero=>
   simp at hy;subst hy;rcases h1 with h1|⟨h1,h3⟩
   · grind
   refine .inr ⟨fun d hd=>?_,fun d hd=>?_⟩
   · rw [hd] at h1
     simp [] at h1;refine ⟨mG.1 h1.1,fun hz=>?_⟩;simp_all
   rw [hd] at h3
   simp [] at h3;exact mG.1 h3
theorem Ci: ∀{i0:Nat} {xs:List ck} {ms:List Nat},zM i0 xs ms=adV-> ∀(i j:Nat) (x y:ck),i<j->xs[i]? =adh x->xs[j]? =adh y->
 bit (ms.getD j 0) (i0+i)=adV\/((∀d,x.dst=adh d->d∉aC y/\y.dst≠adh d)/\ ∀d,y.dst=adh d->d∉aC x)
 |i0,[],_,_,i,j,x,y,_,hx,_=>by simp at hx
 |i0,z::xs,[],h,i,j,x,y,_,hx,_=>by simp [zM] at h
 |i0,z::xs,m::ms,h,i,j,x,y,pX,hx,hy=>by
  simp [zM,] at h;obtain ⟨h1,h2⟩:=h;cases j with
  |zero=>omega
  |succ j=>
   cases i with
   |zero=>simp at hx;subst hx;simpa using FB h1 j y (by simpa using hy)
   |succ i=>
    have:=Ci h2 i j x y (by omega) (by simpa using hx) (by simpa using hy)
    grind
theorem Ml {i:Nat} {t:Tr}: ∀{l:List _},Nx i t l=adV-> ∀(k:Nat) (b:Tr) (m:Nat),l[k]? =adh (b,m)->t.zy b=adV->bit m i=adV
 | [],_,k,b,m,h,_=>by simp at h
 |(b',m')::r,h,k,b,m,hk,hc=>by
  simp [Nx,] at h;cases k with
  |zero=>
   obtain ⟨rfl,rfl⟩:=hk;rcases h.1 with h1|h1
   · grind
   exact h1
  |succ k=>exact Ml h.2 k b m (by simpa using hk) hc
theorem JH: ∀{i0:Nat} {l:List _},wq i0 l=adV->(∀(i:Nat) (t:Tr) (m:Nat),l[i]? =adh (t,m)->t.cl=adV)/\
 ∀(i j:Nat) (t b:Tr) (m m':Nat),i<j->l[i]? =adh (t,m)->l[j]? =adh (b,m')->t.zy b=adV->bit m' (i0+i)=adV
 |_,[],_=>⟨fun i t m h=>by simp at h,fun i j t b m m' _ h=>by simp at h⟩
 |i0,(t0,m0)::r,h=>by
  simp [wq,] at h;obtain ⟨⟨h1,h2⟩,h3⟩:=h;obtain ⟨h4,h5⟩:=JH h3;refine ⟨fun i t m hi=>?_,fun i j t b m m' pX hi hj hc=>?_⟩
  · grind
  cases j with
  |zero=>omega
  |succ j=>
   cases i with
   |zero=>
    grind [Ml]
   |succ i=>
    grind
theorem JI {l m:List Nat} {t:Nat} (h1:t∈l) (h2:t∈m):meets l m=adV:=by unfold meets;rw [ad1];exact ⟨t,h1,uH.2 h2⟩
theorem Ord.drawn (hr : Ch F rec ops S X) {mc : List Nat} (RW : (adc mc) = (adc ops)) (hs : zM 0 ops mc = adV) (ho : wq 0 ((D0 S X (adc ops)).zip mc) = adV) : Ord ops S X (Bef mc) := by
  obtain ⟨IA, hcz⟩ := JH ho
  have LJ : ∀ i, i < (adc ops) -> ((D0 S X (adc ops)).zip mc)[i]? = adh (DR (X i) (S i), mc.getD i 0) := by
    intro i hi
    rw [List.getElem?_zip_eq_some]
    refine ⟨?_, ?_⟩
    · unfold D0; simp [hi]
    grind
  have zy : ∀ i j, i < j -> j < (adc ops) -> (DR (X i) (S i)).zy (DR (X j) (S j)) = adV -> Bef mc i j := by
    intro i j pX hj hc
    have := hcz i j _ _ _ _ pX (LJ i (by omega)) (LJ j hj) hc
    unfold Bef; simpa using this
  have tch : ∀ j, jJ X j -> (DR (X j) (S j)).jJ = adV := by
    intro j h
    unfold jJ at h
    unfold DR
    cases hX : X j with
    | none => grind
    | some x =>
      rw [hX] at h
      cases x with
      | shr v s z => rfl
      | loc r =>
        simp [XR.tr, Tr.jJ, ]
        rcases h with h | h | h | h
        · cases XC : r.rd with
          | nil => exact absurd XC h
          | cons _ _ => simp
        · cases XC : r.fr with
          | nil => exact absurd XC h
          | cons _ _ => simp
        · cases XC : r.wr with
          | nil => exact absurd XC h
          | cons _ _ => simp
        grind
  have brr : ∀ j, xl X j -> (DR (X j) (S j)).PB = adV := by
    rintro j ⟨v, s, z, h⟩; rw [h]; rfl
  have tW : ∀ j t, W X j t -> jJ X j := fun j t h => AB h
  have tA : ∀ j t, A X j t -> jJ X j := by
    intro j t h
    unfold A at h; unfold jJ
    grind
  have PB : ∀ i j, i < j -> j < (adc ops) -> (xl X i /\ jJ X j \/ jJ X i /\ xl X j) -> Bef mc i j := by
    intro i j pX hj h
    refine zy i j pX hj ?_
    unfold Tr.zy
    rcases h with ⟨h1, h2⟩ | ⟨h1, h2⟩
    · rw [brr i h1, tch j h2]; simp
    grind
  have wrT : ∀ j t, W X j t -> ¬ xl X j -> t ∈ (DR (X j) (S j)).wr := by
    intro j t h hn
    unfold W at h
    cases hX : X j with
    | none => grind
    | some x =>
      rw [hX] at h
      cases x with
      | shr v s z => exact absurd ⟨v, s, z, hX⟩ hn
      | loc r =>
        obtain ⟨k, hk⟩ := h
        exact List.mem_map.2 ⟨(t, k), hk, rfl⟩
  have rdT : ∀ j t, A X j t -> t ∈ (DR (X j) (S j)).rd := by
    intro j t h
    unfold A at h
    cases hX : X j with
    | none => grind
    | some x =>
      rw [hX] at h
      cases x with
      | shr v s z => exact h.elim
      | loc r => exact abw.2 h
  exact {
    JE := fun i j t x y pX hx hy hd hu => by
      rcases Ci hs i j x y pX hx hy with h | ⟨h, _⟩
      · unfold Bef; simpa using h
      rcases hu with hu | hu
      · exact absurd hu (h t hd).1
      exact absurd hu (h t hd).2
    Ye := fun i j t x y pX hx hy hd hu => by
      rcases Ci hs i j x y pX hx hy with h | ⟨_, h⟩
      · unfold Bef; simpa using h
      exact absurd hu (h t hd)
    Se := fun i j t pX hj hW hAW => by
      by_cases hi : xl X i
      · exact PB i j pX hj (.inl ⟨hi, hAW.elim (tA j t) (tW j t)⟩)
      by_cases VN : xl X j
      · exact PB i j pX hj (.inr ⟨tW i t hW, VN⟩)
      refine zy i j pX hj ?_
      unfold Tr.zy
      rcases hAW with h | h
      · rw [JI (wrT i t hW hi) (rdT j t h)]; simp
      rw [JI (wrT i t hW hi) (wrT j t h VN)]; simp
    aff := fun i j t pX hj hA hW => by
      by_cases VN : xl X j
      · exact PB i j pX hj (.inr ⟨tA i t hA, VN⟩)
      refine zy i j pX hj ?_
      unfold Tr.zy
      rw [JI (rdT i t hA) (wrT j t hW VN)]; simp
    afg := fun i j t pX hj hsi h1 h2 VN hW => by
      refine zy i j pX hj ?_
      unfold Tr.zy
      have : ((DR (X j) (S j)).wr.any fun t => aba (DR (X i) (S i)).lo t && abm t (DR (X i) (S i)).hi) = adV := by
        rw [ad1]
        refine ⟨t, wrT j t hW VN, ?_⟩
        rcases hr.steps i _ (If (by omega)) with ⟨_, x, hx, _, hX, hn⟩ | ⟨_, hX, hn⟩
        · cases x with
          | shr v s z => exact absurd ⟨v, s, z, hX⟩ hsi
          | loc r =>
            rw [hn, AD] at h2
            rw [hX]
            simp [DR, XR.tr, ]
            exact ⟨h1, by simpa using h2⟩
        rw [hn] at h2; dsimp only at h2; omega
      rw [this]; simp
    PB := PB
    cl := fun i t hi hsi hAW => by
      left
      have hc := IA i _ _ (LJ i hi)
      cases hX : X i with
      | none => rcases hAW with h | h
                · unfold A at h; rw [hX] at h; exact h.elim
                unfold W at h; rw [hX] at h; exact h.elim
      | some x =>
        cases x with
        | shr v s z => exact absurd ⟨v, s, z, hX⟩ hsi
        | loc r =>
          have hb : ∀ u v : Nat, abm u v = adV -> u < v := fun u v h => by simpa using h
          rw [hX] at hc
          simp only [DR, XR.tr, IR, abh] at hc
          rcases hAW with h | h
          · unfold A at h; rw [hX] at h
            exact hb _ _ (hc.1 t (abw.2 h))
          unfold W at h; rw [hX] at h
          obtain ⟨k, hk⟩ := h
          exact hb _ _ (hc.2 (t, k) hk) }
end
end Go.Vm
/- A region: the theorem. -/
namespace Go.Vm
section
variable {P : Program} {F : p8} {rec : Task -> Option Out} {ops : List ck} {S : Nat -> St} {X : Nat -> Option XR} {nQ : Im} {eo : Loc} {w0 : World} {nt : Nat}
  {im : Im} {loc : Loc} {a : Act} {w : World} {i : Nat} {prims : FuncId -> Bool} {mi : Array Oper} {mc : List Nat}
def oq (l:Array Bool) (i:Nat):Prop:=l.getD i adW=adV
theorem P7 (hE:NX P F rec) (hr:Ch F rec ops S X) (ho:Ord ops S X (Bef mc)) (hc: ∀(i:Nat) (x:ck) (o:Oper),ops[i]? =adh x->mi[i]? =adh o->yi P prims nt mi x o=adV) (eT:(adc ops)=mi.size)
 (hm: ∀(k:Nat) (o:Oper),mi[k]? =adh o->qY mc k o.after.toList=adh (mc.getD k 0))
 {Q:Exit->Act->World->Prop} (hQ: ∀im loc a w (done:Nat->Prop),(∀i,i<adc ops->done i)->Inv ops S X nQ eo w0 nt done im loc a w->Q .normal a w):
 ∀(Cj:Nat) (l:Array Bool) (im:Im) (loc:Loc) (a:Act) (w:World),l.size=adc ops->Cj+l.toList.count adV=adc ops->(∀k j,oq l k->Bef mc j k->oq l j)->
  Inv ops S X nQ eo w0 nt (oq l) im loc a w->wpAny P .any mi Q Cj l a w:=by
 have full: ∀l:Array Bool,l.size=adc ops->Region.ready .any mi l=[]-> ∀i,i<adc ops->oq l i:=by
  intro l hl NL i
  induction i using Nat.strongRecOn with
  |_ i ih=>
   intro hi
   by_cases h:oq l i
   · exact h
   have ID:i∈Region.ready .any mi l:=by
    rw [mem_ready];have ho:=abo (show i<mi.size by omega);refine ⟨?_,_,ho,fun e he hb=>?_⟩
    · unfold oq at h
      have iz:i<l.size:=by omega
      simp [iz] at h ⊢;exact h
    have:=(AE (hm i _ ho)).1 e (by simpa using he) hb
    exact ih e.on this (by omega)
   grind
 intro Cj
 induction Cj with
 |zero=>
  intro l im loc a w hl anI abK hv;have tF: ∀b∈l.toList,adV=b:=by
   have:l.toList.count adV=(adc l.toList):=by grind
   exact List.count_eq_length.1 this
  have Uk: ∀i,i<adc ops->oq l i:=by
   intro i hi;have iz:i<l.size:=by omega
   have:=tF (l[i]) (by simp);unfold oq;simp_all
  refine ⟨?_,hQ im loc a w _ Uk hv⟩;cases XC:Region.ready .any mi l with
  |nil=>rfl
  |cons x xs=>
   have ID:x∈Region.ready .any mi l:=by rw [XC];simp
   obtain ⟨h0,o,hox,_⟩:=mem_ready.1 ID;have iz:=(abg.1 hox).1;have:=Uk x (by omega);unfold oq at this
   grind
 |succ Cj ih=>
  intro l im loc a w hl anI abK hv;refine ⟨fun NL=>hQ im loc a w _ (full l hl NL) hv,fun i hi=>?_⟩;obtain ⟨h0,o,hox,tF⟩:=mem_ready.1 hi;have iz:=(abg.1 hox).1;have Yl:i<l.size:=by omega
  have hx:=If (show i<(adc ops) by omega);have aiU: ∀j,Bef mc j i->oq l j:=by
   intro j hj;obtain ⟨e,he,hb,h⟩:=(AE (hm i o hox)).2 j hj;have p9:=tF e (by simpa using he) hb;rcases h with rfl|h
   · exact p9
   exact abK _ _ p9 h
  have LH: ¬oq l i:=by unfold oq;grind
  refine Inv.wpOp hE hr ho hv {lt:=by omega,nd:=LH,pre:=fun j _ h=>aiU j h,fx:=fun k _ h1 j _ h2=>abK k j h1 h2} hx hox (hc i _ _ hx hox) fun fA bz a' w' h'=>?_
  have e:plus (oq l) i=oq (l.setIfInBounds i adV):=by
   funext j
   apply propext;unfold plus oq
   by_cases pX:i=j
   · subst pX;simp [Yl]
   simp [getD_set_ne adW pX]
   grind
  rw [e] at h';refine ih _ fA bz a' w' (by simpa using hl) ?_ ?_ h'
  · rw [Array.toList_setIfInBounds,List.count_set (by simpa using Yl)]
    have:l.toList[i]=adW:=by simp [Yl] at h0;simpa using h0
    grind
  intro k j hk hj
  rw [<- e] at hk ⊢;rcases hk with hk|rfl
  · exact .inl (abK k j hk hj)
  exact .inl (aiU j hj)
theorem ER.gS {st:Env} {gS:List Nat} (h:ER im loc st a.tmps):ER im loc (gS.map fun s=>(s,lk s st)) a.tmps:=by
 intro t;have:lk t (gS.map fun s=>(s,lk s st))=lk t st\/lk t (gS.map fun s=>(s,lk s st))= .undef:=by
  induction gS with
  |nil=>exact .inr rfl
  |cons s r ih=>
   grind [wz]
 rcases this with h'|h'
 · rw [h'];exact h t
 rw [h'];exact .undef _
structure BG (im:Im) (loc:Loc) (nt:Nat) (st:St) (a:Act):Prop where
 env:ER im loc st.env a.tmps
 defers:a.defers=[]
 RX:a.tmps.size=nt
theorem Kept.world {mh : cU} {st : St} {w1 : World} (h : Kept nQ eo mh w1 st im loc w) (hh : w1.heap = w0.heap) (ho : w1.os = w0.os) (ht : Tape w0 w1) (hp : w1.output = w0.output) : Kept nQ eo mh w0 st im loc w :=
  { sr := h.sr, jt := h.jt, eS := h.eS, os := h.os.trans ho, tape := h.tape.trans ht, output := h.output.trans hp, size := by have := h.size; grind
    frame := by have := h.frame; grind
    fa := by have := h.fa; grind
    rR := h.rR
    own := by have := h.own; grind }
theorem SR.world {aA:cU} {fz:List Nat} {w1:World} (h:SR im loc aA fz w) (hh:w1.heap=w.heap):SR im loc aA fz w1 where
 bP:=by rw [hh];exact h.bP
 eg:=fun t li hl=>let ⟨k,h1,h2⟩:=h.eg t li hl;⟨k,h1,h2.mono (.refl _) (.refl _) (by rw [hh])⟩
 k7:=h.k7
 free:=h.free
theorem Sh (hE:NX P F rec) (vp:P.follows .mixedOrders=adV) {draw:Option (List Nat)} {gS:List Nat} {id:Nat} {flag:Bool} {st od:St}
 (hc:GZ P prims nt draw ops mi flag=adV) (mg:oE F rec draw ops gS st=adh od) (ov:SR nQ eo st.aA st.fz w0) (ha:BG nQ eo nt st a) {Q:Exit->Act->World->Prop}
 (hQ: ∀im loc a' w',Kept nQ eo st.aA w0 od im loc w'->BG im loc nt od a'->Q .normal a' w'):(Code.region id mi flag).wp P Q a w0:=by
 unfold GZ at hc;simp [IR] at hc;obtain ⟨VQ,hd⟩:=hc;obtain ⟨eT,abL⟩:=FA VQ;have eT:(adc ops)=mi.size:=by simpa using eT
 have abL:=fun i x o hx ho=>abL i x o hx (by simpa using ho)
 unfold oE at mg;cases he:rX F rec ops st [] with
 |none=>grind
 |some q=>
  obtain ⟨rO,tr⟩:=q;rw [he] at mg;obtain ⟨S,X,h0,hn,hr,htr⟩:=GX ops st [] rO tr he;have fin: ∀(w1:World),w1.heap=w0.heap->w1.os=w0.os->Tape w0 w1->w1.output=w0.output->od={rO with env:=gS.map fun s=>(s,lk s rO.env)}-> ∀im loc a' w' (done:Nat->Prop),(∀i,i<adc ops->done i)->
   Inv ops S X nQ eo w1 nt done im loc a' w'->Q .normal a' w':=by
   intro w1 q1 q2 q3 q4 cO im loc a' w' done hdn hv;obtain ⟨hk,her,hdf,hns⟩:=hv.finish hr hdn;rw [hn] at hk her;rw [h0] at hk;subst cO;have hk:=hk.world q1 q2 q3 q4;exact hQ im loc a' w' {sr:=hk.sr,jt:=hk.jt,eS:=hk.eS,os:=hk.os,tape:=hk.tape,output:=hk.output,size:=hk.size,frame:=hk.frame,fa:=hk.fa,rR:=hk.rR,own:=hk.own} ⟨her.gS,hdf,hns⟩
  cases draw with
  |none=>
   have:flag=adW:=by simpa using hd
   subst this;injection mg with mg;refine wp_region ?_;rw [List.range_eq_range'];refine JG hE hr abL eT (fun im loc a w hv=>fin w0 rfl rfl (.refl _) rfl mg.symm im loc a w _ (fun i h=>h) hv) mi.size 0 nQ eo a w0 (by omega) ?_;have:=Inv.start h0 ov ha.env ha.defers ha.RX hr
   grind
  |some bf=>
   dsimp only at hd mg;simp [IR] at hd;obtain ⟨⟨⟨rfl,hbl⟩,hmk⟩,hsl⟩:=hd;split at mg
   · rename_i XF
     injection mg with mg;have anL:tr.reverse=D0 S X (adc ops):=by rw [htr];simp
     rw [anL] at XF;obtain ⟨_,hmk⟩:=HS hmk;refine wp_region_any vp ?_;refine P7 hE hr (Ord.drawn hr hbl hsl XF) abL eT ?_ (fun im loc a w done hdn hv=>fin {w0 with drawn:=w0.drawn+1} rfl rfl ⟨rfl,Nat.le_succ _⟩ rfl mg.symm im loc a w done hdn hv) mi.size _ nQ eo a _ (by simp [eT]) ?_ ?_ ?_
     · grind
     · simp [eT,List.count_replicate]
     · intro k j h
       unfold oq at h
       by_cases hk:k<mi.size<;>simp [hk] at h
     have:=Inv.start (w0:={w0 with drawn:=w0.drawn+1}) h0 (ov.world rfl) ha.env ha.defers ha.RX hr
     have e:(fun _:Nat=>False)=oq (abi mi.size adW):=by
      funext i;apply propext
      unfold oq
      by_cases hk:i<mi.size<;>simp [hk]
     grind
   cases mg
end
end Go.Vm
/- What a function keeps from its beginning on; the head of a loop. -/
namespace Go.Vm
theorem Kept.trans {nQ Lx Jz:Im} {eo eB xj:Loc} {mh:cU} {w0 w1 w2:World} {rO BN:St} (h1:Kept nQ eo mh w0 rO Lx eB w1) (h2:Kept Lx eB rO.aA w1 BN Jz xj w2) (hl:(adc mh)<=adc rO.aA):
 Kept nQ eo mh w0 BN Jz xj w2 where
 sr:=h2.sr
 jt:=h1.jt.trans h2.jt
 eS:=h1.eS.trans h2.eS
 os:=h2.os.trans h1.os
 tape:=h2.tape.trans h1.tape
 output:=h2.output.trans h1.output
 size:=ab3 h1.size h2.size
 frame:=fun b hb hh=>by
  rw [h2.frame b (abj hb h1.size) fun t li k hl hs pC XD=>?_]
  · exact h1.frame b hb hh
  rcases h1.own t li k hl hs pC with h|⟨u,lu,ku,g1,g2,g3,g4⟩
  · omega
  grind
 fa:=fun b o hb=>by
  rcases h2.fa b o hb with h|h|⟨t,li,k,g1,g2,g3,g4⟩
  · exact h1.fa b o h
  · exact .inr (.inl (ab3 h1.size h))
  rcases h1.own t li k g1 g2 g3 with h|⟨u,lu,ku,k1,k2,k3,k4⟩
  · exact .inr (.inl (by omega))
  grind
 rR:=fun t li h=>by
  rcases h2.rR t li h with h|h
  · exact h1.rR t li h
  omega
 own:=fun t li k hl hs pC=>by
  rcases h2.own t li k hl hs pC with h|⟨u,lu,ku,g1,g2,g3,g4⟩
  · exact .inl (ab3 h1.size h)
  rcases h1.own u lu ku g1 g2 g3 with h|⟨u',lu',ku',k1,k2,k3,k4⟩
  · exact .inl (by omega)
  grind
structure D2 (nQ:Im) (eo:Loc) (mh:cU) (w0:World) (st:St) (im:Im) (loc:Loc) (w:World):Prop where
 kept:Kept nQ eo mh w0 st im loc w
 kn:st.kn=adc mh
 len:(adc mh)<=adc st.aA
 dom: ∀t li,eo t=adh li->t<adc mh
theorem JJ {F:p8} {rec:Task->Option Out}: ∀(ops:List ck) (st:St) (tr:List Tr) (od:St) (VO:List Tr),rX F rec ops st tr=adh (od,VO)->od.kn=st.kn
 | [],st,tr,od,VO,h=>by simp [rX,UV,abb] at h;rw [h.1]
 |o::l,st,tr,od,VO,h=>by
  simp [rX] at h;split at h
  · split at h
    · rename_i x hx
      split at h
      · have:=JJ l _ _ od VO h
        rw [this];cases x<;>rfl
      cases h
    cases h
  · have:=JJ l _ _ od VO h
    exact this
  cases h
theorem NY {F:p8} {rec:Task->Option Out} {draw:Option (List Nat)} {ops:List ck} {gS:List Nat} {st od:St} (h:oE F rec draw ops gS st=adh od):od.kn=st.kn/\adc st.aA<=(adc od.aA):=by
 unfold oE at h;cases he:rX F rec ops st [] with
 |none=>grind
 |some q=>
  obtain ⟨rO,tr⟩:=q;obtain ⟨S,X,h0,hn,hr,_⟩:=GX ops st [] rO tr he;have h1:=JJ ops st [] rO tr he;have h2:=hr.kg (abd (adc ops)) (PP _)
  grind
section
variable {im : Im} {loc eB : Loc} {m : List Nat}
theorem P8 {fz:List Nat}: ∀{l:List Nat} {i0 u t:Nat},l[u]? =adh t->(i0+u)∉B2 fz i0 l->t∉fz
 | [],i0,u,t,h,_=>by simp at h
 |s::r,i0,u,t,h,hn=>by
  simp [B2] at hn;cases u with
  |zero=>
   simp at h;subst h;intro hf;rw [AC (uH.2 hf)] at hn
   grind
  |succ u=>
   refine P8 (i0:=i0+1) (by simpa using h) fun ID=>?_
   grind
theorem JK {aA:cU}: ∀{n:Nat} {ts seen:List Nat} {m:List Nat},reach aA n ts seen=adh m->(∃l,m=seen++l)/\(seen.Nodup->m.Nodup)
 |_,[],seen,m,h=>by
  have h:adh seen=adh m:=by rw [<- h];unfold reach;cases ‹Nat› <;>rfl
  simp_all
 |0,_::_,seen,m,h=>by simp [reach] at h
 |n+1,t::ts,seen,m,h=>by
  simp [reach] at h;split at h
  · exact JK h
  rename_i hn
  split at h
  · obtain ⟨⟨l,hl⟩,h2⟩:=JK h
    refine ⟨⟨t::l,by rw [hl];simp⟩,fun hd=>h2 ?_⟩;rw [aco];refine ⟨hd,by simp,fun a ha b hb=>?_⟩;have:b=t:=by simpa using hb
    subst this;intro e;subst e;exact hn (uH.2 ha)
  cases h
theorem P9: ∀{n i:Nat},i<n->(zw n)[i]? =adh i
 |n+1,i,h=>by
  have hl: ∀n,(zw n).length=n:=by
   intro n;induction n with
   |zero=>rfl
   |succ n ih=>simp [zw,ih]
  simp [zw];rcases aaE i n with h'|h'
  · rw [NE (by rw [hl];exact h')];exact P9 h'
  grind
theorem P': ∀{n i:Nat},i∈zw n->i<n
 |n+1,i,h=>by
  simp [zw,abw,abJ] at h;rcases h with h|h
  · have:=P' h;omega
  omega
theorem JL: ∀n,(zw n).Nodup
 |0=>by simp [zw]
 |n+1=>by
  simp [zw];rw [aco];refine ⟨JL n,by simp,fun a ha b hb=>?_⟩;have:=P' ha
  grind
end
end Go.Vm
/- The head of a loop. -/
namespace Go.Vm
def VS (s2:cU):Prop:= ∀(j:Nat) (k:om),s2[j]? =adh k-> ∃e,k= .arr e []
theorem VR.L' {im:Im} {loc:Loc} {x:PV} {u:Value} (h:VR im loc x u): ∀k:Option Nat,VR im loc (L' k x) u
 |none=>h
 |some _=>by
  cases h with
  |own t aO off len cap ex li a eh hl he hn hc hx hk h=>exact .own t aO off len cap adW li a eh hl he hn hc hx (fun h=>by cases h) h
  |undef=>exact .undef _
  |na=>exact .na
  |int k n=>exact .int k n
  |bool b=>exact .bool b
  |str s=>exact .str s
  |agg cs vs h=>exact .agg cs vs h
  |cV cs vs h=>exact .cV cs vs h
  |sl e c r a cap h1 h2 h3=>exact .sl e c r a cap h1 h2 h3
  |ptr t e r o li h1 h2 h3=>exact .ptr t e r o li h1 h2 h3
  |bR cs off b o vs h hv=>exact .bR cs off b o vs h hv
  |mp t li hl=>exact .mp t li hl
  |fx fn a b as bs ha hb=>exact .fx fn a b as bs ha hb
  |eW=>exact .eW
theorem Ez {im:Im} {loc eB:Loc} {m:List Nat} {e:Env} {tmps:Array Value} (hm:Ren m loc eB) (he:ER im loc e tmps): ∀{live:List _} {nx:Nat} {e1:Env} {s2:cU},xZ e m nx live=adh (e1,s2)->
 VS s2/\((∀(j:Nat) (aO:Nat),s2[j]? =adh (.arr aO [])->eB (nx+j)=adh ⟨0,0,aO,0,0⟩)->ER im eB e1 tmps)
 | [],nx,e1,s2,h=>by obtain ⟨rfl,rfl⟩:=h;exact ⟨fun j k h=>by simp at h,fun _ t=> .undef _⟩
 |(s,k)::r,nx,e1,s2,h=>by
  have hs:=he s;simp [xZ] at h;split at h
  · rename_i aO e' Ap
    rw [WF] at h;obtain ⟨⟨e2,s3⟩,h1,h2⟩:=h;obtain ⟨rfl,rfl⟩:=h2;obtain ⟨g1,g2⟩:=Ez hm he h1;refine ⟨fun j k hj=>?_,fun hl t=>?_⟩
    · cases j with
      |zero=>grind
      |succ j=>exact g1 j k (by simpa using hj)
    rw [wz]
    split
    · rename_i e;subst e
      rw [Ap] at hs;generalize hg:tmps.getD s Go.undef=v at hs;cases hs with
      |sl _ _ _ a cap h1 h2 h3=>
      have:cap=0:=by grind
      subst this;exact .own nx aO 0 0 0 adW ⟨0,0,aO,0,0⟩ a 0 (by simpa using hl 0 aO rfl) rfl (PP _) (PP _) (PP _) (fun h=>by cases h) (.inl rfl)
    refine g2 (fun j anM hj=>?_) t
    have:=hl (j+1) anM (by simpa using hj)
    grind
  split at h
  · rename_i v' p h1 h2
    injection h with h;simp [] at h;obtain ⟨rfl,rfl⟩:=h;obtain ⟨g1,g2⟩:=Ez hm he h2;refine ⟨g1,fun hl t=>?_⟩;rw [wz];split
    · rename_i e;subst e
      exact (XL hm hs h1).L' _
    exact g2 hl t
  cases h
theorem fW.setAt {im:Im} {loc:Loc} {x:PV}: ∀{xs:List PV} {vs:List Value} {c:Nat} {y:PV},fW im loc xs vs->xs[c]? =adh y->(∀v,VR im loc y v->VR im loc x v)->fW im loc (xs.set c x) vs
 | [],_,c,y,h,hc,_=>by simp at hc
 |z::zs,vs,c,y,h,hc,hx=>by
  cases h with
  |cons _ v _ us g1 g2=>
   cases c with
   |zero=>simp at hc;subst hc;exact .cons _ _ _ _ (hx v g1) g2
   |succ c=>exact .cons _ _ _ _ g1 (fW.setAt g2 (by simpa using hc) hx)
theorem Si {nQ im:Im} {eo loc:Loc} {mh:cU} {w0 w:World} {nt:Nat} {st:St} {a:Act} (t c aO:Nat) (hk:D2 nQ eo mh w0 st im loc w) (ha:BG im loc nt st a):
 ∃eB,D2 nQ eo mh w0 (wo st t c aO) im eB w/\BG im eB nt (wo st t c aO) a:=by
 unfold wo;split
 · rename_i cs hb
   split
   · rename_i e hc
     have sr:=hk.kept.sr;have anN: ∀u li,loc u=adh li->u<(adc st.aA):=fun u li h=>by obtain ⟨k,h1,_⟩:=sr.eg u li h;exact dm h1
     let eB:=fun u=>if u=(adc st.aA) then adh ⟨0,0,aO,0,0⟩ else loc u
     have p9:pR loc eB:=fun u li h=>by have:=anN u li h;simp [eB,show u≠(adc st.aA) by omega,];exact h
     have back: ∀u li,eB u=adh li->u≠adc st.aA->loc u=adh li:=fun u li h hu=>by simpa only [eB,hu,if_false] using h
     have VT:=dm hb;have get: ∀u,u<adc st.aA->(st.aA.set t (.box (cs.set c (.own (adc st.aA) aO 0 0 0 adW)))++[.arr aO []])[u]? =if t=u then adh (.box (cs.set c (.own (adc st.aA) aO 0 0 0 adW))) else st.aA[u]?:=fun u hu=>by
      rw [NE (by simpa using hu),acp];split
      · rename_i e;subst e;simp
      rfl
     have aiV:(st.aA.set t (.box (cs.set c (.own (adc st.aA) aO 0 0 0 adW)))++[.arr aO []])[adc st.aA]? =adh (.arr aO []):=by rw [aa9 (by simp)];simp
     have bW: ∀(u:Nat) (k:om),(st.aA.set t (.box (cs.set c (.own (adc st.aA) aO 0 0 0 adW)))++[.arr aO []])[u]? =adh k->k.bW=adV->u≠adc st.aA/\ ∃k0:om,st.aA[u]? =adh k0/\k0.bW=adV:=by
      intro u k hu hs;have iz:=dm hu;simp [] at iz;have fy:u≠(adc st.aA):=by intro e;subst e;rw [aiV] at hu;injection hu with hu;subst hu;cases hs
      refine ⟨fy,?_⟩;rw [get u (by omega)] at hu;split at hu
      · rename_i e;subst e;exact ⟨_,hb,rfl⟩
      exact ⟨k,hu,hs⟩
     refine ⟨eB,⟨⟨?_,hk.kept.jt,hk.kept.eS.trans p9,hk.kept.os,hk.kept.tape,hk.kept.output,hk.kept.size,hk.kept.frame,hk.kept.fa,fun u li h=>?_,fun u li k h hs pC=>?_⟩,hk.kn,?_,hk.dom⟩,⟨ha.env.mono (rZ.refl _) p9,ha.defers,ha.RX⟩⟩
     · refine {
        bP:=sr.bP
        eg:=fun u li hl=>?_
        k7:=fun u u' li lj k k' hl qC hs BP pC Mi hbk=>?_
        free:=fun u li k hl hs pC hz=>?_}
       · by_cases hu:u=adc st.aA
         · subst hu
           simp only [eB,] at hl;injection hl with hl;subst hl;exact ⟨_,aiV,rfl,rfl,fun h=>absurd rfl h⟩
         have RS:=back u li hl hu
         obtain ⟨k,h1,h2⟩:=sr.eg u li RS;rw [get u (dm h1)];split
         · rename_i et;subst et
           rw [hb] at h1;injection h1 with h1;subst h1;obtain ⟨g1,g2,g3,vs,el,g4,g5,g6⟩:=h2;refine ⟨_,rfl,by simpa using g1,g2,g3,vs,el,g4,g5,(g6.mono (rZ.refl _) p9).setAt hc fun v hv=>?_⟩;cases hv with
           |sl _ _ _ a' cap h1 h2 h3=>
           have:cap=0:=by simpa using h2 rfl
           subst this;exact .own _ aO 0 0 0 adW ⟨0,0,aO,0,0⟩ a' 0 (by simp [eB,]) rfl (PP _) (PP _) (PP _) (fun h=>by cases h) (.inl rfl)
         exact ⟨k,h1,h2.mono (rZ.refl _) p9 rfl⟩
       · obtain ⟨n1,k0,g1,g2⟩:=bW u k hs pC
         obtain ⟨n2,k0',g1',g2'⟩:=bW u' k' BP Mi;exact sr.k7 u u' li lj k0 k0' (back _ _ hl n1) (back _ _ qC n2) g1 g1' g2 g2' hbk
       obtain ⟨n1,k0,g1,g2⟩:=bW u k hs pC
       exact sr.free u li k0 (back _ _ hl n1) g1 g2 hz
     · by_cases hu:u=adc st.aA
       · right;have:=hk.len;omega
       exact hk.kept.rR u li (back u li h hu)
     · obtain ⟨n1,k0,g1,g2⟩:=bW u k hs pC
       exact hk.kept.own u li k0 (back _ _ h n1) g1 g2
     have:=hk.len
     simp;omega
   exact ⟨loc,hk,ha⟩
 grind
theorem vq {nQ im:Im} {eo:Loc} {mh:cU} {w0 w:World} {nt:Nat} {a:Act}: ∀(live:List _) {st:St} {loc:Loc},D2 nQ eo mh w0 st im loc w->BG im loc nt st a->
 ∃eB,D2 nQ eo mh w0 (oD live st) im eB w/\BG im eB nt (oD live st) a
 | [],st,loc,hk,ha=>⟨loc,hk,ha⟩
 |(s,k)::r,st,loc,hk,ha=>by
  simp [oD];split
  · split
    · split
      · rename_i t _
        obtain ⟨eB,h1,h2⟩:=Si t _ _ hk ha;exact vq r h1 h2
      exact vq r hk ha
    exact vq r hk ha
  exact vq r hk ha
theorem Ym {nQ im:Im} {eo loc:Loc} {mh:cU} {w0 w:World} {nt:Nat} {live:List _} {st rO:St} {a:Act} (h:Ma live st=adh rO) (hk:D2 nQ eo mh w0 st im loc w) (ha:BG im loc nt st a):
 ∃eB,D2 nQ eo mh w0 rO im eB w/\BG im eB nt rO a:=by
 unfold Ma at h;split at h
 · cases h
 rename_i m afs
 split at h
 · rename_i s1 e1 s2 hs1 hlv
   injection h with h;subst h;refine (fun hh: ∃eB,D2 nQ eo mh w0 {env:=e1,aA:=s1++s2,fz:=B2 st.fz 0 m,kn:=st.kn} im eB w/\BG im eB nt {env:=e1,aA:=s1++s2,fz:=B2 st.fz 0 m,kn:=st.kn} a=>
    let ⟨_,g1,g2⟩:=hh;vq live g1 g2) ?_
   obtain ⟨⟨ml,RW⟩,LH⟩:=JK afs;have LH:=LH (JL _);obtain ⟨Me,LJ⟩:=GJ hs1;have aiW: ∀n,(zw n).length=n:=by
    intro n;induction n with
    |zero=>rfl
    |succ n ih=>simp [zw,ih]
   have NZ: ∀t,t<st.kn->m[t]? =adh t:=by intro t ht;rw [RW,NE (by rw [aiW];exact ht)];exact P9 ht
   have atY:st.kn<=(adc m):=by rw [RW];simp [aiW]
   let eB:=fun u=>if u<(adc m) then (match m[u]? with|some t=>loc t|none=>adU) else match s2[u-(adc m)]? with
    |some (.arr e [])=>adh ⟨0,0,e,0,0⟩
    |_=>adU
   have LK:Ren m loc eB:=by intro u t hu;have:=dm hu;simp only [eB,this,if_true,hu]
   obtain ⟨anO,her⟩:=Ez LK ha.env hlv;have old: ∀u li,eB u=adh li->u<adc m-> ∃t,m[u]? =adh t/\loc t=adh li:=by intro u li hl hu;have e:=If hu;rw [LK u _ e] at hl;exact ⟨_,e,hl⟩
   have aiX: ∀u,u<adc m->(s1++s2)[u]? =s1[u]?:=fun u hu=>NE (by rw [Me];exact hu)
   have aiY: ∀u,¬u<adc m->(s1++s2)[u]? =s2[u-(adc m)]?:=fun u hu=>by rw [aa9 (by rw [Me];omega),Me]
   have Di: ∀(u:Nat) (k:om),(s1++s2)[u]? =adh k->k.bW=adV->u<(adc m):=by
    intro u k hs pC;rcases aaE u (adc m) with h|h
    · exact h
    rw [aiY u (by omega)] at hs
    obtain ⟨e,rfl⟩:=anO _ _ hs;cases pC
   have back: ∀(u:Nat) (k:om),(s1++s2)[u]? =adh k-> ∀t,m[u]? =adh t-> ∃k0:om,st.aA[t]? =adh k0/\k.bW=k0.bW:=by intro u k hs t ht;obtain ⟨k0,k',g1,g2,g3⟩:=LJ u t ht;rw [aiX u (dm ht),g3] at hs;injection hs with hs;subst hs;exact ⟨k0,g1,Fm g2⟩
   have sr:=hk.kept.sr;have aft:SR im eB (s1++s2) (B2 st.fz 0 m) w:=by
    refine {
     bP:=sr.bP
     eg:=fun u li hl=>?_
     k7:=fun u u' li lj k k' hl qC hs BP pC Mi hb=>?_
     free:=fun u li k hl hs pC hz=>?_}
    · by_cases hu:u<adc m
      · obtain ⟨t,ht,iz⟩:=old u li hl hu
        obtain ⟨k0,h1,h2⟩:=sr.eg t li iz;obtain ⟨k1,k',g1,g2,g3⟩:=LJ u t ht;rw [h1] at g1;injection g1 with g1;subst g1;exact ⟨k',by rw [aiX u hu];exact g3,Mc LK g2 h2⟩
      simp [eB,hu,] at hl
      split at hl
      · rename_i e he
        injection hl with hl;subst hl;exact ⟨.arr e [],by rw [aiY u hu];exact he,rfl,rfl,fun h=>absurd rfl h⟩
      cases hl
    · have hu:=Di u k hs pC
      have HR:=Di u' k' BP Mi;obtain ⟨t,ht,iz⟩:=old u li hl hu;obtain ⟨t',Yn,Yl⟩:=old u' lj qC HR;obtain ⟨k0,g1,g2⟩:=back u k hs t ht;obtain ⟨k0',g1',g2'⟩:=back u' k' BP t' Yn;have:=sr.k7 t t' li lj k0 k0' iz Yl g1 g1' (by rw [<- g2];exact pC) (by rw [<- g2'];exact Mi) hb;subst this;have pw:=List.pairwise_iff_getElem.1 LH;have e1:=(aaF.1 ht).2;have e2:=(aaF.1 Yn).2;rcases ab1 u u' with h|h|h
      · exact absurd (e1.trans e2.symm) (pw u u' hu HR h)
      · exact h
      exact absurd (e2.trans e1.symm) (pw u' u HR hu h)
    have hu:=Di u k hs pC
    obtain ⟨t,ht,iz⟩:=old u li hl hu;obtain ⟨k0,g1,g2⟩:=back u k hs t ht;refine sr.free t li k0 iz g1 (by rw [<- g2];exact pC) (mG.2 ?_);exact P8 (i0:=0) ht (by have:=mG.1 hz;simpa using this)
   refine ⟨eB,⟨⟨aft,hk.kept.jt,fun t li hl=>?_,hk.kept.os,hk.kept.tape,hk.kept.output,hk.kept.size,hk.kept.frame,hk.kept.fa,fun t li hl=>?_,fun u li k hl hs pC=>?_⟩,hk.kn,?_,hk.dom⟩,
    ⟨her fun j aO hj=>?_,ha.defers,ha.RX⟩⟩
   · have h1:=hk.kept.eS t li hl
     have ht:t<st.kn:=by rw [hk.kn];exact hk.dom t li hl
     rw [LK t t (NZ t ht)];exact h1
   · rcases aaE t st.kn with ht|ht
     · rw [LK t t (NZ t ht)] at hl
       exact hk.kept.rR t li hl
     right;rw [hk.kn] at ht;exact ht
   · have hu:=Di u k hs pC
     obtain ⟨t,ht,iz⟩:=old u li hl hu;obtain ⟨k0,g1,g2⟩:=back u k hs t ht;exact hk.kept.own t li k0 iz g1 (by rw [<- g2];exact pC)
   · rw [<- hk.kn]
     simp;omega
   simp [eB,hj]
 grind
theorem abM {nQ im:Im} {eo loc:Loc} {mh:cU} {w0 w:World} {nt:Nat} {live:List _} {st rO:St} {a:Act} (h:norm live st=adh rO) (hk:D2 nQ eo mh w0 st im loc w) (ha:BG im loc nt st a):
 ∃eB,D2 nQ eo mh w0 rO im eB w/\BG im eB nt rO a:=by
 unfold norm at h
 grind [Ym]
end Go.Vm
/- The code of a function; what it returns. -/
namespace Go.Vm
def jf (P:Program) (prims:FuncId->Bool) (nt:Nat):lY->Code->Bool
 | .skip,.skip=>adV
 | .region d ops _,.region _ mi flag=>GZ P prims nt d ops mi flag
 | .seq a b,.seq c d=>jf P prims nt a c&&jf P prims nt b d
 | .cond c a b,.cond c' a' b'=>bF c c'&&jf P prims nt a a'&&jf P prims nt b b'
 | .block id b,.block id' b'=>id==id'&&jf P prims nt b b'
 | .loop _ b,.loop b'=>jf P prims nt b b'
 | .exit id,.exit id'=>id==id'
 | .ret,.ret=>adV
 |_,_=>adW
def jQ.out:jQ->Exit
 | .normal=> .normal
 | .exit id=> .exit id
 | .ret=> .ret
section
variable {P : Program} {F : p8} {rec : Task -> Option Out} {nQ : Im} {eo : Loc} {mh : cU} {w0 : World} {nt : Nat} {prims : FuncId -> Bool}
structure At (nQ:Im) (eo:Loc) (mh:cU) (w0:World) (nt:Nat) (st:St) (a:Act) (w:World):Prop where
 ex: ∃im loc,D2 nQ eo mh w0 st im loc w/\BG im loc nt st a
def G0 (P : Program) (prims : FuncId -> Bool) (rec : Task -> Option Out) : Prop :=
  ∀ (live : List (Nat × Option Nat)) (x : lY) (st : St) (e : jQ) (od : St), rec (.loop live x st) = adh (.code e od) ->
    ∀ (c : Code) (nt : Nat) (nQ : Im) (eo : Loc) (mh : cU) (w0 : World) (a : Act) (w : World), jf P prims nt x c = adV -> At nQ eo mh w0 nt st a w ->
      ∀ (b : Frame) (k : List Item) (cs : List Frame), ∃ a' w', At nQ eo mh w0 nt od a' w' /\ Arrives P (lone (b.at a (.code c :: .inLoop c :: k)) cs w) b k cs e.out a' w'
theorem nR (hE:NX P F rec) (hL:G0 P prims rec) (vp:P.follows .mixedOrders=adV): ∀(x:lY) (c:Code) (st:St) (e:jQ) (od:St),jf P prims nt x c=adV->zq F rec x st=adh (e,od)->
 ∀(a:Act) (w:World),At nQ eo mh w0 nt st a w-> ∀(Q:Exit->Act->World->Prop),(∀a' w',At nQ eo mh w0 nt od a' w'->Q e.out a' w')->c.wp P Q a w
 | .skip,c,st,e,od,hc,mg,a,w,ha,Q,hQ=>by
  cases c<;>simp [jf,] at hc
  obtain ⟨rfl,rfl⟩:=mg;exact wp_skip (hQ _ _ ha)
 | .region d ops gS,c,st,e,od,hc,mg,a,w,ha,Q,hQ=>by
  cases c<;>simp [jf,] at hc
  simp only [zq,WF] at mg;obtain ⟨rO,mg,h⟩:=mg;obtain ⟨rfl,rfl⟩:=h;obtain ⟨im,loc,hk,JM⟩:=ha.ex;refine Sh hE vp hc mg hk.kept.sr JM fun fA bz a' w' LM LN=>hQ a' w' ⟨fA,bz,?_,LN⟩
  obtain ⟨h1,h2⟩:=NY mg;exact ⟨hk.kept.trans LM hk.len,by rw [h1];exact hk.kn,ab3 hk.len h2,hk.dom⟩
 | .seq x y,c,st,e,od,hc,mg,a,w,ha,Q,hQ=>by
  cases c<;>simp [jf,] at hc
  obtain ⟨h1,h2⟩:=hc;simp [zq] at mg;refine wp_seq ?_;cases hx:zq F rec x st with
  |none=>grind
  |some q=>
   obtain ⟨e1,rO⟩:=q;rw [hx] at mg;refine nR hE hL vp x _ st e1 rO h1 hx a w ha _ fun a' w' LN=>?_
   cases e1 with
   |normal=>exact nR hE hL vp y _ rO e od h2 mg a' w' LN Q hQ
   |exit id=>obtain ⟨rfl,rfl⟩:=mg;exact hQ a' w' LN
   |ret=>obtain ⟨rfl,rfl⟩:=mg;exact hQ a' w' LN
 | .cond cc x y,c,st,e,od,hc,mg,a,w,ha,Q,hQ=>by
  cases c<;>simp [jf,] at hc
  obtain ⟨⟨h0,h1⟩,h2⟩:=hc;obtain ⟨im,loc,hk,JM⟩:=ha.ex;have hv:=Sg cc (fun t _=>JM.env t) _ h0;simp [zq] at mg;split at mg
  · rename_i hb
    rw [hb] at hv;exact wp_cond_true hv.mE (nR hE hL vp x _ st e od h1 mg a w ha Q hQ)
  · rename_i hb
    rw [hb] at hv;exact wp_cond_false hv.mE (nR hE hL vp y _ st e od h2 mg a w ha Q hQ)
  cases mg
 | .block id x,c,st,e,od,hc,mg,a,w,ha,Q,hQ=>by
  cases c<;>simp [jf,] at hc
  obtain ⟨rfl,h1⟩:=hc;refine wp_block ?_;simp [zq] at mg;cases hx:zq F rec x st with
  |none=>grind
  |some q=>
   obtain ⟨e1,rO⟩:=q;rw [hx] at mg;refine nR hE hL vp x _ st e1 rO h1 hx a w ha _ fun a' w' LN=>?_
   cases e1 with
   |normal=>simp [] at mg;obtain ⟨rfl,rfl⟩:=mg;exact hQ a' w' LN
   |ret=>simp [] at mg;obtain ⟨rfl,rfl⟩:=mg;exact hQ a' w' LN
   |exit j=>
    dsimp only at mg;simp [jQ.out,Exit.inBlock];split at mg
    · rename_i hj
      have:j=id:=by simpa using hj
      simp [] at mg;obtain ⟨rfl,rfl⟩:=mg;rw [AC this];exact hQ a' w' LN
    rename_i hj
    have:j≠id:=by simpa using hj
    simp [] at mg;obtain ⟨rfl,rfl⟩:=mg;rw [Do this];exact hQ a' w' LN
 | .loop live x,c,st,e,od,hc,mg,a,w,ha,Q,hQ=>by
  cases c<;>simp [jf,] at hc
  simp [zq] at mg;split at mg
  · rename_i e1 rO hr
    simp [] at mg;obtain ⟨rfl,rfl⟩:=mg;intro b k cs;obtain ⟨a',w',h1,h2⟩:=hL live x st _ _ hr _ nt nQ eo mh w0 a w hc ha b k cs;exact ⟨_,a',w',hQ a' w' h1,.of_steps (.one step_loop) h2⟩
  cases mg
 | .exit id,c,st,e,od,hc,mg,a,w,ha,Q,hQ=>by
  cases c<;>simp [jf,] at hc
  subst hc;simp [zq,] at mg;obtain ⟨rfl,rfl⟩:=mg;exact wp_exit (hQ _ _ ha)
 | .ret,c,st,e,od,hc,mg,a,w,ha,Q,hQ=>by
  cases c<;>simp [jf,] at hc
  simp [zq,] at mg;obtain ⟨rfl,rfl⟩:=mg;exact wp_ret (hQ _ _ ha)
theorem VU (hE:NX P F rec) (hL:G0 P prims rec) (vp:P.follows .mixedOrders=adV):G0 P prims (step F rec):=by
 intro live x st e od h c nt nQ eo mh w0 a w hc ha b k cs;simp [step] at h;cases hn:norm live st with
 |none=>grind
 |some rO=>
  rw [hn] at h;dsimp only at h;obtain ⟨im,loc,hk,JM⟩:=ha.ex;obtain ⟨eB,j8,DQ⟩:=abM hn hk JM;have dH:At nQ eo mh w0 nt rO a w:=⟨im,eB,j8,DQ⟩;cases hx:zq F rec x rO with
  |none=>grind
  |some q=>
   obtain ⟨e1,BN⟩:=q;rw [hx] at h;have hw:=nR hE hL vp x c rO e1 BN hc hx a w dH (fun e' a' w'=>e'=e1.out/\At nQ eo mh w0 nt BN a' w') fun a' w' h=>⟨rfl,h⟩
   obtain ⟨e',a1,w1,⟨rfl,hq⟩,N0⟩:=hw b _ cs;cases e1 with
   |normal=>obtain ⟨a',w',h1,h2⟩:=hL live x BN e od h c nt nQ eo mh w0 a1 w1 hc hq b k cs;exact ⟨a',w',h1,.of_steps (Steps.trans N0 (.one step_inLoop)) h2⟩
   |exit id=>obtain ⟨rfl,rfl⟩:=h;exact ⟨a1,w1,hq,.pass rfl (fun _ _=> .inl (by simp [jQ.out])) N0⟩
   |ret=>obtain ⟨rfl,rfl⟩:=h;exact ⟨a1,w1,hq,.pass rfl (fun _ _=> .inl (by simp [jQ.out])) N0⟩
def tR (P:Program):List RV->List ResultVar->Bool
 | [],[]=>adV
 | .tmp t::r,.tmp t'::s=>t==t'&&tR P r s
 | .cell t agg::r,.cell t' ty::s=>t==t'&&Fl P ty agg&&tR P r s
 |_,_=>adW
def VV (tmps:Array Value):ResultVar->Sem Value
 | .tmp t=>pure (tmps.getD t undef)
 | .cell a t=>do loadVar t (<- asAddr (tmps.getD a undef))
theorem VW {im:Im} {loc:Loc} {aA:cU} {agg:Option Nat} {p:PV} {u:Value} {r:tz} (hp:VR im loc p u) (h:tI aA agg p=adh r): ∃ad,u= .pointer (adh ad):=by cases hp<;>first|(simp [tI] at h;done)|simp
theorem SR.known {im:Im} {loc:Loc} {aA:cU} {fz:List Nat} {w:World} (h:SR im loc aA fz w) {r:tz} (hn:r.news=[]) (hw:r.wr=[]):mb im loc aA w r where
 bP:=h.bP
 tok:=fun t _ li hl=>h.eg t li hl
 free:=fun t k hm=>by grind
 fresh:=fun j hj=>by grind
 k7:=fun t u li lj k k' _ _=>h.k7 t u li lj k k'
theorem Sj {aA:cU} {agg:Option Nat} {p:PV} {r:tz} (h:tI aA agg p=adh r):r.news=[]/\r.wr=[]:=by
 unfold tI at h
 grind [WF]
theorem Yo {im : Im} {loc : Loc} {st : St} {a : Act} {w : World} (ov : SR im loc st.aA st.fz w) (ha : ER im loc st.env a.tmps) : ∀ {rs : List RV} {vs : List PV} {os : List ResultVar}, tR P rs os = adV -> rY st rs = adh vs ->
    ∃ us, (os.mapM (VV a.tmps)).run P w = .ok us w /\ fW im loc vs us
  | [], vs, os, hc, h => by
    cases os <;> simp [tR, ] at hc
    simp [rY, ] at h; subst h
    exact ⟨[], by simp, .nil⟩
  | r :: rs, vs, [], hc, h => by cases r <;> simp [tR] at hc
  | r :: rs, vs, o :: os, hc, h => by
    simp [rY] at h
    split at h
    · rename_i v RU h1 h2
      injection h with h; subst h
      have GO : ∃ u, (VV a.tmps o).run P w = .ok u w /\ VR im loc v u /\ tR P rs os = adV := by
        cases r with
        | tmp t =>
          cases o with
          | tmp t' =>
            simp [tR, ] at hc
            obtain ⟨rfl, hc⟩ := hc
            simp [Jj, ] at h1; subst h1
            exact ⟨_, rfl, ha t, hc⟩
          | cell _ _ => simp [tR] at hc
        | cell t agg =>
          cases o with
          | tmp t' => simp [tR] at hc
          | cell t' ty =>
            simp [tR, ] at hc
            obtain ⟨⟨rfl, hag⟩, hc⟩ := hc
            simp [Jj, ] at h1
            obtain ⟨rr, h3, rfl⟩ := h1
            obtain ⟨g1, g2⟩ := Sj h3
            obtain ⟨u, dq, tM, _⟩ := PG (ha t) hag h3 (ov.known g1 g2)
            obtain ⟨ad, had⟩ := VW (ha t) h3
            refine ⟨u, ?_, tM, hc⟩
            simp [VV, had, asAddr]
            rw [had] at dq
            simpa [Instr.loadAt, Instr.sureAddr] using dq
      obtain ⟨u, hu, tM, hc⟩ := GO
      obtain ⟨us, Dd, anQ⟩ := Yo ov ha hc h2
      refine ⟨u :: us, ?_, .cons _ _ _ _ tM anQ⟩
      simp_all
    cases h
theorem JN {im:Im} {loc:Loc} {st:St} {a:Act} {w:World} {fn:Func} (ov:SR im loc st.aA st.fz w) (ha:ER im loc st.env a.tmps) {rs:List RV} {vs:List PV} (hc:tR P rs fn.results.toList=adV) (h:rY st rs=adh vs):
 ∃u,(results fn a.tmps).run P w= .ok u w/\VR im loc (results1 vs) u:=by
 obtain ⟨us,h1,h2⟩:=Yo ov ha hc h;have e:fn.results.mapM _=List.toArray<$>fn.results.toList.mapM (VV a.tmps):=Array.mapM_eq_mapM_toList;have h3:(fn.results.mapM (VV a.tmps)).run P w= .ok us.toArray w:=by simp_all
 have FC:results fn a.tmps=(do let vs <- fn.results.mapM (VV a.tmps);pure (if h:vs.size=1 then vs[0] else .tuple vs)):=by rfl
 rw [FC];simp only [ad6,h3,];refine ⟨_,rfl,?_⟩;cases h2 with
 |nil=>exact .cV _ _ .nil
 |cons x u xs us g2 g3=>
  cases g3 with
  |nil=>exact g2
  |cons y v ys vs g4 g5=>exact .cV _ _ (.cons _ _ _ _ g2 (.cons _ _ _ _ g4 g5))
end
end Go.Vm
/- What the logical machine answers, the model answers. -/
namespace Go.Vm
def FD (P:Program) (prims:FuncId->Bool) (x:ax) (f:FuncId):Bool:=
 match P.funcs[f]? with
 |some fn=>!(fn.name== "runtime.NumGoroutine")&&aba x.Jf fn.ntmps&&tR P x.res fn.results.toList&&(match fn.body with|some c=>jf P prims fn.ntmps x.code c|none=>adW)
 |none=>adW
section
variable {P : Program} {F : p8} {rec : Task -> Option Out} {prims : FuncId -> Bool}
def Qa (P:Program) (prims:FuncId->Bool) (F:p8):Prop:= ∀f x,F f=adh (.code x)->FD P prims x f=adV
theorem Qb: ∀(args:List PV) (i t:Nat),lk t (zz i args)=if i<=t then (args[t-i]?).getD .undef else .undef
 | [],i,t=>by simp [zz,lk]
 |v::r,i,t=>by
  simp [zz,wz];rw [Qb r (i+1) t]
  grind
theorem Mm {im:Im} {loc:Loc} {args:List PV} {us:List Value} (h:fW im loc args us) (n:Nat):ER im loc (zz 0 args) ((⟨us⟩:Array Value)++abi n Go.undef):=by
 intro t;rw [Qb];cases ha:args[t]? with
 |none=>exact .undef _
 |some x=>
  obtain ⟨v,hv,hr⟩:=h.get t x ha;have:((⟨us⟩:Array Value)++abi n Go.undef).getD t Go.undef=v:=by have iz:=dm hv;simp [ab4];rw [Array.getElem?_append_left (by simpa using iz)];simp [hv]
  grind
theorem kq {f:FuncId} {fn:Func} {c:Code} {us:Array Value} {w:World} (hf:P.funcs[f]? =adh fn) (hn:(fn.name== "runtime.NumGoroutine")=adW) (hb:fn.body=adh c):(callFunc f us).run P w= .ok (.enter f us) w:=by unfold callFunc;simp_all
theorem VX (hE:NX P F rec) (hL:G0 P prims rec) (hT:Qa P prims F) (vp:P.follows .mixedOrders=adV):GV P (step F rec):=by
 intro f args aA fz v zG NQ h im loc w us ov Dd;simp [step] at h;split at h
 · rename_i x hF
   have hc:=hT f x hF;unfold FD at hc;cases hf:P.funcs[f]? with
   |none=>grind
   |some fn=>
    rw [hf] at hc;simp only [IR,abk] at hc;obtain ⟨⟨⟨we,hna⟩,FC⟩,qZ⟩:=hc;cases hb:fn.body with
    |none=>grind
    |some c=>
     rw [hb] at qZ;refine .inr ⟨kq hf we hb,calls_of_wp hf hb ?_⟩;split at h
     · rename_i eT
       have hna:x.Jf<=fn.ntmps:=by simpa using hna
       have avL:=Dd.qA
       let st0:St:={env:=zz 0 args,aA,fz,kn:=adc aA}
       let a0:Act:={tmps:=(⟨us⟩:Array Value)++abi (fn.ntmps- (⟨us⟩:Array Value).size) Go.undef,defers:=[]}
       have dH:At im loc aA w fn.ntmps st0 a0 w:=by
        refine ⟨im,loc,⟨⟨ov,.refl _,.refl _,rfl,.refl _,rfl,PP _,fun _ _ _=>rfl,fun _ _ h=> .inl h,fun _ _ h=> .inl h,fun t li k hl hs pC=> .inr ⟨t,li,k,hl,hs,pC,rfl⟩⟩,rfl,PP _,fun t li hl=>?_⟩,⟨Mm Dd _,rfl,?_⟩⟩
        · obtain ⟨k,hk,_⟩:=ov.eg t li hl
          exact dm hk
        grind
       have fin: ∀(st:St),(rY st x.res).map (fun vs=>Out.func (results1 vs) st.aA st.fz)=adh (.func v zG NQ)-> ∀a' w',At im loc aA w fn.ntmps st a' w'->
        a'.defers=[]/\ ∃u,(results fn a'.tmps).run P w'= .ok u w'/\ ∃v',Ending.returned u= .returned v'/\ ∃fA bz,zF im loc aA w v zG NQ fA bz w' v':=by
        intro st cO a' w' dH
        obtain ⟨fA,bz,hk,JM⟩:=dH.ex;rw [WF] at cO;obtain ⟨vs,NK,he⟩:=cO;obtain ⟨rfl,rfl,rfl⟩:=he;obtain ⟨u,hu,tM⟩:=JN hk.kept.sr JM.env FC NK;have K:=hk.kept;exact ⟨JM.defers,u,hu,u,rfl,fA,bz,⟨K.jt,K.eS,tM,K.sr,K.os,K.tape,K.output,K.size,K.frame,K.fa,K.rR,K.own⟩⟩
       split at h
       · rename_i st mg
         exact nR hE hL vp x.code c st0 .normal st qZ mg a0 w dH _ fun a' w' afu=>fin st h a' w' afu
       · rename_i st mg
         exact nR hE hL vp x.code c st0 .ret st qZ mg a0 w dH _ fun a' w' afu=>fin st h a' w' afu
       cases h
     cases h
 · rename_i p hF
   obtain ⟨fn,c,hf,we,hb,key⟩:=hE.nN.2 f p hF
   grind [WF,Out.func.injEq]
 cases h
theorem aeg (hT:Qa P prims F) (Ft:Df P F) (vp:P.follows .mixedOrders=adV): ∀n,GV P (run F n)/\G0 P prims (run F n)
 |0=>⟨fun f args aA fz v zG NQ h=>by simp [run] at h,fun live x st e od h=>by simp [run] at h⟩
 |n+1=>by obtain ⟨h1,h2⟩:=aeg hT Ft vp n;have hE:NX P F (run F n):=⟨h1,Ft⟩;exact ⟨VX hE h2 hT vp,VU hE h2 vp⟩
theorem VY (hT:Qa P prims F) (Ft:Df P F) (vp:P.follows .mixedOrders=adV) {n:Nat} {f:FuncId} {args:List PV} {v:PV} {zG:cU} {NQ:List Nat} (h:run F n (.func f args [] [])=adh (.func v zG NQ))
 {im:Im} {w:World} {us:List Value} (him: ∀b o,im b=adh o->w.heap[b]? =adh o) (Dd:fW im iI args us):
 Calls P f ⟨us⟩ w fun e w'=> ∃u,e= .returned u/\(∃fA bz,VR fA bz v u/\SR fA bz zG NQ w')/\w'.os=w.os/\Tape w w'/\w'.output=w.output/\w.heap.size<=w'.heap.size/\ ∀b,b<w.heap.size->w'.heap[b]? =w.heap[b]?:=by
 have key:=(aeg hT Ft vp n).1 f args [] [] v zG NQ h im iI w us (SR.empty him) Dd;rcases key with ⟨u,w',h1,h2⟩|⟨h1,h2⟩
 · cases n with
   |zero=>simp [run] at h
   |succ n=>
    have h:step F (run F n) (.func f args [] [])=adh (.func v zG NQ):=h;simp [step] at h;split at h
    · rename_i x hF
      have hc:=hT f x hF;unfold FD at hc;cases hf:P.funcs[f]? with
      |none=>grind
      |some fn=>
       rw [hf] at hc;simp [] at hc
       grind [kq]
    · rename_i p hF
      obtain ⟨fn,c,hf,we,hb,key⟩:=Ft.2 f p hF
      grind [kq]
    cases h
 refine h2.mono fun e w' ⟨u,he,fA,bz,hp⟩=>⟨u,he,⟨fA,bz,hp.vr,hp.sr⟩,hp.os,hp.tape,hp.output,hp.size,fun b hb=>hp.frame b hb fun t li k hl=>by cases hl⟩
end
end Go.Vm
/- Functions that are known without their code: math/bits.Add64 and Sub64, slices.Clone. -/
namespace Go.Vm
section
variable {P : Program}
theorem Sk {im:Im} {w:World} {v:PV} {u:Value} (ov:SR im iI [] [] w) (hv:VR im iI v u):zF im iI [] w v [] [] im iI w u where
 jt:= .refl _
 eS:= .refl _
 vr:=hv
 sr:=ov
 os:=rfl
 tape:= .refl _
 output:=rfl
 size:=PP _
 frame:=fun _ _ _=>rfl
 fa:=fun _ _ h=> .inl h
 rR:=fun _ _ h=> .inl h
 own:=fun t li k h=>by cases h
theorem Sl {im:Im} {loc:Loc} {k1 k2 k3:IntKind} {a b c:Int} {us:List Value} (h:fW im loc [.int k1 a,.int k2 b,.int k3 c] us):us=[.int k1 a,.int k2 b,.int k3 c]:=by
 cases h with
 |cons _ _ _ _ h1 h=>
  cases h with
  |cons _ _ _ _ h2 h=>
   cases h with
   |cons _ _ _ _ h3 h=>cases h;rw [h1.jd,h2.jd,h3.jd]
theorem Sm {f:FuncId} {fn:Func} (hf:P.funcs[f]? =adh fn) (we:(fn.name== "runtime.NumGoroutine")=adW) (hb:fn.body.isNone=adV) (hn:Extern.findNext fn=adU) (he:Extern.find fn=adh add64Entry):NR P f Ep:=by
 intro args v news hp im w us ov Dd;unfold Ep at hp;split at hp
 · rename_i a b c
   split at hp
   · rename_i hc
     have hc:c<=1:=by simpa using hc
     obtain ⟨rfl,rfl⟩:=hp;obtain rfl:=Sl Dd;refine .inl ⟨_,w,?_,im,iI,Sk ov (.cV _ [.int .u64 (((a:Int)+b+c)%18446744073709551616),.int .u64 (((a:Int)+b+c) / 18446744073709551616)] (.cons _ _ _ _ ?_ (.cons _ _ _ _ ?_ .nil)))⟩
     · rw [run_callFunc_extern hf we hb hn he]
       have:=run_add64 (P:=P) (a:Int) b c (by omega) (by omega) (by omega) (by omega) w;simp_all
     · have:ad2 ((a+b+c)%18446744073709551616)=((a:Int)+b+c)%18446744073709551616:=by
        rfl
       rw [this];exact .int _ _
     exact .int _ _
   cases hp
 cases hp
def xcA (aO:Nat):lY:= .region adU [⟨adh 2,.Xy (.c (.sl aO adV [])),adU⟩] [0]
def xcN (aO:Nat):lY:= .seq (.region adU [⟨adh 2,.Xy (.c (.sl aO adV [])),adU⟩] [2]) .ret
def xcC (aO:Nat) (zero:Row):lY:= .seq (.region adU [⟨adh 5,.Fj aO 0 zero [],adU⟩,⟨adh 6,.Xy (.t 0),adU⟩,⟨adh 7,.append aO (.t 5) (.t 6),adU⟩,⟨adh 2,.Xy (.t 7),adU⟩] [2]) .ret
def Yp (P:Program) (o:Oper):Bool:=
 o.guard.isNone&&o.dst==adh 4&&(match o.op with
  | .binOp .eql t x (.const (.slice adU 0 0)) _=>bF (.t 3) x&&xh P t
  |_=>adW)
def Qc (P:Program) (aO:Nat) (zero:Row) (f:FuncId):Bool:=
 match P.funcs[f]? with
 |some fn=>!(fn.name== "runtime.NumGoroutine")&&abm 7 fn.ntmps&&tR P [.tmp 2] fn.results.toList&&(match fn.body with
  |some (.seq a (.seq (.seq (.region _ ops adW) (.cond c n .skip)) r))=>
   jf P (fun _=>adV) fn.ntmps (xcA aO) a&&jf P (fun _=>adV) fn.ntmps (xcN aO) n&&jf P (fun _=>adV) fn.ntmps (xcC aO zero) r&&bF (.t 4) c&&
    (match ops.toList with
    | [o1,o2]=>yi P (fun _=>adV) fn.ntmps ops ⟨adh 3,.Xy (.t 0),adU⟩ o1&&Yp P o2
    |_=>adW)
  |_=>adW)
 |none=>adW
theorem abN:NX P (fun _=>adU) (fun _=>adU):=⟨(fun _ _args _sto _fz _v _sto' _fz' h=>by cases h),⟨(fun _ _k _p h=>by cases h),(fun _ _p h=>by cases h)⟩⟩
theorem Um {prims:FuncId->Bool}:G0 P prims (fun _=>adU):=fun _ _x _st _e _st' h=>by cases h
theorem qD (vp:P.follows .mixedOrders=adV) {aO:Nat} {zero:Row} {f:FuncId} (hc:Qc P aO zero f=adV):NR P f (gV aO):=by
 intro args v news hp im w us ov Dd;unfold Qc at hc;cases hf:P.funcs[f]? with
 |none=>grind
 |some fn=>
  rw [hf] at hc;simp only [IR,abk] at hc;obtain ⟨⟨⟨we,hnt⟩,FC⟩,qZ⟩:=hc;have hnt:7<fn.ntmps:=by simpa using hnt
  split at qZ
  · rename_i ca id ops cc cn cr hb
    simp only [IR] at qZ;obtain ⟨⟨⟨⟨hA,hN⟩,hC⟩,T5⟩,VQ⟩:=qZ;split at VQ
    · rename_i o1 o2 hl
      simp only [IR] at VQ;obtain ⟨ho1,ho2⟩:=VQ;have anT: ∃e c rows,args=[.sl e c rows]:=by
       unfold gV at hp
       grind
      obtain ⟨e,cl,rows,rfl⟩:=anT;obtain ⟨u,rfl⟩: ∃u,us=[u]:=by
       cases Dd with
       |cons _ u _ us h1 h2=>cases h2;simp
      refine .inr ⟨kq hf we hb,calls_of_wp hf hb ?_⟩
      let st0:St:={env:=[(0,.sl e cl rows)],aA:=[],fz:=[],kn:=0}
      let a0:Act:={tmps:=(⟨[u]⟩:Array Value)++abi (fn.ntmps- (⟨[u]⟩:Array Value).size) Go.undef,defers:=[]}
      have anU:At im iI [] w fn.ntmps st0 a0 w:=by
       refine ⟨im,iI,⟨⟨ov,.refl _,.refl _,rfl,.refl _,rfl,PP _,fun _ _ _=>rfl,fun _ _ h=> .inl h,fun _ _ h=> .inl h,fun t li k hl=>by cases hl⟩,rfl,PP _,fun t li hl=>by cases hl⟩,⟨Mm Dd _,rfl,?_⟩⟩
       grind
      have fin: ∀(st:St) (v':PV),lk 2 st.env=v'-> ∀a' w',At im iI [] w fn.ntmps st a' w'->
       a'.defers=[]/\ ∃u,(results fn a'.tmps).run P w'= .ok u w'/\ ∃v'':Value,Ending.returned u= .returned v''/\ ∃fA bz,zF im iI [] w v' st.aA st.fz fA bz w' v'':=by
       intro st v' hv' a' w' dH
       obtain ⟨fA,bz,hk,JM⟩:=dH.ex;obtain ⟨u,hu,tM⟩:=JN (P:=P) (fn:=fn) hk.kept.sr JM.env FC (vs:=[v']) (by simp [rY,Jj,hv']);have K:=hk.kept;exact ⟨JM.defers,u,hu,u,rfl,fA,bz,⟨K.jt,K.eS,tM,K.sr,K.os,K.tape,K.output,K.size,K.frame,K.fa,K.rR,K.own⟩⟩
      refine wp_seq ?_;refine nR abN Um vp (xcA aO) _ st0 .normal {env:=[(0,.sl e cl rows)],aA:=[],fz:=[],kn:=0} hA rfl a0 w anU _ fun a1 w1 anV=>?_
      refine wp_seq (wp_seq ?_);refine wp_region ?_;have aiZ:ops= #[o1,o2]:=ad3 (by simpa using hl);subst aiZ;obtain ⟨Lx,eB,j8,Qd⟩:=anV.ex;have N3:=Qd.env 0;have N3:VR Lx eB (.sl e cl rows) (a1.tmps.getD 0 Go.undef):=N3;obtain ⟨ad,cap,hu0,LB,hck,oG⟩:=N3.r8;unfold yi at ho1;simp only [IR,beq_iff_eq] at ho1;obtain ⟨⟨⟨hd1,_⟩,XG⟩,Yq⟩:=ho1;have anW:o1.guard=adU:=by
       cases hg:o1.guard with
       |none=>rfl
       |some q=>rw [hg] at XG;simp [zH] at XG
      have ai0: ∃x,(o1.op= .move x\/o1.op= .assign x)/\bF (.t 0) x=adV:=by cases ho:o1.op<;>rw [ho] at Yq<;>simp only [BD] at Yq<;>first|exact ⟨_,.inl rfl,Yq⟩|exact ⟨_,.inr rfl,Yq⟩|simp at Yq
      obtain ⟨x1,Mn,afv⟩:=ai0;have anX:a1.eval x1= .slice ad (adc rows) cap:=by
       have h:=Sg (a:=a1) (e:=[(0,PV.sl e cl rows)]) (.t 0) (fun t ht=>by injection ht with ht;subst ht;exact Qd.env 0) x1 afv;cases x1 with
       |tmp t=>
        have:(0:Nat)=t:=by simpa [bF] using afv
        subst this;simpa [Act.eval] using hu0
       |_=>simp [bF] at afv
      have ai1:(execOp a1.eval o1).run P w1= .ok (.value (.slice ad (adc rows) cap)) w1:=by rcases Mn with h|h<;>simp [execOp,h,anX]
      unfold Yp at ho2;simp only [IR,beq_iff_eq,Option.isNone_iff_eq_none] at ho2;obtain ⟨⟨hg2,hd2⟩,abO⟩:=ho2;split at abO
      case h_2=>cases abO
      rename_i ty x2 ub ai2;simp only [IR] at abO;obtain ⟨hx2,cO⟩:=abO;have anY:x2= .tmp 3:=by
       cases x2 with
       |tmp t=>
        have:(3:Nat)=t:=by simpa [bF] using hx2
        subst this;rfl
       |_=>simp [bF] at hx2
      subst anY;unfold xh at cO;split at cO
      case h_2=>cases cO
      rename_i el tB;have anZ:a1.tmps.size=fn.ntmps:=Qd.RX
      let a2:Act:=a1.put (adh 3) (.slice ad (adc rows) cap)
      have RR:a2.tmps.getD 3 Go.undef= .slice ad (adc rows) cap:=by simp only [a2,Act.put,ab4];rw [abf (by omega)];rfl
      have ai3:(execOp a2.eval o2).run P w1= .ok (.value (.bool ad.isNone)) w1:=by
       simp only [execOp,ai2];refine la ?_;have e3:a2.eval (.tmp 3)= .slice ad (adc rows) cap:=by simpa [Act.eval] using RR
       rw [e3];have hg:(eqGuard .eql ty (.tmp 3) (.const (.slice adU 0 0)) (.slice ad (adc rows) cap) (a2.eval (.const (.slice adU 0 0)))).run P w1= .ok () w1:=by unfold eqGuard;simp
       simp only [ad6,hg,Result.andThen_ok];exact Lib.run_eql_slice_nil w1 ty el ad (adc rows) cap 0 0 tB
      let a3:Act:=a2.put (adh 4) (.bool ad.isNone)
      have afw:At im iI [] w fn.ntmps {env:=[(0,.sl e cl rows)],aA:=[],fz:=[],kn:=0} a3 w1:=by
       refine ⟨Lx,eB,j8,⟨fun t=>?_,Qd.defers,by simp [a3,a2,Act.put,anZ]⟩⟩;have h:=Qd.env t;simp only [wz] at h ⊢
       by_cases ht:t=0
       · subst ht
         simp only [if_true] at h ⊢;simpa [a3,a2,Act.put,Array.getElem?_setIfInBounds] using h
       rw [Do (fun e=>ht e.symm)];exact .undef _
      have PJ:a3.eval cc= .bool ad.isNone:=by
       cases cc with
       |tmp t=>
        have:(4:Nat)=t:=by simpa [bF] using T5
        subst this;simp only [Act.eval,a3,Act.put,ab4];rw [abf (by simp [a2,Act.put];omega)];rfl
       |_=>simp [bF] at T5
      have afx:List.range #[o1,o2].size=[0,1]:=rfl;rw [afx];simp only [wpOps];have e0:(#[o1,o2]:Array Oper)[0]? =adh o1:=rfl;have e1:(#[o1,o2]:Array Oper)[1]? =adh o2:=rfl;rw [e0];dsimp only;have hw1:Region.wanted o1 (yielded #[o1,o2] a1.tmps)=adV:=by unfold Region.wanted;rw [anW]
      rw [hw1,AC rfl];refine .inl ?_;unfold Oper.wp;rw [ai1,Oper.upon_value,<- hd1,e1];dsimp only;have hw2:Region.wanted o2 (yielded #[o1,o2] (a1.put (adh 3) (.slice ad (adc rows) cap)).tmps)=adV:=by unfold Region.wanted;rw [hg2]
      rw [hw2,AC rfl];refine .inl ?_;rw [show a1.put (adh 3) (.slice ad (adc rows) cap)=a2 from rfl,ai3,Oper.upon_value,hd2];show (Code.cond cc cn .skip).wp P _ a3 w1;cases had:ad with
      |none=>
       have NL:rows=[]:=by
        rcases rows with _|⟨r,rs⟩
        · rfl
        obtain ⟨b,o,h,_⟩:=oG (by simp)
        rw [had] at h;cases h
       subst NL;simp only [gV,UV,abb] at hp;obtain ⟨rfl,rfl⟩:=hp;refine wp_cond_true (by rw [PJ,had];rfl) ?_;refine nR abN Um vp (xcN aO) _ _ .ret {env:=[(2,.sl aO adV [])],aA:=[],fz:=[],kn:=0} hN rfl a3 w1 afw _ fun a4 w4 Yr=>?_
       obtain ⟨hdf,u',HR,v'',an0,fA,bz,hf'⟩:=fin _ _ rfl a4 w4 Yr;refine ⟨hdf,u',HR,v'',an0,fA,bz.set 1 ⟨0,0,aO,0,0⟩,?_⟩;have Uo: ∀t,bz t=adU:=fun t=>by
        cases hl:bz t with
        |none=>rfl
        |some li=>obtain ⟨k,hk,_⟩:=hf'.sr.eg t li hl;simp at hk
       obtain ⟨ad',eh,hv3,_,an1,_⟩:=hf'.vr.r8;have LL:eh=0:=by simpa using an1 rfl
       subst LL;exact {
        jt:=hf'.jt,eS:=fun t li h=>by cases h
        vr:=by rw [hv3];exact .own 1 aO 0 0 0 adW ⟨0,0,aO,0,0⟩ ad' 0 (Loc.jE _ _ _) rfl (PP _) (PP _) (PP _) (fun h=>by cases h) (.inl rfl)
        sr:={
         bP:=hf'.sr.bP
         eg:=fun t li h=>by
          unfold Loc.set at h;split at h
          · rename_i ht;subst ht;injection h with h;subst h
            exact ⟨_,rfl,rfl,rfl,fun h=>absurd rfl h⟩
          rw [Uo t] at h;cases h
         k7:=fun t u li lj k k' h h' hs BP IX=>by
          unfold Loc.set at h;split at h
          · rename_i ht;subst ht;simp at hs;subst hs;cases IX
          rw [Uo t] at h;cases h
         free:=fun t li k h hs IX=>by
          unfold Loc.set at h;split at h
          · rename_i ht;subst ht;simp at hs;subst hs;cases IX
          rw [Uo t] at h;cases h}
        os:=hf'.os,tape:=hf'.tape,output:=hf'.output,size:=hf'.size,frame:=hf'.frame,fa:=hf'.fa
        rR:=fun t li h=> .inr (abd _)
        own:=fun t li k h hs IX=>by
         unfold Loc.set at h;split at h
         · rename_i ht;subst ht;simp at hs;subst hs;cases IX
         rw [Uo t] at h;cases h}
      |some ad'=>
       refine wp_cond_false (by rw [PJ,had];rfl) (wp_skip ?_);rcases rows with _|⟨r,rs⟩
       · simp only [gV,UV,abb] at hp
         obtain ⟨rfl,rfl⟩:=hp;exact nR abN Um vp (xcC aO zero) _ _ .ret {env:=[(2,.own 1 aO 0 0 0 adW)],aA:=[.arr aO [],.arr aO []],fz:=[],kn:=0} hC rfl a3 w1 afw _ fun a4 w4 Yr=>fin _ _ rfl a4 w4 Yr
       simp only [gV] at hp
       split at hp
       case isFalse=>cases hp
       rename_i Ud;simp only [IR,acl,abE] at Ud;obtain ⟨rfl,lz⟩:=Ud;simp only [UV,abb] at hp;obtain ⟨rfl,rfl⟩:=hp;have hap:lr [.arr e []] [] e (.own 0 e 0 0 0 adV) (.sl e cl (r::rs))=adh {v:= .own 1 e 0 (0+(adc rs+1)) (0+(adc rs+1)) adW,news:=[.arr e (r::rs)],rd:=[0]}:=by
        have h1:EQ e e=adV:=by simp
        have h2:aba (adc rs+1) 0=adW:=rfl;have h3:aba (0+(adc rs+1)) gU=adV:=by simpa using lz
        simp only [lr,rowsOf,h1,if_true];simp [h2,lz,lZ]
       refine nR abN Um vp (xcC e zero) _ _ .ret {env:=[(2,.own 1 e 0 (0+(adc rs+1)) (0+(adc rs+1)) adW)],aA:=[.arr e [],.arr e (r::rs)],fz:=[],kn:=0} hC ?_ a3 w1 afw _ fun a4 w4 Yr=>fin _ _ rfl a4 w4 Yr
       simp only [xcC,zq,oE,rX,wanted,BB,bO,gR.ev,lk];simp [vg,XR.ok,As,XR.next,kY,zx,ly,lk,hap]
    cases VQ
  cases qZ
end
end Go.Vm
/- slices.Insert of one row: what it leaves of the memory. -/
namespace Go.Vm
section
variable {P : Program} {im fA : Im} {loc bz : Loc} {aA : cU} {fz : List Nat} {w w' : World}
theorem uI (w:World) (dT sT ty el:TypeId) (aO g o afy an3:Nat) (a:Addr) (zC sCap:Nat) (cur:Array Value) (t:TypeId) (cs:List Value)
 (hu:P.underlying dT=adh (.slice el)) (hs:(P.info? el).map (·.size)=adh aO)
 (hg:w.heap[g]? =adh (.cells cur t (0,0))) (hn:Nat.min zC afy*aO=adc cs)
 (an4: ∀j v,cs[j]? =adh v->w.cell? (a.add j)=adh v) (wC:o+adc cs<=cur.size) (h1: ∀v∈cs,v.oneCell'=adV):
 (Builtin.copy_ #[dT,sT] ty #[.slice (adh ⟨g,o,adU⟩) afy an3,.slice (adh a) zC sCap]).run P w=
  .ok (goInt (Nat.min zC afy)) (w.setRow g (rQ o cs cur.toList).toArray):=by
 have hl:=run_loadCells_list (P:=P) w a cs an4;have cO:=run_storeCells_at P g o t cs 0 cur w hg (by simpa using wC) h1;cases hq:P.info? el with
 |none=>simp [hq] at hs
 |some i=>
  have hi:i.size=aO:=by grind
  simp [Builtin.copy_,run_underlying hu,Builtin.lenOf,Builtin.firstCells,sizeOf,typeInfo,hq,hi,hn,hl,cO,rQ]
theorem BR.gS {li:LI} {k:om} (h:BR im loc w li k) (hi:rZ im fA) (hl:pR loc bz) (hw:k.bW=adV->w'.heap[li.eg]? =w.heap[li.eg]?):BR fA bz w' li k:=by
 cases hs:k.bW with
 |true=>exact h.mono hi hl (hw hs)
 |false=>
  cases k with
  |arr e rows=>
   cases rows with
   |nil=>exact ⟨h.1,h.2.1,fun fy=>absurd rfl fy⟩
   |cons r rs=>cases hs
  |box cs=>cases hs
  |map es=>cases hs
  |dead=>trivial
theorem Dj {r:tz} {t:Nat} {u:Value} (ov:SR im loc aA fz w) (he:yc im loc aA w r fA bz w') (yX:r.fr=[]) (hw:r.wr=[(t,.dead)]) (ht:t<adc aA) (hv:VR fA bz r.v u):
 zF im loc aA w r.v (aA.set t .dead++r.news) fz fA bz w' u:=by
 have eT:(aA.set t .dead).length=(adc aA):=by simp
 have old: ∀t' li,loc t'=adh li->t'<(adc aA):=fun t' li h=>by
  obtain ⟨k,hk,_⟩:=ov.eg t' li h
  grind
 have VZ: ∀t' li k,loc t'=adh li->(aA.set t .dead++r.news)[t']? =adh k->k.bW=adV->t'≠t/\aA[t']? =adh k:=by
  intro t' li k h hk hs;have iz:=old t' li h;rw [NE (by omega),acp] at hk;split at hk
  · first|(injection hk with hk;subst hk;cases hs)|(split at hk<;>first|(injection hk with hk;subst hk;cases hs)|cases hk)
  grind
 have V0: ∀t' k,adc aA<=t'->(aA.set t .dead++r.news)[t']? =adh k->r.news[t'-(adc aA)]? =adh k:=by
  grind
 have Mo: ∀t' li,bz t'=adh li->loc t'=adh li\/(adc aA<=t'/\t'=adc aA+(t'-(adc aA))):=by
  intro t' li h;rcases he.oo t' li h with h|⟨h,_⟩
  · exact .inl h
  omega
 have imn: ∀b o,fA b=adh o->im b=adh o\/w.heap.size<=b:=by
  intro b o h;rcases he.fa b o h with h|h|⟨t0,li,k,h,_⟩
  · exact .inl h
  · exact .inr h
  rw [yX] at h;cases h
 have ai4: ∀t' li k,loc t'=adh li->aA[t']? =adh k->t'≠t->k.bW=adV->BR im loc w li k->w'.heap[li.eg]? =w.heap[li.eg]?:=by
  intro t' li k hl hk fy hs hb;refine he.frame li.eg (hb.lt hs) fun t0 k1 l0 k0 hm RS hk0 Pr e=>?_
  rw [hw] at hm;obtain ⟨rfl,rfl⟩:=by simpa using hm
  exact fy (ov.k7 _ _ _ _ _ _ hl RS hk hk0 hs Pr e.symm)
 have abP: ∀t' li k,bz t'=adh li->adc aA<=t'->r.news[t'-(adc aA)]? =adh k->BR fA bz w' li k/\
  (k.bW=adV->fA li.eg=adU/\(w.heap.size<=li.eg\/ ∃lt k0,loc t=adh lt/\aA[t]? =adh k0/\k0.bW=adV/\lt.eg=li.eg)):=by
  intro t' li k hl p9 hk;obtain ⟨h1,h2⟩:=he.news (t'-(adc aA)) k li hk (by rw [show (adc aA)+(t'-(adc aA))=t' by omega];exact hl)
  grind
 have apart: ∀t1 u1 li lj k k',loc t1=adh li->t1≠t->aA[t1]? =adh k->k.bW=adV->bz u1=adh lj->adc aA<=u1->r.news[u1-(adc aA)]? =adh k'->k'.bW=adV->li.eg≠lj.eg:=by
  intro t1 u1 li lj k k' hl fy hk hs qC p9 LM BP e;obtain ⟨k2,HQ,hb⟩:=ov.eg t1 li hl;rw [hk] at HQ;injection HQ with HQ;subst HQ;rcases ((abP u1 lj k' qC p9 LM).2 BP).2 with h|⟨lt,k0,a,b,c,d⟩
  · have:=hb.lt hs;omega
  exact fy (ov.k7 _ _ _ _ _ _ hl a hk b hs c (by rw [e,d]))
 exact {
  jt:=he.jt,eS:=he.eS,vr:=hv
  sr:={
   bP:=he.bP
   eg:=fun t' li h=>by
    rcases Mo t' li h with ho|⟨p9,_⟩
    · obtain ⟨k,hk,hb⟩:=ov.eg t' li ho
      have iz:=old t' li ho
      by_cases e:t'=t
      · subst e
        exact ⟨.dead,by rw [NE (by omega),List.getElem?_set_self (by omega)],trivial⟩
      refine ⟨k,by rw [NE (by omega),List.getElem?_set_ne (fun x=>e x.symm)];exact hk,hb.gS he.jt he.eS fun hs=>ai4 t' li k ho hk e hs hb⟩
    have hn:t'-(adc aA)<(adc r.news):=by
     rcases he.oo t' li h with ho|⟨_,h2⟩
     · have:=old t' li ho;omega
     omega
    obtain ⟨hb,_⟩:=abP t' li _ h p9 (If hn);exact ⟨_,by rw [aa9 (by omega),eT];exact If hn,hb⟩
   k7:=fun t1 u1 li lj k k' hl qC hk LM hs BP e=>by
    rcases Mo t1 li hl with h1|⟨h1,_⟩<;>rcases Mo u1 lj qC with h2|⟨h2,_⟩
    · obtain ⟨n1,e1⟩:=VZ _ _ _ h1 hk hs
      obtain ⟨n2,e2⟩:=VZ _ _ _ h2 LM BP;exact ov.k7 _ _ _ _ _ _ h1 h2 e1 e2 hs BP e
    · obtain ⟨n1,e1⟩:=VZ _ _ _ h1 hk hs
      exact absurd e (apart _ _ _ _ _ _ h1 n1 e1 hs qC h2 (V0 _ _ h2 LM) BP)
    · obtain ⟨n2,e2⟩:=VZ _ _ _ h2 LM BP
      exact absurd e.symm (apart _ _ _ _ _ _ h2 n2 e2 BP hl h1 (V0 _ _ h1 hk) hs)
    have:=he.distinct (t1-(adc aA)) (u1-(adc aA)) k k' li lj (V0 _ _ h1 hk) (V0 _ _ h2 LM) hs BP (by rw [show (adc aA)+(t1-(adc aA))=t1 by omega];exact hl) (by rw [show (adc aA)+(u1-(adc aA))=u1 by omega];exact qC) e
    omega
   free:=fun t' li k hl hk hs hz=>by
    rcases Mo t' li hl with h1|⟨h1,_⟩
    · obtain ⟨n1,e1⟩:=VZ _ _ _ h1 hk hs
      obtain ⟨k2,HQ,hb⟩:=ov.eg t' li h1;rw [e1] at HQ;injection HQ with HQ;subst HQ;have h0:=ov.free t' li k h1 e1 hs hz;cases hi:fA li.eg with
      |none=>rfl
      |some o=>
       rcases imn _ _ hi with h|h
       · rw [h0] at h;cases h
       have:=hb.lt hs;omega
    exact ((abP t' li k hl h1 (V0 _ _ h1 hk)).2 hs).1}
  os:=he.os,tape:=he.tape,output:=he.output,size:=he.size
  frame:=fun b hb h=>he.frame b hb fun t0 k li k0 hm hl hk hs=>h t0 li k0 hl hk hs
  fa:=fun b o h=>by
   rcases imn b o h with h|h
   · exact .inl h
   exact .inr (.inl h)
  rR:=fun t' li h=>by
   rcases Mo t' li h with h|⟨h,_⟩
   · exact .inl h
   exact .inr h
  own:=fun t' li k hl hk hs=>by
   rcases Mo t' li hl with h1|⟨h1,_⟩
   · obtain ⟨n1,e1⟩:=VZ _ _ _ h1 hk hs
     exact .inr ⟨t',li,k,h1,e1,hs,rfl⟩
   rcases ((abP t' li k hl h1 (V0 _ _ h1 hk)).2 hs).2 with h|⟨lt,k0,a,b,c,d⟩
   · exact .inl h
   exact .inr ⟨t,lt,k0,a,b,c,d⟩}
theorem SR.Mp (h:SR im loc aA fz w):loc (adc aA)=adU:=by
 cases hl:loc (adc aA) with
 |none=>rfl
 |some li=>obtain ⟨k,hk,_⟩:=h.eg _ _ hl;simp at hk
theorem V1 {t e:Nat} {li:LI} {rows L:List Row} {arr fin:Array Value} {el:TypeId} (ov:SR im loc aA fz w) (hl:loc t=adh li) (cO:aA[t]? =adh (.arr e rows)) (fy:rows≠[]) (hf:has fz t=adW)
 (ha:w.heap[li.eg]? =adh (.cells arr el (0,0))) (hh:w'.heap=w.heap.setIfInBounds li.eg (.cells fin el (0,0))) (ho:w'.os=w.os) (ht:Tape w w') (hp:w'.output=w.output)
 (wb:fin.size=li.sz) (wC:li.sh+adc L*e<=li.sz) (hr:bY (fun k=>fin[k]?) li.sh e L):
 yc im loc aA w {v:= .own (adc aA) e 0 (adc L) (adc L) adW,news:=[.arr e L],wr:=[(t,.dead)]} im (loc.set (adc aA) ⟨li.eg,li.sh,e,adc L,li.sz⟩) w':=by
 have GR:(om.arr e rows).bW=adV:=qX fy;have Jr:=ov.free t li _ hl cO GR hf;have XW:=ov.Mp;exact {
  jt:= .refl _,eS:=Loc.B5 _ XW
  bP:=fun b o hb=>by
   have h1:=ov.bP b o hb
   grind
  fa:=fun _ _ h=> .inl h,os:=ho,tape:=ht,output:=hp
  size:=by rw [hh];simp
  Vx:=fun t' k hm hs=>by
   grind
  frame:=fun b _ hb=>by simp_all
  wr:=fun t' k li hm qC=>by
   obtain ⟨rfl,rfl⟩:=by simpa using hm
   trivial
  oo:=fun t' l h=>by
   unfold Loc.set at h
   grind
  news:=GM fun j k hj=>by
   cases j with
   |zero=>simp at hj;subst hj;refine ⟨_,Loc.jE _ _ _,⟨rfl,rfl,fun _=>⟨fin,el,by grind,wb,wC,hr⟩⟩,fun _=>⟨Jr,.inr ⟨t,li,_,abJ.2 rfl,hl,cO,GR,rfl⟩⟩⟩
   |succ j=>simp at hj
  distinct:=fun i j ki kj li lj h1 h2 _ _ _ _ _=>by
   grind}
theorem Mq {t e:Nat} {L:List Row} {fin:Array Value} {el:TypeId} (ov:SR im loc aA fz w)
 (hh:w'.heap=w.heap.push (.cells fin el (0,0))) (ho:w'.os=w.os) (ht:Tape w w') (hp:w'.output=w.output)
 (wC:(adc L)*e<=fin.size) (hr:bY (fun k=>fin[k]?) 0 e L):
 yc im loc aA w {v:= .own (adc aA) e 0 (adc L) (adc L) adW,news:=[.arr e L],wr:=[(t,.dead)]} im (loc.set (adc aA) ⟨w.heap.size,0,e,adc L,fin.size⟩) w':=by
 have XW:=ov.Mp;have old: ∀b,b<w.heap.size->w'.heap[b]? =w.heap[b]?:=fun b hb=>by grind
 have iz:=fun b o h=>(abg.1 (ov.bP b o h)).1
 exact {
  jt:= .refl _,eS:=Loc.B5 _ XW
  bP:=fun b o hb=>by rw [old b (iz b o hb)];exact ov.bP b o hb
  fa:=fun _ _ h=> .inl h,os:=ho,tape:=ht,output:=hp
  size:=by rw [hh];simp
  Vx:=fun t' k hm hs=>by
   obtain ⟨rfl,rfl⟩:=by simpa using hm
   cases hs
  frame:=fun b hb _=>old b hb
  wr:=fun t' k li hm qC=>by
   obtain ⟨rfl,rfl⟩:=by simpa using hm
   trivial
  oo:=fun t' l h=>by
   unfold Loc.set at h
   grind
  news:=GM fun j k hj=>by
   cases j with
   |zero=>
    simp at hj;subst hj;refine ⟨_,Loc.jE _ _ _,⟨rfl,rfl,fun _=>⟨fin,el,by rw [hh];simp,rfl,by simpa using wC,hr⟩⟩,fun _=>⟨?_,.inl (PP _)⟩⟩;cases hi:im w.heap.size with
    |none=>rfl
    |some o=>grind
   |succ j=>simp at hj
  distinct:=fun i j ki kj li lj h1 h2 _ _ _ _ _=>by
   grind}
theorem Mr {aO:Nat}: ∀{rows:List Row} (_: ∀r∈rows,adc r=aO) (i:Nat),(rows.take i).flatMap bn=(rows.flatMap bn).take (i*aO)
 | [],_,i=>by simp
 |r::rs,h,0=>by simp
 |r::rs,h,i+1=>by
  have hr:(bn r).length=aO:=by grind [oH]
  have e1:(bn r).take ((i+1)*aO)=bn r:=abc (by grind);rw [List.take_succ_cons,abu,Mr (fun x hx=>h x (by simp [hx])) i,abu,List.take_append,e1,hr,show (i+1)*aO-aO=i*aO by grind]
theorem Ms {aO:Nat}: ∀{rows:List Row} (_: ∀r∈rows,adc r=aO) (i:Nat),(rows.drop i).flatMap bn=(rows.flatMap bn).drop (i*aO)
 | [],_,i=>by simp
 |r::rs,h,0=>by simp
 |r::rs,h,i+1=>by
  have hr:(bn r).length=aO:=by grind [oH]
  have e1:(bn r).drop ((i+1)*aO)=[]:=abv (by grind);rw [List.drop_succ_cons,Ms (fun x hx=>h x (by simp [hx])) i,abu,List.drop_append,e1,hr,show (i+1)*aO-aO=i*aO by grind,List.nil_append]
theorem abQ {α:Type} {o k:Nat} {cs vs l:List α} (hl:o+(adc cs+adc vs)<=adc l) (hk:k<=adc cs) (wB: ∀j v,j<k->cs[j]? =adh v->l[o+j]? =adh v):
 ∀j v,(cs.take k++vs++cs.drop k)[j]? =adh v->(rQ (o+k) vs (rQ (o+k+adc vs) (cs.drop k) l))[o+j]? =adh v:=by
 intro j v h;have hd:(cs.drop k).length=adc cs-k:=List.length_drop;have ht:(cs.take k).length=k:=by grind
 have l1:o+k+adc vs+(cs.drop k).length<=(adc l):=by rw [hd];omega
 rw [jL _ _ _ (by grind [dJ])];rcases aaE j k with h1|h1
 · rw [Do (by omega),jL _ _ _ l1,Do (by omega)]
   grind
 rw [acr,aa9 (by omega),ht] at h
 rcases aaE (j-k) (adc vs) with h2|h2
 · grind
 rw [aa9 h2] at h
 have:=(aaF.1 h).1;rw [Do (by omega),jL _ _ _ l1,AC ⟨by omega,by omega⟩,<- h]
 congr 1;omega
theorem Ys {α:Type} {k:Nat} {cs vs l:List α} (hl:(adc cs)+adc vs<=adc l) (hk:k<=adc cs) (wB: ∀(j:Nat) (v:α),j<k->cs[j]? =adh v->l[j]? =adh v):
 ∀(j:Nat) (v:α),(cs.take k++vs++cs.drop k)[j]? =adh v->(rQ (k+adc vs) (cs.drop k) (rQ k vs l))[j]? =adh v:=by
 intro j v h;have ht:(cs.take k).length=k:=by grind
 have l1:k+adc vs<=(adc l):=by omega
 rw [jL _ _ _ (by grind [dJ])];rcases aaE j k with h1|h1
 · rw [Do (by omega),jL _ _ _ l1,Do (by omega)]
   grind
 rw [acr,aa9 (by omega),ht] at h
 rcases aaE _ (adc vs) with h2|h2
 · rw [NE h2] at h
   rw [Do (by omega),jL _ _ _ l1,AC ⟨by omega,by omega⟩,<- h]
 grind
theorem SR.V2 (h:SR im loc aA fz w) {t:Nat} (hf:has fz t=adW) {r:tz} (hw:r.wr=[(t,.dead)]):mb im loc aA w r where
 bP:=h.bP
 tok:=fun t _ li hl=>h.eg t li hl
 free:=fun t' k hm li k' hl hk hs=>by
  obtain rfl:t'=t:=by grind
  exact h.free t' li k' hl hk hs hf
 fresh:=fun j hj=>by
  cases hl:loc _ with
  |none=>rfl
  |some li=>obtain ⟨k,hk,_⟩:=h.eg _ _ hl;grind
 k7:=fun t u li lj k k' _ _=>h.k7 t u li lj k k'
structure Qe (P:Program) (f:FuncId) (e:Nat) (tS:TypeId):Prop where
 ends: ∀(qB:Option Addr) (n c vb tH vc:Nat) (w w':World) (v':Value),n<=c->(Builtin.append_ #[tS,tS] tS #[.slice qB n c,.slice (adh ⟨vb,tH,adU⟩) 1 vc]).run P w= .ok v' w'->
  Calls P f #[.slice qB n c,.int .i64 n,.slice (adh ⟨vb,tH,adU⟩) 1 vc] w fun e W=>e= .returned v'/\W=w'
 room: ∀(b off n c i vb tH vc:Nat) (cs vs:List Value) (arr av:Array Value) (el ev:TypeId) (w:World),i<n->n+1<=c->n<=1048576->vb≠b->w.heap[b]? =adh (.cells arr el (0,0))->w.heap[vb]? =adh (.cells av ev (0,0))->
  off+(n+1)*e<=arr.size->adc cs=n*e->adc vs=e->(∀(j:Nat) (v:Value),cs[j]? =adh v->arr[off+j]? =adh v)->(∀(j:Nat) (v:Value),vs[j]? =adh v->av[tH+j]? =adh v)->(∀v∈cs,v.oneCell'=adV)->(∀v∈vs,v.oneCell'=adV)->
  ∃fin:List Value,adc fin=arr.size/\(∀(j:Nat) (v:Value),(cs.take (i*e)++vs++cs.drop (i*e))[j]? =adh v->fin[off+j]? =adh v)/\
  Calls P f #[.slice (adh ⟨b,off,adU⟩) n c,.int .i64 i,.slice (adh ⟨vb,tH,adU⟩) 1 vc] w fun x w'=>
   x= .returned (.slice (adh ⟨b,off,adU⟩) (n+1) c)/\w'.heap=w.heap.setIfInBounds b (.cells fin.toArray el (0,0))/\w'.os=w.os/\Tape w w'/\w'.output=w.output
 full: ∀(b off n i vb tH vc:Nat) (cs vs:List Value) (w:World),i<n->n<=1048576->adc cs=n*e->adc vs=e->
  (∀(j:Nat) (v:Value),cs[j]? =adh v->w.cell? ⟨b,off+j,adU⟩=adh v)->(∀(j:Nat) (v:Value),vs[j]? =adh v->w.cell? ⟨vb,tH+j,adU⟩=adh v)->(∀v∈cs,v.oneCell'=adV)->(∀v∈vs,v.oneCell'=adV)->
  ∃(G:Nat) (fin:List Value) (el:TypeId),n+1<=G/\adc fin=G*e/\(∀(j:Nat) (v:Value),(cs.take (i*e)++vs++cs.drop (i*e))[j]? =adh v->fin[j]? =adh v)/\
  Calls P f #[.slice (adh ⟨b,off,adU⟩) n n,.int .i64 i,.slice (adh ⟨vb,tH,adU⟩) 1 vc] w fun x w'=>
   x= .returned (.slice (adh ⟨w.heap.size,0,adU⟩) (n+1) G)/\w'.heap=w.heap.push (.cells fin.toArray el (0,0))/\w'.os=w.os/\Tape w w'/\w'.output=w.output
theorem Fs.ins {f:FuncId} {e:Nat} {tS tE:TypeId} {fn:Func} {c:Code} {i0:TypeInfo} {z:Value} (hf:P.funcs[f]? =adh fn) (we:(fn.name== "runtime.NumGoroutine")=adW) (hb:fn.body=adh c)
 (ht:P.underlying tS=adh (.slice tE)) (hi:P.info? tE=adh i0) (wb:i0.size=e) (hz:i0.zero=adh z) (PL:z.cells.size=e) (VB:i0.bytes<=1048576) (he0:0<e) (H:Qe P f e tS):Fs P f (Ny e):=by
 refine ⟨fn,c,hf,we,hb,?_⟩;intro args aA fz v zG NQ hp im loc w us ov Dd;unfold Ny at hp;split at hp
 case h_2=>cases hp
 rename_i t e1 off len cap ex i u e2 ain PC Yt ex2;split at hp
 case h_2=>cases hp
 rename_i e3 rows e4 new cO hsu;split at hp
 case isFalse=>cases hp
 rename_i hc;simp only [IR,acl,abk,decide_eq_true_eq,abE] at hc;obtain ⟨⟨⟨⟨⟨⟨⟨⟨⟨⟨⟨q1,q2⟩,rfl⟩,rfl⟩,eT⟩,rfl⟩,ND⟩,htu⟩,XT⟩,Ps⟩,hil⟩,lz⟩:=hc;have q1:=q1.symm;subst q1;have q2:=q2.symm;subst q2;have lz:len+1<=1048576:=lz;injection hp with hp;simp only [abb] at hp;obtain ⟨rfl,rfl,rfl⟩:=hp;obtain ⟨k,rfl⟩: ∃k:Nat,i=(k:Int):=⟨i.toNat,by omega⟩;simp only [Int.toNat_natCast] at hil ⊢;obtain ⟨x0,V3,rfl,N3,Dd⟩: ∃x0 V3,us=x0::V3/\VR im loc (.own t e 0 len cap ex) x0/\fW im loc [.int .i64 (k:Int),.own u e 0 1 Yt ex2] V3:=by cases Dd with|cons _ a _ b h1 h2=>grind
 obtain ⟨x1,us2,rfl,Mn,Dd⟩: ∃x1 us2,V3=x1::us2/\VR im loc (.int .i64 (k:Int)) x1/\fW im loc [.own u e 0 1 Yt ex2] us2:=by cases Dd with|cons _ a _ b h1 h2=>grind
 obtain ⟨x2,us3,rfl,hx2,Dd⟩: ∃x2 us3,us2=x2::us3/\VR im loc (.own u e 0 1 Yt ex2) x2/\fW im loc [] us3:=by cases Dd with|cons _ a _ b h1 h2=>grind
 obtain rfl:us3=[]:=by cases Dd;rfl
 have Mn:=Mn.jd;subst Mn;obtain ⟨li,a,eh,rfl,hl,he,GN,hlc,T5,_,IC⟩:=N3.jK;obtain ⟨lj,a2,Yu,rfl,PK,BE,at6,avO,avP,_,at7⟩:=hx2.jK;have VT:t<(adc aA):=(aaF.1 cO).1;obtain ⟨k1,j8,yf⟩:=ov.eg t li hl;rw [cO] at j8;injection j8 with j8;subst j8;obtain ⟨k2,HQ,an5⟩:=ov.eg u lj PK;rw [hsu] at HQ;injection HQ with HQ;subst HQ;obtain ⟨b1,b2,b3⟩:=yf;obtain ⟨d1,d2,d3⟩:=an5;have afz:new≠[]:=by grind
 obtain ⟨av,ev,Uc,hv2,hv3,afA⟩:=d3 afz;have e34:e=e3:=by rw [<- b1,he]
 subst e34;have e44:e=e4:=by rw [<- d1,BE]
 subst e44;obtain rfl:a2=adh ⟨lj.eg,lj.sh,adU⟩:=by
  grind
 have NF:=afA.sd;have XV:=afA.plain;have PN:=eC NF;rw [ND] at PN;refine .inr ⟨kq hf we hb,?_⟩;rcases aaE k len with hk|hk
 ·
  have vo:rows≠[]:=by grind
  obtain ⟨arr,el,DQ,RR,PJ,dH⟩:=b3 vo;obtain ⟨hn0,rfl,wC⟩:li.n≠0/\a=adh ⟨li.eg,li.sh,adU⟩/\li.sh+eh*e<=li.sz:=by
   grind
  have XA:=dH.sd;have hrp:=dH.plain;have hfl:=eC XA;rw [<- eT] at hfl;obtain ⟨L,hL⟩: ∃L,L=rows.take k++new++rows.drop k:=⟨_,rfl⟩;have hLl:(adc L)=len+1:=by grind
  have hLf:L.flatMap bn=(rows.flatMap bn).take (k*e)++new.flatMap bn++(rows.flatMap bn).drop (k*e):=by
   grind [Mr,Ms]
  have hLr: ∀r∈L,adc r=e:=by
   grind
  have hLp: ∀r∈L,∀c∈r,c.plain=adV:=by
   grind
  rw [<- hL,<- hLl];have wB: ∀j v,(rows.flatMap bn)[j]? =adh v->arr[li.sh+j]? =adh v:=fun j v hj=>dH.flat j v hj
  have NK: ∀j v,(new.flatMap bn)[j]? =adh v->av[lj.sh+j]? =adh v:=fun j v hj=>afA.flat j v hj
  have LC:(len+1)*e<=eh*e\/eh=len:=by
   grind [aaE,abC]
  rcases LC with ye|Uk
  · have ai8:len+1<=eh:=Nat.le_of_mul_le_mul_right ye he0
    have fy:lj.eg≠li.eg:=fun h=>by have:=ov.k7 u t lj li _ _ PK hl hsu cO (qX afz) (qX vo) h;rw [this] at htu;simp at htu
    obtain ⟨fin,f1,f2,f3⟩:=H.room li.eg li.sh len eh k lj.eg lj.sh Yu _ _ arr av el ev w hk ai8 (by omega) fy DQ Uc (by omega) hfl (by omega) wB NK (sf hrp) (sf XV);refine f3.mono fun x w' ⟨hx,hh,ho,htp,hpp⟩=>⟨_,hx,im,loc.set (adc aA) ⟨li.eg,li.sh,e,adc L,li.sz⟩,?_⟩
    have hE:=V1 ov hl cO vo XT DQ hh ho htp hpp (by simp [f1,RR]) (by rw [hLl];omega) (bY.Eu hLr hLp fun j v hj=>by rw [hLf] at hj;simpa using f2 j v hj);refine Dj ov hE rfl rfl VT ?_;rw [<- hLl];exact .own _ _ 0 _ _ adW ⟨li.eg,li.sh,e,adc L,li.sz⟩ _ eh (Loc.jE _ _ _) rfl (by show 0+adc L<=adc L;omega) (PP _) (by omega) (fun h=>by cases h) (.inr ⟨by show (adc L)≠0;omega,by simp,by show li.sh+(0+eh)*e<=li.sz;rw [Nat.zero_add];exact wC⟩)
  subst Uk
  obtain ⟨G,fin,el',g1,g2,g3,g4⟩:=H.full li.eg li.sh eh k lj.eg lj.sh Yu _ _ w hk (by omega) hfl (by omega) (fun j v hj=>by simp only [ad9,DQ];exact wB j v hj) (fun j v hj=>by simp only [ad9,Uc];exact NK j v hj) (sf hrp) (sf XV);have hg:(eh+1)*e<=G*e:=abC _ g1;refine g4.mono fun x w' ⟨hx,hh,ho,htp,hpp⟩=>⟨_,hx,im,loc.set (adc aA) ⟨w.heap.size,0,e,adc L,fin.toArray.size⟩,?_⟩
  have hE:=Mq (t:=t) ov hh ho htp hpp (by rw [hLl];simp [g2];omega) (bY.Eu hLr hLp fun j v hj=>by rw [hLf] at hj;simpa using g3 j v hj);refine Dj ov hE rfl rfl VT ?_;rw [<- hLl];exact .own _ _ 0 _ _ adW ⟨w.heap.size,0,e,adc L,fin.toArray.size⟩ _ G (Loc.jE _ _ _) rfl (by show 0+adc L<=adc L;omega) (PP _) (by omega) (fun h=>by cases h) (.inr ⟨by show (adc L)≠0;omega,by simp,by show 0+(0+G)*e<=fin.toArray.size;simp [g2]⟩)
 ·
  obtain rfl:k=len:=by omega
  have an6:rows.take k++new++rows.drop k=rows++new:=by rw [abc (by omega),abv (by omega),aby]
  rw [an6];have an7:VR im loc (.own t e 0 k k adW) (.slice a k eh):= .own t e 0 k k adW li a eh hl he (by omega) (PP _) (by omega) (by simp) IC;have HN:rowsOf aA e (.own u e 0 1 Yt ex2)=adh new:=by
   have:(new.drop 0).take 1=new:=by rw [abD,abc (by omega)]
   show (if EQ e e=adV then (match aA[u]? with|some (.arr _ rows)=>adh ((rows.drop 0).take 1)|_=>adU) else adU)=_;rw [AC (ad8 e),hsu];exact congrArg adh this
  have hap:lr aA fz e (.own t e 0 k k adW) (.own u e 0 1 Yt ex2)=adh {v:= .own (adc aA) e 0 (k+1) (k+1) adW,news:=[.arr e (rows++new)],wr:=[(t,.dead)],rd:=[u]}:=by
   have h1:aba (k+1) k=adW:=by
    cases h:aba (k+1) k with
    |false=>rfl
    |true=>have:=Nat.le_of_ble_eq_true h;omega
   have h2:aba (k+1) gU=adV:=by simpa [gU] using lz
   have h3:(rows.drop 0).take k=rows:=by rw [abD,abc (by omega)]
   unfold lr;rw [HN];cases new with
   |nil=>exact absurd rfl afz
   |cons r rs=>have h0:(r::rs).length=1:=ND;simp only [h0,cO,h1,h2,h3,XT,lZ];simp
  obtain ⟨v',w',bz,dq,tM,hE⟩:=Jp ht ht hi wb hz PL VB an7 hx2 hap (ov.V2 XT rfl);refine (H.ends a k eh lj.eg lj.sh Yu w w' v' (by omega) dq).mono fun x W ⟨hx,hW⟩=>⟨v',hx,im,bz,?_⟩
  subst hW;exact Dj ov hE rfl rfl VT tM
end
end Go.Vm
/- slices.Concat of two slices that nobody writes to: the table's entry. -/
namespace Go.Vm
def Yv (P : Program) (f : FuncId) : Prop :=
  ∀ (vb c : Nat) (a1 a2 : Option Addr) (c1 c2 : Nat) (LO LQ : List Value) (av : Array Value) (ev : TypeId) (w : World), w.heap[vb]? = adh (.cells av ev (0, 0)) -> av[0]? = adh (.slice a1 (adc LO) c1) -> av[1]? = adh (.slice a2 (adc LQ) c2) -> 1 <= (adc LO) + (adc LQ) -> (adc LO) + (adc LQ) <= 1048576 ->
    (∀ (j : Nat) (v : Value), LO[j]? = adh v -> ∃ b o, a1 = adh ⟨b, o, adU⟩ /\ w.cell? ⟨b, o + j, adU⟩ = adh v) -> (∀ (j : Nat) (v : Value), LQ[j]? = adh v -> ∃ b o, a2 = adh ⟨b, o, adU⟩ /\ w.cell? ⟨b, o + j, adU⟩ = adh v) -> (∀ v ∈ LO, v.oneCell' = adV) -> (∀ v ∈ LQ, v.oneCell' = adV) ->
    ∃ (G : Nat) (fin : List Value) (el : TypeId), (adc LO) + (adc LQ) <= G /\ (adc fin) = G /\ (∀ (j : Nat) (v : Value), (LO ++ LQ)[j]? = adh v -> fin[j]? = adh v) /\
    Calls P f #[.slice (adh ⟨vb, 0, adU⟩) 2 c] w fun x w' => x = .returned (.slice (adh ⟨w.heap.size, 0, adU⟩) ((adc LO) + (adc LQ)) G) /\ w'.heap = w.heap.push (.cells fin.toArray el (0, 0)) /\ w'.os = w.os /\ Tape w w' /\ w'.output = w.output
section
variable {P : Program} {im : Im} {loc : Loc} {w : World}
theorem xn {rows:List Row} (h:Au rows=adV):(∀r∈rows,adc r=1)/\ ∀r∈rows,∀c∈r,c.plain=adV:=by
 unfold Au at h;rw [abh] at h;constructor
 · intro r hr
   have:=h r hr;simp [IR,acl] at this;exact this.1
 grind
theorem Qf {e:Nat} {cl:Bool} {rows:List Row} {u:Value} (h:VR im loc (.sl e cl rows) u) (h1:Au rows=adV) (he:(EQ e 1||rows.isEmpty)=adV) (bP: ∀b o,im b=adh o->w.heap[b]? =adh o):
 ∃a c,u= .slice a (rows.flatMap bn).length c/\(rows.flatMap bn).length=adc rows/\ ∀(j:Nat) (v:Value),(rows.flatMap bn)[j]? =adh v-> ∃b o,a=adh ⟨b,o,adU⟩/\w.cell? ⟨b,o+j,adU⟩=adh v:=by
 obtain ⟨a,cap,rfl,_,_,oG⟩:=h.r8;obtain ⟨l1,l2⟩:=xn h1;have hl:=eC l1;rw [Nat.mul_one] at hl;refine ⟨a,cap,by rw [hl],hl,fun j v hj=>?_⟩;have fy:rows≠[]:=by grind
 obtain ⟨b,o,rfl,dH⟩:=oG fy;exact ⟨b,o,rfl,vn bP (dH.flat j v hj)⟩
theorem Fs.cat {f:FuncId} {fn:Func} {c:Code} (hf:P.funcs[f]? =adh fn) (we:(fn.name== "runtime.NumGoroutine")=adW) (hb:fn.body=adh c) (H:Yv P f):Fs P f Nw:=by
 refine ⟨fn,c,hf,we,hb,?_⟩;intro args aA fz v zG NQ hp im loc w us ov Dd;unfold Nw at hp;split at hp
 case h_2=>cases hp
 rename_i t e off len cap ex;split at hp
 case h_2=>cases hp
 rename_i e1 cl1 x e2 cl2 y cO;split at hp
 case isFalse=>cases hp
 rename_i hc;simp only [IR,acl,abE] at hc;obtain ⟨⟨⟨⟨⟨⟨⟨⟨⟨rfl,rfl⟩,rfl⟩,XT⟩,Mn⟩,hy1⟩,PM⟩,lz⟩,he1⟩,BE⟩:=hc;have lz:(adc x)+adc y<=1048576:=lz;injection hp with hp;obtain ⟨rfl,rfl,rfl⟩:=hp;obtain ⟨x0,V3,rfl,N3,Dd⟩: ∃x0 V3,us=x0::V3/\VR im loc (.own t 1 0 2 cap ex) x0/\fW im loc [] V3:=by cases Dd with|cons _ a _ b h1 h2=>grind
 obtain rfl:V3=[]:=by cases Dd;rfl
 obtain ⟨li,a,eh,rfl,hl,he,GN,hlc,T5,_,IC⟩:=N3.jK;obtain ⟨k1,j8,yf⟩:=ov.eg t li hl;rw [cO] at j8;injection j8 with j8;subst j8;obtain ⟨_,_,b3,vs,ev,b4,b5,b6⟩:=yf;have VT:=(aaF.1 cO).1;obtain ⟨u1,vs1,rfl,v1,b6⟩: ∃u1 vs1,vs=u1::vs1/\VR im loc (.sl e1 cl1 x) u1/\fW im loc [.sl e2 cl2 y] vs1:=by cases b6 with|cons _ a _ b h1 h2=>grind
 obtain ⟨u2,vs2,rfl,v2,b6⟩: ∃u2 vs2,vs1=u2::vs2/\VR im loc (.sl e2 cl2 y) u2/\fW im loc [] vs2:=by cases b6 with|cons _ a _ b h1 h2=>grind
 obtain rfl:a=adh ⟨li.eg,0,adU⟩:=by
  grind
 obtain ⟨a1,d1,rfl,l1,r1⟩:=Qf v1 Mn he1 ov.bP;obtain ⟨a2,d2,rfl,l2,r2⟩:=Qf v2 hy1 BE ov.bP;obtain ⟨G,fin,el,g1,g2,g3,g4⟩:=H li.eg eh a1 a2 d1 d2 (x.flatMap bn) (y.flatMap bn) _ ev w b4 rfl rfl (by omega) (by omega) r1 r2 (sf (xn Mn).2) (sf (xn hy1).2);refine .inr ⟨kq hf we hb,?_⟩;have hL:(x++y).length=(x.flatMap bn).length+(y.flatMap bn).length:=by grind
 refine g4.mono fun z w' ⟨hz,hh,ho,htp,hpp⟩=>⟨_,hz,im,loc.set (adc aA) ⟨w.heap.size,0,1,(x++y).length,fin.toArray.size⟩,?_⟩
 have hE:=Mq (t:=t) (L:=x++y) (e:=1) ov hh ho htp hpp (by grind) (bY.Eu (fun r hr=>by
  grind [xn]) (fun r hr=>by
  grind [xn]) fun j v hj=>by
  grind)
 refine Dj ov hE rfl rfl VT ?_;rw [<- hL];exact .own _ _ 0 _ _ adW ⟨w.heap.size,0,1,(x++y).length,fin.toArray.size⟩ _ G (Loc.jE _ _ _) rfl (by simp) (PP _) (by omega) (fun h=>by cases h) (.inr ⟨by grind,by simp,by grind⟩)
end
end Go.Vm
/- A table of functions as a tree. -/
namespace Go.Vm
inductive TT where
 |nil
 |leaf (k:Nat) (e:Xz)
 |node (m:Nat) (a b:TT)
def TT.get:TT->Nat->Option Xz
 | .nil,_=>adU
 | .leaf k e,f=>bif EQ f k then adh e else adU
 | .node m a b,f=>bif abm f m then a.get f else b.get f
def TT.All (p:Nat->Xz->Prop):TT->Prop
 | .nil=>True
 | .leaf k e=>p k e
 | .node _ a b=>a.All p/\b.All p
theorem TT.FE {p:Nat->Xz->Prop}: ∀{t:TT} {f:Nat} {e:Xz},t.All p->t.get f=adh e->p f e
 | .nil,f,e,_,h=>by cases h
 | .leaf k e',f,e,ha,h=>by
  simp [TT.get] at h;cases hk:EQ f k with
  |false=>grind
  |true=>
   rw [hk] at h;have:f=k:=by simpa using hk
   subst this;injection h with h;subst h;exact ha
 | .node m a b,f,e,ha,h=>by
  simp [TT.get] at h;cases hk:abm f m with
  |false=>rw [hk] at h;exact TT.FE ha.2 h
  |true=>rw [hk] at h;exact TT.FE ha.1 h
def wg (P:Program) (f:Nat):Xz->Prop
 | .code x=>FD P (fun _=>adV) x f=adV
 | .nN k p=>k=adW/\NR P f p
 | .Ly p=>Fs P f p
theorem TT.ai' {P:Program} {t:TT} (h:t.All (wg P)):Qa P (fun _=>adV) t.get:=fun f x hf=>by have:=TT.FE h hf;exact this
theorem TT.abR {P:Program} {t:TT} (h:t.All (wg P)):Df P t.get:=⟨fun _ _ _ hf=>TT.FE h hf,fun _ _ hf=>TT.FE h hf⟩
end Go.Vm
/- A table of functions, looked at all at once. -/
namespace Go.Vm
def TT.IE (P:Program):TT->Bool
 | .leaf k (.code x)=>FD P (fun _=>adV) x k
 | .node _ a b=>a.IE P&&b.IE P
 |_=>adV
def TT.nO:TT->List (Nat×Xz)
 | .leaf _ (.code _)=>[]
 | .leaf k e=>[(k,e)]
 | .node _ a b=>a.nO++b.nO
 | .nil=>[]
def EA (P:Program):List (Nat×Xz)->Prop
 | []=>True
 |e::r=>wg P e.1 e.2/\EA P r
theorem EA.app {P:Program} {b:List (Nat×Xz)}: ∀{a:List (Nat×Xz)},EA P (a++b)->EA P a/\EA P b
 | [],h=>⟨trivial,h⟩
 |_::_,h=>⟨⟨h.1,h.2.app.1⟩,h.2.app.2⟩
theorem TT.Sn {P:Program}: ∀{t:TT},t.IE P=adV->EA P t.nO->t.All (wg P)
 | .nil,_,_=>trivial
 | .leaf _ (.code _),h,_=>h
 | .leaf _ (.nN ..),_,h=>h.1
 | .leaf _ (.Ly ..),_,h=>h.1
 | .node _ _ _,h,e=>have h:=Bool.and_eq_true_iff.mp h;⟨Sn h.1 e.app.1,Sn h.2 e.app.2⟩
end Go.Vm
/- The logical machine's code of a function, reckoned from the model's own (what it comes to is looked at by chkFunc; nothing is proved of it here). -/
namespace Go.Vm
structure Hint where
 md:FuncId->CM
 gS:List Nat
 an8:List (Nat×List (Nat×Nat)):=[]
 more:List (Nat×List (Nat×Option Nat)):=[]
 tb:Bool:=adW
section
variable (P : Program)
def V4 (t:TypeId):Nat:=match P.info? t with
 |some i=>i.size
 |none=>0
def Sp (t:TypeId):Option Nat:=match P.underlying t with
 |some (.struct _)|some (.array _ _)=>adh (V4 P t)
 |_=>adU
def y6:Nat->TypeId->List PV
 |0,_=>[]
 |n+1,t=>match P.underlying t with
  |some (.int k)=>[.int k 0]
  |some .bool=>[.bool adW]
  |some .string=>[.str .empty]
  |some (.slice e)=>[.sl (V4 P e) adV []]
  |some (.struct fs)=>fs.toList.flatMap fun f=>y6 n f.type
  |some (.array m e)=>(abl m (y6 n e)).flatten
  |some (.func ..)=>[.eW]
  |_=>[.undef]
def aeh (t:TypeId):PV:=match y6 P 9 t with
 |x::_=>x
 | []=> .sl 0 adV []
def aei (t:TypeId):PV:=match Sp P t with
 |some _=> .agg (y6 P 9 t)
 |none=>aeh P t
def aej (z:PV):Value->PV
 | .int k n=> .int k n
 | .bool b=> .bool b
 | .string s=> .str s
 | .slice .. =>z
 | .nilFunc=> .eW
 |_=> .undef
def aek:List PV->List Value->List PV
 |z::zs,v::vs=>aej z v::aek zs vs
 |_,_=>[]
def an9 (t:TypeId):Value->PV
 | .agg vs=> .agg (aek (y6 P 9 t) vs.toList)
 |v=>aej (aeh P t) v
def wD (t:TypeId):Operand->gR
 | .tmp n=> .t n
 | .const v=> .c (an9 P t v)
 | .func f=> .c (.fx f [] [])
 | .global _=> .c .undef
def Yw:List TypeId->List Operand->List gR
 |t::ts,o::os=>wD P t o::Yw ts os
 |_,_=>[]
def jg:Operand->gR
 | .tmp n=> .t n
 | .const (.int k n)=> .c (.int k n)
 | .const (.bool b)=> .c (.bool b)
 | .const (.string s)=> .c (.str s)
 | .func f=> .c (.fx f [] [])
 |_=> .c .undef
def D3 (t:TypeId):TypeId:=match P.underlying t with
 |some (.slice e)=>e
 |some (.array _ e)=>e
 |_=>0
def Yx (place:Nat->Option (Nat×Nat)) (ty:Nat->TypeId):List (Nat×Operand)->List (Nat×Nat×gR)
 | []=>[]
 |(i,o)::r=>match place i with
  |some (a,b)=>(a,b,wD P (ty i) o)::Yx place ty r
  |none=>[]
def Yy (t:TypeId) (i:Nat):TypeId:=match P.underlying t with
 |some (.struct fs)=>match fs[i]? with
  |some f=>f.type
  |none=>0
 |some (.array _ e)=>e
 |_=>0
def aja (t:TypeId) (i:Nat):Nat:=match P.underlying t with
 |some (.struct fs)=>match fs[i]? with
  |some f=>f.offset
  |none=>0
 |_=>0
def ael:BinOp->Bool
 | .neq=>adV
 |_=>adW
def Yz (b:Builtin) (args:List Operand) (ts:List TypeId):oC:=
 match b,args,ts with
 | .len,x::_,t::_=>match P.underlying t with
  |some (.slice _)|some (.map _ _)=> .len (wD P t x)
  |some (.array m _)=> .R0 m
  |some (.pointer e)=>match P.underlying e with
   |some (.array m _)=> .R0 m
   |_=> .bad
  |_=> .bad
 | .append,[x,y],[t,u]=>match P.underlying u with
  |some (.slice _)=> .append (V4 P (D3 P t)) (wD P t x) (wD P u y)
  |_=> .bad
 | .copy,[x,y],[t,u]=>match P.underlying u with
  |some (.slice _)=> .copy (V4 P (D3 P t)) (wD P t x) (wD P u y)
  |_=> .bad
 | .clear,[x],[t]=>match P.underlying t with
  |some (.slice e)=> .clear (V4 P e) (y6 P 9 e) (wD P t x)
  |_=> .bad
 | .min,x::xs,_=> .mm adW (jg x) (xs.map jg)
 | .max,x::xs,_=> .mm adV (jg x) (xs.map jg)
 |_,_,_=> .bad
def cOp (tb:Bool) (md:FuncId->CM) (ty:TypeId):Op->oC
 | .move x| .assign x=> .Xy (wD P ty x)
 | .pick c a b=> .pick (jg c) (wD P ty a) (wD P ty b)
 | .binOp op t x y _=>match P.underlying t with
  |some (.int _)=> .bin op (jg x) (jg y)
  |some .bool=> .Pv (ael op) (jg x) (jg y)
  |some (.struct _)|some (.array _ _)=> .eqc (V4 P t) (ael op) (wD P t x) (wD P t y)
  |_=> .bad
 | .unOp op _ x=> .un op (jg x)
 | .convert _ t x=>match P.underlying t with
  |some (.int k)=> .conv k (jg x)
  |_=> .bad
 | .box t x=> .box (wD P t x)
 | .alloc t=> .alloc (y6 P 9 t)
 | .build t ps=> .build (y6 P 9 t) (Yx P (placeOf P t) (Yy P t) ps.toList)
 | .buildSlice t n ps=>match P.underlying (D3 P t),n,ps.toList with
  |some (.slice _),2,[(0,a),(1,b)]=> .HH (wD P (D3 P t) a) (wD P (D3 P t) b)
  |_,_,_=> .Fj (V4 P (D3 P t)) n (y6 P 9 (D3 P t)) (ps.toList.map fun p=>(p.1,wD P (D3 P t) p.2))
 | .load t a=> .load (Sp P t) (jg a)
 | .store t a v=> .store (V4 P t) (jg a) (wD P t v)
 | .nilCheck x=> .Pw (jg x)
 | .fieldAddr t a f=> .Px (aja P t f) (jg a)
 | .field t a f=> .eM (Sp P (Yy P t f)) (aja P t f) (jg a)
 | .indexAddr t a j=>match P.underlying t with
  |some (.slice e)=> .Py (V4 P e) (wD P t a) (jg j)
  |some (.array m e)=> .HI m (V4 P e) (jg a) (jg j)
  |_=> .bad
 | .index t a j=>match P.underlying t with
  |some (.array m e)=> .idx m (V4 P e) (Sp P e) (wD P t a) (jg j)
  |some .string=> .Pz (jg a) (jg j)
  |_=> .bad
 | .slice t a b c d=>match P.underlying t with
  |some (.slice e)=> .Vu (V4 P e) (wD P t a) (b.map jg) (c.map jg) (d.map jg)
  |_=> .bad
 | .makeSlice t a b=> .mks (V4 P (D3 P t)) (y6 P 9 (D3 P t)) (jg a) (jg b)
 | .makeFunc (.func g) c d=> .mkf g (c.toList.map jg) (d.toList.map jg)
 | .makeMap t _=> .mkm (bif tb then (match P.underlying t with
  |some (.map _ e)=>adh (aei P e)
  |_=>adU) else adU)
 | .extract a j=> .ext j (jg a)
 | .lookup t a b ok=>match P.underlying t with
  |some (.map k e)=> .lookup (Sp P k) (aei P e) ok (jg a) (wD P k b)
  |_=> .bad
 | .mapUpdate t a b c| .insert t a b c=>match P.underlying t with
  |some (.map k e)=> .Nt (Sp P k) (jg a) (wD P k b) (wD P e c)
  |_=> .bad
 | .call c=>match c.callee with
  | .builtin b=>Yz P b c.args.toList c.argTypes.toList
  | .value (.func f)=> .call (md f) f (Yw P c.argTypes.toList c.args.toList)
  | .value x=> .Bz (jg x) (Yw P c.argTypes.toList c.args.toList)
  |_=> .bad
 |_=> .bad
def ajb (tb:Bool) (md:FuncId->CM) (ops:Array Oper) (o:Oper):ck:=
 ⟨o.dst,cOp P tb md o.type o.op,match o.guard with
  |some (i,b)=>match ops[i]? with
   |some q=>match q.dst with
    |some d=>adh (d,b)
    |none=>adU
   |none=>adU
  |none=>adU⟩
def YA:List Nat->List Oper->List Nat
 |acc,[]=>acc
 |acc,o::os=>YA (acc++[(qY acc (adc acc) o.after.toList).getD 0]) os
def bitsOf:Nat->Nat->Nat->List Nat
 |0,_,_=>[]
 |n+1,i,m=>bif EQ m 0 then [] else bif EQ (Nat.mod m 2) 1 then i::bitsOf n (i+1) (Nat.div m 2) else bitsOf n (i+1) (Nat.div m 2)
def YB (l:List (Nat×Nat)) (x:Nat):Nat×Option Nat:=match l with
 | []=>(x,adU)
 |(t,k)::r=>bif EQ t x then (x,adh k) else YB r x
def YC {α:Type} (n:Nat):List (Nat×List α)->List α
 | []=>[]
 |(m,l)::r=>bif EQ m n then l else YC n r
def hd (l:List Nat):Nat:=match l with
 |x::_=>x
 | []=>0
structure CSt where
 ks:List Nat
 n:Nat
def JO (H:Hint):Code->CSt->lY×CSt
 | .region _ ops dr,s=>(.region (match dr with|true=>adh (YA [] ops.toList)|false=>adU) (ops.toList.map (ajb P H.tb H.md ops)) (bitsOf 1000 0 (hd s.ks)),⟨s.ks.tail,s.n⟩)
 | .seq a b,s=>match JO H a s with
  |(x,s1)=>match JO H b s1 with
   |(y,s2)=>(.seq x y,s2)
 | .cond c a b,s=>match JO H a s with
  |(x,s1)=>match JO H b s1 with
   |(y,s2)=>(.cond (jg c) x y,s2)
 | .block id b,s=>match JO H b s with
  |(x,s1)=>(.block id x,s1)
 | .loop b,s=>match JO H b ⟨s.ks.tail,s.n+1⟩ with
  |(x,s1)=>(.loop ((bitsOf 1000 0 (hd s.ks)).map (YB (YC s.n H.an8))++YC s.n H.more) x,s1)
 | .exit id,s=>(.exit id,s)
 | .ret,s=>(.ret,s)
 |_,s=>(.skip,s)
def an':ResultVar->RV
 | .tmp t=> .tmp t
 | .cell t ty=> .cell t (Sp P ty)
def abS (fn:Func) (H:Hint):ax:=
 ⟨fn.params.size+fn.nfree,match fn.body with
  |some c=>(JO P H c ⟨H.gS,0⟩).1
  |none=> .skip,fn.results.toList.map (an' P)⟩
def aoa (ow sh fp:List Nat) (f:FuncId):CM:=bif has ow f then .own else bif has sh f then .shr else bif has fp f then .fp else .pur
end
end Go.Vm
/- A law's row from what the logical machine answers: the result is adV, nothing that was there has turned. -/
namespace Go.Vm
open Go.ChangeShapes Go.WideShapes Go.ChangeAt Go.RowKit
section
variable {H : Type} {enc : TypeId × Value -> H} {P : Program}
theorem D4 (hl:laidOutB P=adV) {W W':World} (hb:Below W.heap.size W W'): ∀{ts:List TypeId} {vs:List Value} {ds:List (DataW H)} {ps:List MemPlace},(∀t∈ts,P.readableRec t=adV/\t<P.types.size)->
 DataW.TrodAll enc P W 0 (fun _=>adV) adV ts vs ds ps->(∀x∈ps,x.block<W.heap.size)->DataW.TrodAll enc P W' 0 (fun b=>decide (b<W.heap.size)) adV ts vs ds ps
 | [],vs,ds,ps,_,h,_=>by obtain ⟨rfl,rfl,rfl⟩:=trodAll_nil h;rfl
 |t::ts,vs,ds,ps,ht,h,iz=>by obtain ⟨v,RU,d,EB,p,q,rfl,rfl,rfl,h1,h2⟩:=trodAll_cons h;obtain ⟨h3,h4⟩:=ht t (by simp);exact trodAll_cons_mk (Below.trod hl h3 h4 h1 hb fun x hx=>iz x (by simp [hx])) (D4 hl hb (fun t' Yn=>ht t' (by simp [Yn])) h2 fun x hx=>iz x (by simp [hx]))
theorem YD (hl:laidOutB P=adV) {f:Func} {s:ChangeSpec} {W W':World} {args:Array Value} {ds:List (DataW H)} {before:List MemPlace} {bt:TypeId} (ajc:s.vars=[]) (FC:f.resultTypes= #[bt]) (hbt:P.underlying bt=adh .bool)
 (hp: ∀t∈f.params.toList,P.readableRec t=adV/\t<P.types.size) (hW:DataW.Whole enc P f.params.toList s.vars adW W args.toList ds [] before)
 (hfn:s.fn H (ds++[])={results:=[.lit (.bool adV)],args:=ds}) (hb:Below W.heap.size W W'):s.post enc P f adW adV adW adW W args (.bool adV) W':=by
 have hW':=hW;obtain ⟨p,q,hA,hV,rfl,XT,LH⟩:=hW;have iz:=fun x hx=>by simpa using hW'.lt x hx
 refine ⟨ds,[],p++q,[],p,[],hW',?_,?_,?_,hb.frame _,fun h=>by cases h⟩
 · rw [hfn,FC]
   exact trodAll_mk1 (shut_bool hbt adV)
 · grind [D4]
 rw [hfn,ajc]
 rfl
end
def LR (w:World):Im:=fun b=>w.heap[b]?
theorem V5 {w:World} {b o:Nat} {v:Value} (h:w.cell? ⟨b,o,adU⟩=adh v):tO (LR w) b o=adh v:=by
 assumption
theorem V6 {P:Program} {F:p8} {prims:FuncId->Bool} (hT:Qa P prims F) (Ft:Df P F) (vp:P.follows .mixedOrders=adV) {f:FuncId} {args:List PV} {s:cU} {z:List Nat} {n:Nat} {us:List Value} {w:World}
 (h:run F n (.func f args [] [])=adh (.func (.bool adV) s z)) (Dd:fW (LR w) iI args us):Calls P f ⟨us⟩ w fun e w'=>e= .returned (.bool adV)/\Below w.heap.size w w':=by
 refine (VY hT Ft vp h (fun b o h=>h) Dd).mono fun e w' ⟨u,he,⟨fA,bz,tM,_⟩,h1,h2,h3,h4,h5⟩=>?_
 obtain rfl:=tM.mE;exact ⟨he,⟨h1,h2.eq,h3,h4,h5⟩⟩
end Go.Vm
/- Regions of one order, step by step, for contracts. -/
namespace Go.Vm
def G1:oC->Bool
 | .call .. | .Bz .. =>adV
 |_=>adW
variable {F : p8}
def WS (F:p8) (ops:List ck) (st:St) (Q:St->Prop):Prop:= ∀tr,WO F ops st tr (fun s _=>Q s)
def N4 (st:St) (o:ck):Option St:=
 match wanted o.guard st.env with
 |some adV=>match bO st.env st.aA st.fz o.op with
  |some x=>if (XR.loc x).ok st.fz then adh ((XR.loc x).next o.dst st) else adU
  |none=>adU
 |some adW=>adh {st with env:=kY o.dst .na st.env}
 |none=>adU
theorem N5 {rec:Task->Option Out} {e:Env} {aA:cU} {fz:List Nat} {op:oC} (h:G1 op=adW):
 BB F rec e aA fz op=(bO e aA fz op).map .loc:=by
 cases op<;>first|rfl|cases h
theorem WS.nil {st:St} {Q:St->Prop} (h:Q st):WS F [] st Q:=fun _=>WO.nil h
theorem WS.cons {o:ck} {r:List ck} {st od:St} {Q:St->Prop} (h:G1 o.op=adW) (hs:N4 st o=adh od) (k:WS F r od Q):WS F (o::r) st Q:=by
 intro tr;unfold N4 at hs;split at hs
 · rename_i hw
   split at hs
   · rename_i x hx
     split at hs
     · rename_i Av
       injection hs with hs;subst hs;exact WO.op x hw (fun rec=>by rw [N5 h,hx];rfl) Av (k _)
     cases hs
   cases hs
 · rename_i hw
   injection hs with hs;subst hs;exact WO.skip hw (k _)
 cases hs
theorem WS.one {o:ck} {r:List ck} {st:St} {Q:St->Prop} (x:tz) (hc:G1 o.op=adW) (hw:wanted o.guard st.env=adh adV) (hx:bO st.env st.aA st.fz o.op=adh x) (Av:(XR.loc x).ok st.fz=adV)
 (k:WS F r ((XR.loc x).next o.dst st) Q):WS F (o::r) st Q:=fun tr=>
 WO.op x hw (fun rec=>by rw [N5 hc,hx];rfl) Av (k _)
def IZ:List ck->St->Option St
 | [],st=>adh st
 |o::r,st=>match G1 o.op with
  |true=>adU
  |false=>match N4 st o with
   |some od=>IZ r od
   |none=>adU
theorem WS.all: ∀{ops:List ck} {st od:St} {Q:St->Prop},IZ ops st=adh od->Q od->WS F ops st Q
 | [],st,od,Q,h,hq=>by simp [IZ,UV] at h;subst h;exact WS.nil hq
 |o::r,st,od,Q,h,hq=>by
  simp [IZ] at h;cases hc:G1 o.op with
  |true=>grind
  |false=>
   rw [hc] at h;cases hs:N4 st o with
   |none=>grind
   |some s1=>rw [hs] at h;exact WS.cons hc hs (WS.all h hq)
theorem WS.pure {d:Option Nat} {g:Option (Nat×Bool)} {f:FuncId} {as:List gR} {r:List ck} {st:St} {Q:St->Prop}
 {args:List PV} {v:PV} (h:Pure F f args v) (hw:wanted g st.env=adh adV) (ha:GH st.aA (B0 st.aA deep) (Lz st.env as)=adh args)
 (k:WS F r {st with env:=kY d v st.env} Q):WS F (⟨d,.call .pur f as,g⟩::r) st Q:=fun tr=>by
 refine WO.pure h hw ha ?_;have:=k (XR.tr (adc st.aA) (.loc {v,rd:=eJ (fS st.aA deep) (Lz st.env as)})::tr)
 assumption
theorem WS.shr {d:Option Nat} {g:Option (Nat×Bool)} {f:FuncId} {as:List gR} {r:List ck} {st:St} {Q:St->Prop}
 (hw:wanted g st.env=adh adV) (h:Er F f (Lz st.env as) st.aA st.fz fun v s z=>(aba (adc st.aA) (adc s)&&st.fz.all (has z))=adV/\WS F r {st with env:=kY d v st.env,aA:=s,fz:=z} Q):
 WS F (⟨d,.call .shr f as,g⟩::r) st Q:=fun tr=>by
 obtain ⟨n,v,s,z,hr,hc,hk⟩:=h;refine WO.call (.shr v s z) hw ⟨n,?_⟩ rfl (hk _);simp only [BB,iB,hr];rw [AC hc]
end Go.Vm
/- Plain terms for what a function computes: loops, elements of lists, numbers; and the machine's loop over a plain one. -/
namespace Go.Vm
inductive Step (σ ρ:Type) where
 |next (s:σ)
 |done (r:ρ)
section
variable {σ ρ : Type}
def si (body:σ->Option (Step σ ρ)):Nat->σ->Option ρ
 |0,_=>adU
 |n+1,x=>match body x with
  |some (.next y)=>si body n y
  |some (.done r)=>adh r
  |none=>adU
open Classical in
noncomputable def Sq (body:σ->Option (Step σ ρ)) (x:σ):Option ρ:=
 if h: ∃n r,si body n x=adh r then si body h.choose x else adU
theorem EC {body:σ->Option (Step σ ρ)}: ∀{n:Nat} {x:σ} {r:ρ},si body n x=adh r-> ∀k,si body (n+k) x=adh r
 |0,x,r,h,_=>by cases h
 |n+1,x,r,h,k=>by
  rw [show n+1+k=(n+k)+1 by omega];simp [si] at h ⊢;split at h
  · exact EC h k
  · exact h
  cases h
theorem V7 {body:σ->Option (Step σ ρ)} {n m:Nat} {x:σ} {r s:ρ} (h:si body n x=adh r) (k:si body m x=adh s):r=s:=by
 have h1:=EC h m;have h2:=EC k n
 grind
theorem HT {body:σ->Option (Step σ ρ)} {x:σ} {r:ρ}:Sq body x=adh r↔ ∃n,si body n x=adh r:=by
 unfold Sq;constructor
 · intro h
   split at h
   · exact ⟨_,h⟩
   cases h
 rintro ⟨n,hn⟩
 have hex: ∃n r,si body n x=adh r:=⟨n,r,hn⟩
 grind [V7]
end
noncomputable def Uq {σ ρ:Type} (b:Option Nat) (body:σ->Option (Step σ ρ)) (x:σ):Option ρ:=
 match b with
 |none=>Sq body x
 |some N=>si body N x
theorem Qg {σ ρ:Type} {b:Option Nat} {body:σ->Option (Step σ ρ)} {x:σ} {r:ρ} (h:Uq b body x=adh r): ∃n,si body n x=adh r:=by
 cases b with
 |none=>exact HT.1 h
 |some N=>exact ⟨_,h⟩
class LP where
 w:Option Nat
abbrev LP.of (n:Nat):LP:=⟨adh n⟩
noncomputable def aq [LP] {σ ρ:Type} (body:σ->Option (Step σ ρ)) (x:σ):Option ρ:=Uq LP.w body x
def oI [LP]:Option Nat:=LP.w
theorem ajd {α β:Type} {x:Option α} {f:α->Option β} {r:β} (h:x.bind f=adh r): ∃a,x=adh a/\f a=adh r:=by
 cases x with
 |none=>cases h
 |some a=>grind
def aem {α ρ:Type} (x:Option α) (f:α->Option ρ):Option ρ:=x.bind f
def aen {ρ:Type} (c:Bool) (a b:Option ρ):Option ρ:=cond c a b
theorem Sr {α ρ:Type} {x:Option α} {f:α->Option ρ} {y:ρ} (h:aem x f=adh y): ∃a,x=adh a/\f a=adh y:=ajd h
theorem Ss {ρ:Type} {c:Bool} {a b:Option ρ} {y:ρ} (h:aen c a b=adh y):(c=adV/\a=adh y)\/(c=adW/\b=adh y):=by
 cases c
 · exact .inr ⟨rfl,h⟩
 exact .inl ⟨rfl,h⟩
def aD {α:Type} (l:List α) (i:Int):Option α:=
 match i with
 | .ofNat n=>l[n]?
 | .negSucc _=>adU
def cA {α:Type} (l:List α) (i:Int) (a:α):List α:=l.set i.toNat a
theorem q8 {α:Type} {l:List α} {i:Int} {a:α} (h:aD l i=adh a): ∃n:Nat,i=ad2 n/\l[n]? =adh a:=by
 unfold aD at h;split at h
 · grind
 cases h
@[simp] theorem FF {α:Type} (l:List α) (i:Int) (a:α):(cA l i a).length=(adc l):=by simp [cA]
def aX {α:Type} (l:List α) (m:List α):Option (List α):=if (adc l)+adc m<=1048576 then adh (l++m) else adU
def qd {α:Type} (n:Int) (z:α):Option (List α):=if 0<=n/\n<=1048576 then adh (abl n.toNat z) else adU
def gW {α:Type} (l:List α) (lo hi:Int):Option (List α):=if 0<=lo/\lo<=hi/\hi<=(adc l) then adh ((l.drop lo.toNat).take (hi.toNat-lo.toNat)) else adU
def cw {α:Type} (l:List α):Option (List α):=if (adc l)<=1048576 then adh l else adU
def V8 {α:Type} (l m:List α):Option (List α):=if 1<=adc l+adc m/\adc l+adc m<=1048576 then adh (l++m) else adU
def Dk {α:Type} (l:List α) (i:Int) (m:List α):Option (List α):=if 0<=i/\i.toNat<=adc l/\adc m=1/\adc l+1<=1048576 then adh (l.take i.toNat++m++l.drop i.toNat) else adU
def HU {α:Type} (f:List α->Option (List α)) (l:List α):Option (List α):=
 if (adc l)<=1048576 then (match f l with
 |some m=>if (adc m)=(adc l) then adh m else adU
 |none=>adU) else adU
def Dl {α:Type} (f:List α->Option (List α)) (n:Nat) (l:List α):Option (List α):=if n<=(adc l) then (HU f (l.take n)).map (· ++l.drop n) else adU
def Su (a:Int):List Int->List Int
 | []=>[a]
 |b::r=>bif adX (a<=b) then a::b::r else b::Su a r
def q9:List Int->List Int
 | []=>[]
 |a::r=>Su a (q9 r)
def N6 (l:List Int):Option (List Int):=adh (q9 l)
def rT (k:IntKind) (a b:Int):Int:=k.wrap (BitVec.ofInt k.bits a&&&BitVec.ofInt k.bits b).toNat
def bOr (k:IntKind) (a b:Int):Int:=k.wrap (BitVec.ofInt k.bits a|||BitVec.ofInt k.bits b).toNat
def aob (k:IntKind) (a b:Int):Int:=k.wrap (BitVec.ofInt k.bits a^^^BitVec.ofInt k.bits b).toNat
def abT (k:IntKind) (a b:Int):Int:=k.wrap (BitVec.ofInt k.bits a&&& ~~~ BitVec.ofInt k.bits b).toNat
def aoc (k:IntKind) (a b:Int):Int:=k.wrap (a*2^(min b.toNat k.bits))
def kr (k:IntKind) (a b:Int):Int:=a.fdiv (2^(min b.toNat k.bits))
def aeo (s:ByteArray) (i:Int):Option Int:=
 match i with
 | .ofNat n=>s[n]?.map fun b=>(b.toNat:Int)
 | .negSucc _=>adU
def IF (l:List (List Int)) (k:List Int):Bool:=l.any fun m=>k==m
def V9 (l:List (List Int)) (k:List Int):List (List Int):=bif IF l k then l else l++[k]
def sj (a:List Int) (l:List (List Int)):Bool:=l.all fun b=>EQ (adc b) (adc a)
def Qh (l:List (List Int)) (k:List Int):Option Bool:=bif sj k l then adh (IF l k) else adU
def Qi (l:List (List Int)) (k:List Int):Option (List (List Int)):=bif sj k l then adh (V9 l k) else adU
def jR {α:Type} (z:α):List (Int×α)->Int->α
 | [],_=>z
 |p::r,k=>bif k==p.1 then p.2 else jR z r k
def mf {α:Type}:List (Int×α)->Int->α->List (Int×α)
 | [],k,a=>[(k,a)]
 |p::r,k,a=>bif k==p.1 then (k,a)::r else p::mf r k a
section
variable {F : p8}
end
end Go.Vm
/- A logical machine over typed values: it turns a function's code into a plain term. What it computes is tied to the logical machine in SvRun. -/
namespace Go.Vm
inductive PT where
 |i (k:IntKind)
 |b
@[reducible] def PT.T : PT -> Type
  | .i _ => Int
  | .b => Bool
@[reducible] def RT : List PT -> Type
  | [] => Unit
  | [p] => p.T
  | p :: q :: r => p.T × RT (q :: r)
inductive SV where
 |jM
 |undef
 |na
 |eW
 |int (k:IntKind) (n:Int)
 |bool (b:Bool)
 |str (s:ByteArray)
 |agg (cs:List SV)
 |cV (cs:List SV)
 |sl (r:List PT) (l:List (RT r))
 |nil (e:Nat) (c:Bool)
 |own (t:Nat) (ex:Bool)
 |pre (t len cap:Nat) (ex:Bool)
 |part (t off len cap:Nat) (ex:Bool)
 |pa (t:Nat) (r:List PT) (i:Int) (a:RT r) (off:Nat)
 |pb (t:Nat) (i:Int) (off:Nat)
 |bp (t n off:Nat)
 |bR (cs:List SV) (off:Nat)
 |fx (f:FuncId) (a b:List SV)
 |mp (t:Nat)
inductive SB where
 |arr (r:List PT) (l:List (RT r))
 |box (cs:List SV)
 |set (l:List (List Int))
 |nB (p:PT) (l:List (RT [.i .i64,p]))
 |dead
abbrev SE:=List (Nat×SV)
structure tT where
 env:SE
 aA:List SB
 fz:List Nat
 kn:Nat
structure Rows where
 r:List PT
 l:List (RT r)
def PT.same:PT->PT->Bool
 | .i k,.i l=>gM k l
 | .b,.b=>adV
 |_,_=>adW
def FG:List PT->List PT->Bool
 | [],[]=>adV
 |p::r,q::s=>p.same q&&FG r s
 |_,_=>adW
theorem PT.abU: ∀{p q:PT},p.same q=adV->p=q
 | .i k,.i l,h=>by rw [gx.1 h]
 | .b,.b,_=>rfl
 | .i _,.b,h=>by cases h
 | .b,.i _,h=>by cases h
theorem Ck: ∀{r s:List PT},FG r s=adV->r=s
 | [],[],_=>rfl
 |p::r,q::s,h=>by simp [FG,IR] at h;rw [PT.abU h.1,Ck h.2]
 | [],_::_,h=>by cases h
 |_::_,[],h=>by cases h
def xo (r q:List PT) (l:List (RT r)):Option (List (RT q)):=if h:FG r q=adV then adh (Ck h▸l) else adU
def PT.pv:(p:PT)->p.T->PV
 | .i k,n=> .int k n
 | .b,x=> .bool x
def RT.pv:(r:List PT)->RT r->List PV
 | [],_=>[]
 | [p],a=>[p.pv a]
 |p::q::r,a=>p.pv a.1::RT.pv (q::r) a.2
def PT.sv:(p:PT)->p.T->SV
 | .i k,n=> .int k n
 | .b,x=> .bool x
def RT.sv:(r:List PT)->RT r->List SV
 | [],_=>[]
 | [p],a=>[p.sv a]
 |p::q::r,a=>p.sv a.1::RT.sv (q::r) a.2
def PT.of:(p:PT)->SV->Option p.T
 | .i k,.int l n=>bif gM l k then adh n else adU
 | .b,.bool x=>adh x
 |_,_=>adU
def RT.of:(r:List PT)->List SV->Option (RT r)
 | [],[]=>adh ()
 | [p],[v]=>p.of v
 |p::q::r,v::vs=>match p.of v,RT.of (q::r) vs with
  |some a,adh b=>adh (a,b)
  |_,_=>adU
 |_,_=>adU
def PT.zero:(p:PT)->p.T
 | .i _=>(0:Int)
 | .b=>adW
def RT.zero:(r:List PT)->RT r
 | []=>()
 | [p]=>p.zero
 |p::q::r=>(p.zero,RT.zero (q::r))
def bm:PV->Option PT
 | .int k n=>match n with
  | .ofNat 0=>adh (.i k)
  |_=>adU
 | .bool b=>match b with
  |false=>adh .b
  |true=>adU
 |_=>adU
def JP:List PV->Option (List PT)
 | []=>adh []
 |v::vs=>match bm v,JP vs with
  |some p,adh r=>adh (p::r)
  |_,_=>adU
def nth {α:Type}:List α->Nat->Option α
 | [],_=>adU
 |x::_,0=>adh x
 |_::r,n+1=>nth r n
theorem cJ {α:Type}: ∀(l:List α) (n:Nat),nth l n=l[n]?
 | [],n=>by simp [nth]
 |x::r,0=>by simp [nth]
 |x::r,n+1=>by simp [nth,cJ r n]
def HV (t:Nat):SE->SV
 | []=> .undef
 |(s,v)::r=>bif EQ s t then v else HV t r
def ED (t:Nat) (v:SV):SE->SE
 | []=>[]
 |(s,x)::r=>bif EQ s t then (s,v)::r else (s,x)::ED t v r
mutual
def abV:PV->SV
 | .undef=> .undef
 | .na=> .na
 | .eW=> .eW
 | .int k n=> .int k n
 | .bool b=> .bool b
 | .str s=> .str s
 | .agg cs=> .agg (FH cs)
 | .cV cs=> .cV (FH cs)
 | .sl e c rows=>match rows with
  | []=> .nil e c
  |_=> .jM
 | .fx f a b=> .fx f (FH a) (FH b)
 |_=> .jM
def FH:List PV->List SV
 | []=>[]
 |x::xs=>abV x::FH xs
end
def cq (e:SE):gR->SV
 | .t n=>HV n e
 | .c v=>abV v
def mH (e:SE):List gR->List SV
 | []=>[]
 |x::xs=>cq e x::mH e xs
def SV.wa:SV->Bool
 | .jM| .undef| .na| .agg _| .cV _=>adW
 |_=>adV
def Cl:List SV->Bool
 | []=>adV
 |x::xs=>x.wa&&Cl xs
def SV.cells:SV->List SV
 | .agg cs=>cs
 |v=>[v]
def SV.stored (v:SV):Option (List SV):=bif Cl v.cells then adh v.cells else adU
def D5 (agg:Option Nat) (off:Nat) (cs:List SV):Option SV:=
 match agg with
 |some s=>bif aba (off+s) (adc cs) then adh (.agg ((cs.drop off).take s)) else adU
 |none=>nth cs off
def wE (off:Nat) (new old:List SV):List SV:=old.take off++new++old.drop (off+adc new)
def D6 (s:List SB):SV->Option Rows
 | .sl r l=>adh ⟨r,l⟩
 | .own t _=>match nth s t with
  |some (.arr r l)=>adh ⟨r,l⟩
  |_=>adU
 | .pre t len _ _=>match nth s t with
  |some (.arr r l)=>adh ⟨r,l.take len⟩
  |_=>adU
 | .part t off len _ _=>match nth s t with
  |some (.arr r l)=>adh ⟨r,(l.drop off).take len⟩
  |_=>adU
 |_=>adU
def IG:SV->List Nat
 | .own t _=>[t]
 | .pre t _ _ _=>[t]
 | .part t _ _ _ _=>[t]
 |_=>[]
structure iC where
 v:SV
 news:List SB:=[]
 wr:List (Nat×SB):=[]
 rd:List Nat:=[]
 fr:List Nat:=[]
def jc (R:Type):= ∀ρ:Type,(R->ρ)->Option ρ
section
variable {R : Type}
def HW (b:R):jc R:=fun _ w=>adh (w b)
def aR:jc R:=fun _ _=>adU
def ox {α:Type} (x:Option α) (f:α->jc R):jc R:=fun ρ w=>aem x fun a=>f a ρ w
def jh (c:Bool) (a b:jc R):jc R:=fun ρ w=>aen c (a ρ w) (b ρ w)
def abW (v:SV) (k:SV->jc R):jc R:=
 match v with
 | .jM=>k .jM
 | .undef=>k .undef
 | .na=>k .na
 | .eW=>k .eW
 | .int a b=>k (.int a b)
 | .bool a=>k (.bool a)
 | .str a=>k (.str a)
 | .agg a=>k (.agg a)
 | .cV a=>k (.cV a)
 | .sl a b=>k (.sl a b)
 | .nil a b=>k (.nil a b)
 | .own a b=>k (.own a b)
 | .pre a b c d=>k (.pre a b c d)
 | .part a b c d x=>k (.part a b c d x)
 | .pa a b c d e=>k (.pa a b c d e)
 | .pb a b c=>k (.pb a b c)
 | .bp a b c=>k (.bp a b c)
 | .bR a b=>k (.bR a b)
 | .fx a b c=>k (.fx a b c)
 | .mp a=>k (.mp a)
theorem N7 (v:SV) (k:SV->jc R):abW v k=k v:=by cases v<;>rfl
def Sv (op:BinOp) (k:IntKind) (a b:Int) (c:SV->jc R):jc R:=
 match op with
 | .add=>c (.int k (aa k (a+b)))
 | .sub=>c (.int k (aa k (a-b)))
 | .mul=>c (.int k (aa k (a*b)))
 | .quo=>jh (b==0) aR (c (.int k (aa k (Int.tdiv a b))))
 | .rem=>jh (b==0) aR (c (.int k (Int.tmod a b)))
 | .and=>c (.int k (rT k a b))
 | .or=>c (.int k (bOr k a b))
 | .xor=>c (.int k (aob k a b))
 | .andNot=>c (.int k (abT k a b))
 | .eql=>c (.bool (a==b))
 | .neq=>c (.bool (a !=b))
 | .lss=>c (.bool (adX (a<b)))
 | .leq=>c (.bool (adX (a<=b)))
 | .gtr=>c (.bool (adX (b<a)))
 | .geq=>c (.bool (adX (b<=a)))
 | .shl| .shr=>aR
def eqS:List SV->List SV->Option Bool
 | [],[]=>adh adV
 |x::xs,y::ys=>match x,y with
  | .int k a,.int l b=>bif gM k l then (match xs with
   | []=>(match ys with| []=>adh (a==b)|_=>adU)
   |_::_=>match eqS xs ys with
    |some r=>adh (a==b&&r)
    |none=>adU) else adU
  |_,_=>adU
 |_,_=>adU
def AF:List (Nat×Nat×SV)->List SV->Option (List SV)
 | [],cs=>adh cs
 |(off,sz,v)::r,cs=>match v.stored with
  |some w=>bif EQ (adc w) sz&&aba (off+sz) (adc cs) then AF r (wE off w cs) else adU
  |none=>adU
def Cm (e:SE):List (Nat×Nat×gR)->List (Nat×Nat×SV)
 | []=>[]
 |p::r=>(p.1,p.2.1,cq e p.2.2)::Cm e r
def Ur (r:List PT) (e:SE) (n:Nat):List (Nat×gR)->Option (List (Nat×RT r))
 | []=>adh []
 |p::ps=>match RT.of r (cq e p.2).cells,Ur r e n ps with
  |some a,adh l=>bif abm p.1 n then adh ((p.1,a)::l) else adU
  |_,_=>adU
def rowAt {α:Type} (i:Nat):α->List (Nat×α)->α
 |z,[]=>z
 |z,(j,a)::r=>rowAt i (bif EQ j i then a else z) r
def Qj {α:Type} (f:Nat->α):Nat->Nat->List α
 |_,0=>[]
 |i,n+1=>f i::Qj f (i+1) n
def G2 (e:SE) (d:Int):Option gR->Option Int
 |none=>adh d
 |some x=>match cq e x with
  | .int _ n=>adh n
  |_=>adU
def mmS (rV:Bool) (k:IntKind):Int->List SV->Option SV
 |a,[]=>adh (.int k a)
 |a,x::r=>match x with
  | .int l b=>bif gM k l then mmS rV k (bif rV then (if b>a then b else a) else (if b<a then b else a)) r else adU
  |_=>adU
def Us:List SV->Option (List Int)
 | []=>adh []
 |x::xs=>match x,Us xs with
  | .int .i64 n,adh l=>adh (n::l)
  |_,_=>adU
def abX (n:Option Nat) (v:SV):Option (List Int):=
 match n,v with
 |none,.int .i64 a=>adh [a]
 |some n,.agg cs=>bif EQ (adc cs) n&&!Nat.beq n 1 then Us cs else adU
 |_,_=>adU
def JQ (n:Nat) (i:Int) (j:Nat) (f:Nat->jc R):jc R:=
 match n with
 |0=>aR
 |n+1=>jh (i==ad2 j) (f j) (JQ n i (j+1) f)
def oJ {α:Type} (x:Option α) (k:α->jc R):jc R:=
 match x with
 |some a=>k a
 |none=>aR
def ofV (k:iC->jc R) (v:SV):jc R:=k {v}
def aep (s:List SB) (aO:Nat) (x:SV) (i:Int) (k:iC->jc R):jc R:=
 match x with
 | .sl r l=>bif EQ (adc r) aO then ox (aD l i) fun a=>k {v:= .bR (RT.sv r a) 0} else aR
 | .own t _=>match nth s t with
  |some (.arr r l)=>bif EQ (adc r) aO then ox (aD l i) fun a=>k {v:= .pa t r i a 0} else aR
  |_=>aR
 | .pre t len _ _=>match nth s t with
  |some (.arr r l)=>bif EQ (adc r) aO then ox (aD (l.take len) i) fun a=>k {v:= .pa t r i a 0} else aR
  |_=>aR
 | .part t off len _ _=>match nth s t with
  |some (.arr r l)=>bif EQ (adc r) aO then ox (aD ((l.drop off).take len) i) fun a=>k {v:= .pa t r (.ofNat (off+i.toNat)) a 0} else aR
  |_=>aR
 |_=>aR
def aeq (s:List SB) (agg:Option Nat) (p:SV) (k:iC->jc R):jc R:=
 match p with
 | .bp t _ off=>match nth s t with
  |some (.box cs)=>oJ (D5 agg off cs) fun v=>k {v,rd:=[t]}
  |_=>aR
 | .pa t r _ a off=>match nth s t with
  |some (.arr _ _)=>oJ (D5 agg off (RT.sv r a)) fun v=>k {v,rd:=[t]}
  |_=>aR
 | .pb t i off=>match nth s t with
  |some (.arr r l)=>ox (aD l i) fun a=>oJ (D5 agg off (RT.sv r a)) fun v=>k {v,rd:=[t]}
  |_=>aR
 | .bR cs off=>oJ (D5 agg off cs) fun v=>k {v}
 |_=>aR
def YE (s:List SB) (z:List Nat) (sz:Nat) (p v:SV) (k:iC->jc R):jc R:=
 match p with
 | .bp t _ off=>match nth s t with
  |some (.box cs)=>oJ v.stored fun w=>bif EQ (adc w) sz&&aba (off+sz) (adc cs)&&!has z t then k {v:= .undef,wr:=[(t,.box (wE off w cs))]} else aR
  |_=>aR
 | .pa t r i a off=>match nth s t with
  |some (.arr q l)=>bif EQ (adc v.cells) sz&&aba (off+sz) (adc r)&&!has z t then
   oJ (RT.of q (wE off v.cells (RT.sv r a))) fun b=>k {v:= .undef,wr:=[(t,.arr q (cA l i b))]} else aR
  |_=>aR
 | .pb t i off=>match nth s t with
  |some (.arr q l)=>bif EQ (adc v.cells) sz&&aba (off+sz) (adc q)&&!has z t then
   (bif EQ sz (adc q) then oJ (RT.of q v.cells) fun b=>k {v:= .undef,wr:=[(t,.arr q (cA l i b))]}
   else ox (aD l i) fun a=>oJ (RT.of q (wE off v.cells (RT.sv q a))) fun b=>k {v:= .undef,wr:=[(t,.arr q (cA l i b))]}) else aR
  |_=>aR
 |_=>aR
def V' (e:SE) (t off len cap:Nat) (ex:Bool) (lo hi mx:Option gR) (k:iC->jc R):jc R:=
 oJ (G2 e 0 lo) fun a=>oJ (G2 e (.ofNat len) hi) fun b=>match mx with
  |none=>jh (adX (0<=a)&&adX (a<=b)&&adX (b<= .ofNat cap)) (k {v:= .part t (off+a.toNat) (b.toNat-a.toNat) (cap-a.toNat) ex}) aR
  |some m=>match cq e m with
   | .int _ c=>jh (adX (0<=a)&&adX (a<=b)&&adX (b<=c)&&adX (c<= .ofNat cap)) (k {v:= .part t (off+a.toNat) (b.toNat-a.toNat) (c.toNat-a.toNat) adV}) aR
   |_=>aR
def aje (e:SE) (s:List SB) (aO:Nat) (x:SV) (lo hi mx:Option gR) (k:iC->jc R):jc R:=
 match x with
 | .sl r l=>match mx with
  |none=>bif EQ (adc r) aO then oJ (G2 e 0 lo) fun a=>oJ (G2 e (ad2 (adc l)) hi) fun b=>ox (gW l a b) fun m=>k {v:= .sl r m} else aR
  |some _=>aR
 | .own t ex=>match nth s t with
  |some (.arr r l)=>bif EQ (adc r) aO then (match lo,hi,mx with
   |none,adU,adU=>k {v:= .own t ex}
   |none,adh h,adU=>match cq e h with
    | .int _ b=>ox (gW l 0 b) fun _=>k {v:= .pre t b.toNat (adc l) ex}
    |_=>aR
   |lo,hi,mx=>V' e t 0 (adc l) (adc l) ex lo hi mx k) else aR
  |_=>aR
 | .pre t len cap ex=>match nth s t with
  |some (.arr r _)=>bif EQ (adc r) aO then (match lo,hi,mx with
   |none,adU,adU=>jh (aba len cap) (k {v:= .pre t len cap ex}) aR
   |none,adh h,adU=>match cq e h with
    | .int _ b=>jh (adX (0<=b)&&adX (b<= .ofNat cap)) (k {v:= .pre t b.toNat cap ex}) aR
    |_=>aR
   |lo,hi,mx=>V' e t 0 len cap ex lo hi mx k) else aR
  |_=>aR
 | .part t off len cap ex=>match nth s t with
  |some (.arr r _)=>bif EQ (adc r) aO then V' e t off len cap ex lo hi mx k else aR
  |_=>aR
 |_=>aR
def gy {α:Type} (l:List α) (n:Nat) (m:List α):List α:=l.take n++m++l.drop (n+adc m)
def SV.afG:SV->Bool
 | .part .. =>adV
 |_=>adW
def Ut (s:List SB) (z:List Nat) (aO:Nat) (x y:SV) (k:iC->jc R):jc R:=
 match D6 s y with
 |none=>aR
 |some ⟨q,m⟩=>bif EQ (adc q) aO then (match x with
  | .nil _ c=>bif c then ox (cw m) fun m'=>k {v:= .own (adc s) adW,news:=[.arr q m'],rd:=IG y} else aR
  | .own t ex=>match nth s t with
   |some (.arr r l)=>match xo q r m with
    |none=>aR
    |some m=>match ex with
     |true=>jh l.isEmpty (ox (cw m) fun m'=>k {v:= .own (adc s) adW,news:=[.arr r m'],rd:=t::IG y})
      (jh m.isEmpty (k {v:= .own t adV,rd:=IG y}) (ox (aX l m) fun l'=>k {v:= .own (adc s) adW,news:=[.arr r l'],rd:=t::IG y}))
     |false=>jh m.isEmpty (k {v:= .own t adW,rd:=IG y})
      (bif has z t then aR else ox (aX l m) fun l'=>k {v:= .own (adc s) adW,news:=[.arr r l'],wr:=[(t,.dead)],rd:=IG y})
   |_=>aR
  | .pre t len cap ex=>match nth s t with
   |some (.arr r l)=>match xo q r m with
    |none=>aR
    |some m=>bif ex then aR else jh m.isEmpty (k {v:= .pre t len cap adW,rd:=IG y})
     (jh (aba (len+adc m) cap) (jh (aba (len+adc m) (adc l)&&!has z t) (k {v:= .pre t (len+adc m) cap adW,wr:=[(t,.arr r (gy l len m))],rd:=IG y}) aR)
      (bif has z t||y.afG then aR else ox (aX (l.take len) m) fun l'=>jh (aba len (adc l)) (k {v:= .own (adc s) adW,news:=[.arr r l'],wr:=[(t,.dead)],rd:=IG y}) aR))
   |_=>aR
  |_=>aR) else aR
def YF (s:List SB) (z:List Nat) (aO:Nat) (zero:Row) (x:SV) (k:iC->jc R):jc R:=
 match x with
 | .part t off len _ _=>match nth s t with
  |some (.arr r l)=>match JP zero with
   |some q=>bif FG q r&&EQ (adc r) aO then jh (EQ len 0) (k {v:= .undef})
    (jh (aba (off+len) (adc l)&&!has z t) (k {v:= .undef,wr:=[(t,.arr r (gy l off (abl len (RT.zero r))))]}) aR) else aR
   |none=>aR
  |_=>aR
 |_=>aR
def abY (n:Option Nat) (zero:PV) (ok:Bool) (t:Nat) (l:List (List Int)) (q:SV) (k:iC->jc R):jc R:=
 match zero,ok with
 | .bool adW,adW=>oJ (abX n q) fun a=>ox (Qh l a) fun b=>k {v:= .bool b,rd:=[t]}
 |_,_=>aR
def afH (n:Option Nat) (t:Nat) (l:List (List Int)) (q x:SV) (k:iC->jc R):jc R:=
 match x with
 | .bool adV=>oJ (abX n q) fun a=>ox (Qi l a) fun m=>k {v:= .undef,wr:=[(t,.set m)]}
 |_=>aR
def PT.get:(p:PT)->p.T->List (RT [.i .i64,p])->Int->p.T
 | .i _,z,l,k=>jR z l k
 | .b,z,l,k=>jR z l k
def PT.put:(p:PT)->List (RT [.i .i64,p])->Int->p.T->List (RT [.i .i64,p])
 | .i _,l,k,a=>mf l k a
 | .b,l,k,a=>mf l k a
def abZ (n:Option Nat) (zero:PV) (ok:Bool) (t:Nat) (p:PT) (l:List (RT [.i .i64,p])) (q:SV) (k:iC->jc R):jc R:=
 match n with
 |none=>match ok with
  |false=>match q with
   | .int .i64 a=>oJ (p.of (abV zero)) fun z=>k {v:=p.sv (p.get z l a),rd:=[t]}
   |_=>aR
  |true=>aR
 |some _=>aR
def afI (n:Option Nat) (t:Nat) (p:PT) (l:List (RT [.i .i64,p])) (q x:SV) (k:iC->jc R):jc R:=
 match n with
 |none=>match q with
  | .int .i64 a=>oJ (p.of x) fun v=>k {v:= .undef,wr:=[(t,.nB p (p.put l a v))]}
  |_=>aR
 |some _=>aR
def JR (s:List SB) (z:List Nat) (t:Nat) (r:List PT) (l:List (RT r)) (off len:Nat) (y:SV) (k:iC->jc R):jc R:=
 match D6 s y with
 |none=>aR
 |some ⟨q,m⟩=>match xo q r m with
  |none=>aR
  |some m=>jh (m.take len).isEmpty (k {v:= .int .i64 0,rd:=IG y})
   (jh (aba (off+(m.take len).length) (adc l)&&!has z t) (k {v:= .int .i64 (.ofNat (m.take len).length),wr:=[(t,.arr r (gy l off (m.take len)))],rd:=IG y}) aR)
def aer (s:List SB) (z:List Nat) (aO:Nat) (x y:SV) (k:iC->jc R):jc R:=
 match x with
 | .own t _=>match nth s t with
  |some (.arr r l)=>bif EQ (adc r) aO then JR s z t r l 0 (adc l) y k else aR
  |_=>aR
 | .pre t len _ _=>match nth s t with
  |some (.arr r l)=>bif EQ (adc r) aO then JR s z t r l 0 len y k else aR
  |_=>aR
 | .part t off len _ _=>match nth s t with
  |some (.arr r l)=>bif EQ (adc r) aO then JR s z t r l off len y k else aR
  |_=>aR
 |_=>aR
def rU (e:SE) (s:List SB) (z:List Nat) (op:oC) (k:iC->jc R):jc R:=
 match op with
 | .Xy x=>k {v:=cq e x}
 | .pick c a b=>match cq e c with
  | .bool c=>jh c (k {v:=cq e a}) (k {v:=cq e b})
  |_=>aR
 | .bin op x y=>match cq e x with
  | .int ka a=>match cq e y with
   | .int kb b=>match op with
    | .shl=>jh (adX (b<0)) aR (k {v:= .int ka (aoc ka a b)})
    | .shr=>jh (adX (b<0)) aR (k {v:= .int ka (kr ka a b)})
    |op=>bif gM ka kb then Sv op ka a b (ofV k) else aR
   |_=>aR
  |_=>aR
 | .Pv neg x y=>match cq e x with
  | .bool a=>match cq e y with
   | .bool b=>k {v:= .bool (bif neg then !(a==b) else a==b)}
   |_=>aR
  |_=>aR
 | .eqc n neg x y=>match cq e x with
  | .agg xs=>match cq e y with
   | .agg ys=>bif EQ (adc xs) n&&EQ (adc ys) n then oJ (eqS xs ys) fun b=>k {v:= .bool (bif neg then !b else b)} else aR
   |_=>aR
  |_=>aR
 | .un op x=>match op with
  | .neg=>match cq e x with
   | .int a n=>k {v:= .int a (aa a (0-n))}
   |_=>aR
  | .not=>match cq e x with
   | .bool b=>k {v:= .bool !b}
   |_=>aR
  |_=>aR
 | .conv a x=>match cq e x with
  | .int _ n=>k {v:= .int a (aa a n)}
  |_=>aR
 | .len x=>match cq e x with
  | .nil _ _=>k {v:= .int .i64 0}
  | .pre _ len _ _=>k {v:= .int .i64 (.ofNat len)}
  | .part _ _ len _ _=>k {v:= .int .i64 (.ofNat len)}
  |v=>oJ (D6 s v) fun c=>k {v:= .int .i64 (.ofNat (adc c.l))}
 | .R0 n=>k {v:= .int .i64 (.ofNat n)}
 | .box x=>oJ (cq e x).stored fun cs=>k {v:= .bp (adc s) (adc cs) 0,news:=[.box cs]}
 | .alloc cells=>k {v:= .bp (adc s) (adc cells) 0,news:=[.box (FH cells)]}
 | .build zero parts=>oJ (AF (Cm e parts) (FH zero)) fun cs=>k {v:= .agg cs}
 | .Fj aO n zero parts=>oJ (JP zero) fun r=>bif EQ (adc r) aO then oJ (Ur r e n parts) fun ps=>
  k {v:= .own (adc s) adV,news:=[.arr r (Qj (fun i=>rowAt i (RT.zero r) ps) 0 n)]} else aR
 | .HH x y=>match cq e x with
  | .sl r l=>match cq e y with
   | .sl q m=>k {v:= .part (adc s) 0 2 2 adV,news:=[.box [.sl r l,.sl q m]]}
   |_=>aR
  |_=>aR
 | .load agg p=>aeq s agg (cq e p) k
 | .store sz p v=>YE s z sz (cq e p) (cq e v) k
 | .Pw x=>match cq e x with
  | .pa t r i a o=>k {v:= .pa t r i a o}
  | .pb t i o=>k {v:= .pb t i o}
  | .bp t n o=>k {v:= .bp t n o}
  | .bR c o=>k {v:= .bR c o}
  | .fx f a b=>k {v:= .fx f a b}
  |_=>aR
 | .Px off p=>match cq e p with
  | .pa t r i a o=>k {v:= .pa t r i a (o+off)}
  | .pb t i o=>k {v:= .pb t i (o+off)}
  | .bp t n o=>k {v:= .bp t n (o+off)}
  | .bR c o=>k {v:= .bR c (o+off)}
  |_=>aR
 | .eM agg off x=>match cq e x with
  | .agg cs=>oJ (D5 agg off cs) (ofV k)
  |_=>aR
 | .Py aO x i=>match cq e i with
  | .int _ n=>aep s aO (cq e x) n k
  |_=>aR
 | .HI n aO p i=>match cq e i with
  | .int _ j=>match cq e p with
   | .bp t m o=>JQ n j 0 fun j=>k {v:= .bp t m (o+j*aO)}
   | .bR c o=>JQ n j 0 fun j=>k {v:= .bR c (o+j*aO)}
   | .pb t r o=>JQ n j 0 fun j=>k {v:= .pb t r (o+j*aO)}
   | .pa t r i a o=>JQ n j 0 fun j=>k {v:= .pa t r i a (o+j*aO)}
   |_=>aR
  |_=>aR
 | .idx n aO agg x i=>match cq e i with
  | .int _ j=>match cq e x with
   | .agg cs=>JQ n j 0 fun j=>oJ (D5 agg (j*aO) cs) (ofV k)
   |_=>aR
  |_=>aR
 | .Pz x i=>match cq e i with
  | .int _ j=>match cq e x with
   | .str t=>ox (aeo t j) fun b=>k {v:= .int .u8 b}
   |_=>aR
  |_=>aR
 | .Vu aO x lo hi mx=>aje e s aO (cq e x) lo hi mx k
 | .clear aO zero x=>YF s z aO zero (cq e x) k
 | .copy aO x y=>aer s z aO (cq e x) (cq e y) k
 | .mks aO zero l c=>match cq e l with
  | .int _ n=>match cq e c with
   | .int _ m=>jh (n==m) (oJ (JP zero) fun r=>bif EQ (adc r) aO then ox (qd n (RT.zero r)) fun x=>k {v:= .own (adc s) adV,news:=[.arr r x]} else aR) aR
   |_=>aR
  |_=>aR
 | .mkf fn a b=>k {v:= .fx fn (mH e a) (mH e b)}
 | .mkm z=>match z with
  |none=>k {v:= .mp (adc s),news:=[.set []]}
  |some z=>oJ (bm z) fun p=>k {v:= .mp (adc s),news:=[.nB p []]}
 | .lookup n zero ok m q=>match cq e m with
  | .mp t=>match nth s t with
   |some (.set l)=>abY n zero ok t l (cq e q) k
   |some (.nB p l)=>abZ n zero ok t p l (cq e q) k
   |_=>aR
  |_=>aR
 | .Nt n m q x=>match cq e m with
  | .mp t=>match nth s t with
   |some (.set l)=>bif has z t then aR else afH n t l (cq e q) (cq e x) k
   |some (.nB p l)=>bif has z t then aR else afI n t p l (cq e q) (cq e x) k
   |_=>aR
  |_=>aR
 | .ext i x=>match cq e x with
  | .cV vs=>oJ (nth vs i) (ofV k)
  |_=>aR
 | .append aO x y=>Ut s z aO (cq e x) (cq e y) k
 | .mm rV x xs=>match cq e x with
  | .int a n=>oJ (mmS rV a n (mH e xs)) (ofV k)
  |_=>aR
 |_=>aR
end
mutual
def Mt (s:List SB) (bx:Nat->Option (List SV)):SV->Option SV
 | .int k n=>adh (.int k n)
 | .bool b=>adh (.bool b)
 | .str x=>adh (.str x)
 | .eW=>adh .eW
 | .agg cs=>match xp s bx cs with|some l=>adh (.agg l)|none=>adU
 | .cV cs=>match xp s bx cs with|some l=>adh (.cV l)|none=>adU
 | .sl r l=>adh (.sl r l)
 | .nil e _=>adh (.nil e adW)
 | .own t _=>match nth s t with
  |some (.arr r l)=>adh (.sl r l)
  |_=>adU
 | .pre t len _ _=>match nth s t with
  |some (.arr r l)=>adh (.sl r (l.take len))
  |_=>adU
 | .part t off len _ _=>match nth s t with
  |some (.arr r l)=>adh (.sl r ((l.drop off).take len))
  |_=>adU
 | .pa t r _ a off=>match nth s t with
  |some (.arr _ _)=>adh (.bR (RT.sv r a) off)
  |_=>adU
 | .bp t _ off=>match nth s t with
  |some (.box _)=>match bx t with|some l=>adh (.bR l off)|none=>adU
  |_=>adU
 | .bR cs off=>match xp s bx cs with|some l=>adh (.bR l off)|none=>adU
 | .fx f a b=>match xp s bx a,xp s bx b with
  |some x,adh y=>adh (.fx f x y)
  |_,_=>adU
 |_=>adU
def xp (s:List SB) (bx:Nat->Option (List SV)):List SV->Option (List SV)
 | []=>adh []
 |x::xs=>match Mt s bx x,xp s bx xs with
  |some y,adh ys=>adh (y::ys)
  |_,_=>adU
end
def Sw (s:List SB) (bx:Nat->Option (List SV)):List SV->Bool
 | []=>adV
 |x::xs=>match x with
  | .mp _=>Sw s bx xs
  |x=>match Mt s bx x with
   |some _=>Sw s bx xs
   |none=>adW
def nS (s:List SB):Nat->Nat->Option (List SV)
 |0,_=>adU
 |n+1,t=>match nth s t with
  |some (.box cs)=>xp s (nS s n) cs
  |_=>adU
mutual
def Uu (bx:Nat->List Nat):SV->List Nat
 | .agg cs=>wF bx cs
 | .cV cs=>wF bx cs
 | .own t _=>[t]
 | .pre t _ _ _=>[t]
 | .part t _ _ _ _=>[t]
 | .pa t _ _ _ _=>t::bx t
 | .pb t _ _=>t::bx t
 | .bp t _ _=>t::bx t
 | .bR cs _=>wF bx cs
 | .mp t=>[t]
 | .fx _ a b=>wF bx a++wF bx b
 |_=>[]
def wF (bx:Nat->List Nat):List SV->List Nat
 | []=>[]
 |x::xs=>Uu bx x++wF bx xs
end
def BT (s:List SB):Nat->Nat->List Nat
 |0,_=>[]
 |n+1,t=>match nth s t with
  |some (.box cs)=>wF (BT s n) cs
  |_=>[]
mutual
def SV.sure:SV->Bool
 | .jM=>adW
 | .agg cs=>pS cs
 | .cV cs=>pS cs
 | .bR cs _=>pS cs
 | .fx _ a b=>pS a&&pS b
 |_=>adV
def pS:List SV->Bool
 | []=>adV
 |x::xs=>x.sure&&pS xs
end
mutual
def EE:SV->Bool
 | .int _ _| .bool _| .str _=>adV
 | .agg cs=>wG cs
 | .cV cs=>wG cs
 |_=>adW
def wG:List SV->Bool
 | []=>adV
 |x::xs=>EE x&&wG xs
end
mutual
def YG (s:List SB):SV->Option SV
 | .int k n=>adh (.int k n)
 | .bool b=>adh (.bool b)
 | .str x=>adh (.str x)
 | .agg cs=>match Sx s cs with|some l=>adh (.agg l)|none=>adU
 | .cV cs=>match Sx s cs with|some l=>adh (.cV l)|none=>adU
 | .sl r l=>adh (.sl r l)
 | .nil e _=>adh (.nil e adW)
 | .own t _=>match nth s t with
  |some (.arr r l)=>adh (.sl r l)
  |_=>adU
 | .pre t len _ _=>match nth s t with
  |some (.arr r l)=>adh (.sl r (l.take len))
  |_=>adU
 | .part t off len _ _=>match nth s t with
  |some (.arr r l)=>adh (.sl r ((l.drop off).take len))
  |_=>adU
 |_=>adU
def Sx (s:List SB):List SV->Option (List SV)
 | []=>adh []
 |x::xs=>match YG s x,Sx s xs with
  |some y,adh ys=>adh (y::ys)
  |_,_=>adU
end
mutual
def Wa (s:List SB) (z:List Nat):List Nat->SV->Option (SV×List Nat)
 |seen,.int k n=>adh (.int k n,seen)
 |seen,.bool b=>adh (.bool b,seen)
 |seen,.agg cs=>match Qk s z seen cs with|some p=>adh (.agg p.1,p.2)|none=>adU
 |seen,.cV cs=>match Qk s z seen cs with|some p=>adh (.cV p.1,p.2)|none=>adU
 |seen,.nil e c=>bif c then adh (.nil e adW,seen) else adU
 |seen,.own t _=>match nth s t with
  |some (.arr r l)=>bif has seen t||has z t then adU else adh (.sl r l,t::seen)
  |_=>adU
 |_,_=>adU
def Qk (s:List SB) (z:List Nat):List Nat->List SV->Option (List SV×List Nat)
 |seen,[]=>adh ([],seen)
 |seen,x::xs=>match Wa s z seen x with
  |some p=>match Qk s z p.2 xs with
   |some q=>adh (p.1::q.1,q.2)
   |none=>adU
  |none=>adU
end
mutual
def Cn:Nat->SV->SV×List SB
 |nx,.sl r l=>(.own nx adW,[.arr r l])
 |nx,.nil e _=>(.own nx adW,[.arr (abl e (.i .i64)) []])
 |nx,.agg cs=>(.agg (y7 nx cs).1,(y7 nx cs).2)
 |nx,.cV cs=>(.cV (y7 nx cs).1,(y7 nx cs).2)
 |_,v=>(v,[])
def y7:Nat->List SV->List SV×List SB
 |_,[]=>([],[])
 |nx,x::xs=>((Cn nx x).1::(y7 (nx+(Cn nx x).2.length) xs).1,(Cn nx x).2++(y7 (nx+(Cn nx x).2.length) xs).2)
end
def N8:SB->List Nat
 | .box cs=>wF zu cs
 |_=>[]
def Dm:SB->Bool
 | .box cs=>pS cs
 |_=>adV
def JS (s:List SB):Nat->List Nat->List Nat->Option (List Nat)
 |_,[],seen=>adh seen
 |0,_::_,_=>adU
 |n+1,t::ts,seen=>
  bif has seen t then JS s n ts seen
  else match nth s t with
   |some b=>bif Dm b then JS s n (N8 b++ts) (seen++[t]) else adU
   |none=>adU
mutual
def vt (m:List Nat):SV->Option SV
 | .agg cs=>match yj m cs with|some l=>adh (.agg l)|none=>adU
 | .cV cs=>match yj m cs with|some l=>adh (.cV l)|none=>adU
 | .own t ex=>match idxOf t m with|some u=>adh (.own u ex)|none=>adU
 | .pre t len cap ex=>match idxOf t m with|some u=>adh (.pre u len cap ex)|none=>adU
 | .part t off len cap ex=>match idxOf t m with|some u=>adh (.part u off len cap ex)|none=>adU
 | .pa t _ i _ off=>match idxOf t m with|some u=>adh (.pb u i off)|none=>adU
 | .pb t i off=>match idxOf t m with|some u=>adh (.pb u i off)|none=>adU
 | .bp t n off=>match idxOf t m with|some u=>adh (.bp u n off)|none=>adU
 | .bR cs off=>match yj m cs with|some l=>adh (.bR l off)|none=>adU
 | .mp t=>match idxOf t m with|some u=>adh (.mp u)|none=>adU
 | .fx f a b=>match yj m a,yj m b with
  |some x,adh y=>adh (.fx f x y)
  |_,_=>adU
 | .jM=>adU
 |v=>adh v
def yj (m:List Nat):List SV->Option (List SV)
 | []=>adh []
 |x::xs=>match vt m x,yj m xs with
  |some y,adh ys=>adh (y::ys)
  |_,_=>adU
end
def Sy (m:List Nat):SB->Option SB
 | .box cs=>match yj m cs with|some l=>adh (.box l)|none=>adU
 |b=>adh b
def LS (s:List SB) (m:List Nat):List Nat->Option (List SB)
 | []=>adh []
 |t::ts=>match nth s t with
  |some b=>match Sy m b,LS s m ts with
   |some b',adh r=>adh (b'::r)
   |_,_=>adU
  |none=>adU
def rowOf (rk:List (Nat×List PT)) (aO:Nat):List PT:=
 match rk with
 | []=>abl aO (.i .i64)
 |(n,r)::q=>bif EQ n aO&&EQ (adc r) aO then r else rowOf q aO
def N9:Option Nat->SV->SV
 |some _,.own t _=> .own t adW
 |some _,.pre t l c _=> .pre t l c adW
 |some _,.part t o l c _=> .part t o l c adW
 |_,v=>v
def Co (rk:List (Nat×List PT)) (e:SE) (m:List Nat):Nat->List (Nat×Option Nat)->Option (SE×List SB)
 |_,[]=>adh ([],[])
 |nx,(s,k)::r=>
  match k,HV s e with
  |some aO,.nil _ adV=>match Co rk e m (nx+1) r with
   |some p=>adh ((s,.own nx adW)::p.1,.arr (rowOf rk aO) []::p.2)
   |none=>adU
  |_,v=>match vt m v,Co rk e m nx r with
   |some v',adh p=>adh ((s,N9 k v')::p.1,p.2)
   |_,_=>adU
def JT (rk:List (Nat×List PT)) (st:tT) (t c aO:Nat):tT:=
 match nth st.aA t with
 |some (.box cs)=>match nth cs c with
  |some (.nil _ adV)=>{st with aA:=st.aA.set t (.box (cs.set c (.own (adc st.aA) adW)))++[.arr (rowOf rk aO) []]}
  |_=>st
 |_=>st
def YH:SV->Option Nat
 | .bp t _ 0=>adh t
 |_=>adU
def ab0:SV->Option Nat
 | .fx _ _ (x::_)=>YH x
 |x=>YH x
def rf (rk:List (Nat×List PT)):List (Nat×Option Nat)->tT->tT
 | [],st=>st
 |(s,k)::r,st=>match k with
  |some n=>bif aba 1000 n then (match ab0 (HV s st.env) with
   |some t=>rf rk r (JT rk st t (n / 1000-1) (n%1000))
   |none=>rf rk r st) else rf rk r st
  |none=>rf rk r st
def Mu (s:List SB) (v:SV):SV:=
 match v with
 | .own t ex=>match nth s t with
  |some (.arr _ l)=> .pre t (adc l) (adc l) ex
  |_=>v
 |_=>v
def Uv (s:List SB) (c:Nat):SE->SE
 | []=>[]
 |(t,v)::r=>bif EQ t c then (t,Mu s v)::r else (t,v)::Uv s c r
def FI:List (Nat×Option Nat)->tT->tT
 | [],st=>st
 |(t,_)::r,st=>bif aba 1000000 t then FI r {st with env:=Uv st.aA (t-1000000) st.env} else FI r st
def FJ (e:SE):List (Nat×Option Nat)->Bool
 | []=>adV
 |(s,_)::r=>(HV s e).sure&&FJ e r
def JU (e:SE):List (Nat×Option Nat)->List Nat
 | []=>[]
 |(s,_)::r=>Uu zu (HV s e)++JU e r
def Sz:List SB->Nat->List Nat
 |b::r,n+1=>N8 b++Sz r n
 |_,_=>[]
def JV:List SB->Nat->Bool
 |b::r,n+1=>Dm b&&JV r n
 |_,_=>adV
def JW (rk:List (Nat×List PT)) (live:List (Nat×Option Nat)) (st:tT):Option tT:=
 bif FJ st.env live&&JV st.aA st.kn then
  match JS st.aA 4096 (Sz st.aA st.kn++JU st.env live) (zw st.kn) with
  |none=>adU
  |some m=>match LS st.aA m m,Co rk st.env m (adc m) live with
   |some s1,adh (e1,s2)=>adh (FI live (rf rk live {env:=e1,aA:=s1++s2,fz:=B2 st.fz 0 m,kn:=st.kn}))
   |_,_=>adU
 else adU
def JX (rk:List (Nat×List PT)) (live:List (Nat×Option Nat)) (st:tT):Option tT:=
 match JW rk live st with
 |some s=>bif live.any fun p=>p.2.isSome then JW rk live s else adh s
 |none=>adU
inductive AK where
 |i
 |b
 |n
 |l (r:List PT)
 |s
@[reducible] def AK.T : AK -> Type
  | .i => Int
  | .b => Bool
  | .n => Nat
  | .l r => List (RT r)
  | .s => List (List Int)
@[reducible] def kv : List AK -> Type
  | [] => Unit
  | [a] => a.T
  | a :: q :: r => a.T × kv (q :: r)
inductive BX where
 |i (n:Int)
 |b (x:Bool)
 |n (x:Nat)
 |l (r:List PT) (x:List (RT r))
 |s (x:List (List Int))
def BX.k:BX->AK
 | .i _=> .i
 | .b _=> .b
 | .n _=> .n
 | .l r _=> .l r
 | .s _=> .s
def AK.at:(a:AK)->a.T->BX
 | .i,x=> .i x
 | .b,x=> .b x
 | .n,x=> .n x
 | .l r,x=> .l r x
 | .s,x=> .s x
def AK.of:(a:AK)->BX->Option a.T
 | .i,.i x=>adh x
 | .b,.b x=>adh x
 | .n,.n x=>adh x
 | .l r,.l q x=>xo q r x
 | .s,.s x=>adh x
 |_,_=>adU
def pT:(ks:List AK)->kv ks->List BX
 | [],_=>[]
 | [a],x=>[a.at x]
 |a::q::r,x=>a.at x.1::pT (q::r) x.2
def oK:(ks:List AK)->List BX->Option (kv ks)
 | [],[]=>adh ()
 | [a],[x]=>a.of x
 |a::q::r,x::xs=>match a.of x,oK (q::r) xs with
  |some y,adh ys=>adh (y,ys)
  |_,_=>adU
 |_,_=>adU
mutual
def G3:SV->List BX
 | .int _ n=>[.i n]
 | .bool b=>[.b b]
 | .agg cs=>G4 cs
 | .cV cs=>G4 cs
 | .sl r l=>[.l r l]
 | .pre _ len cap _=>[.n len,.n cap]
 | .part _ off len cap _=>[.n off,.n len,.n cap]
 | .pb _ i _=>[.i i]
 | .bR cs _=>G4 cs
 | .fx _ a b=>G4 a++G4 b
 |_=>[]
def G4:List SV->List BX
 | []=>[]
 |x::xs=>G3 x++G4 xs
end
def YI:SB->List BX
 | .arr r l=>[.l r l]
 | .box cs=>G4 cs
 | .set l=>[.s l]
 | .nB p l=>[.l [.i .i64,p] l]
 | .dead=>[]
def Oa:List SB->List BX
 | []=>[]
 |b::r=>YI b++Oa r
def Wb:SE->List BX
 | []=>[]
 |(_,v)::r=>G3 v++Wb r
def sq (st:tT):List BX:=Wb st.env++Oa st.aA
mutual
def BH:SV->SV->Bool
 | .undef,.undef=>adV
 | .na,.na=>adV
 | .eW,.eW=>adV
 | .int k _,.int l _=>gM k l
 | .bool _,.bool _=>adV
 | .agg a,.agg b=>Cp a b
 | .cV a,.cV b=>Cp a b
 | .sl r _,.sl q _=>FG r q
 | .nil e c,.nil f d=>EQ e f&&c==d
 | .own t x,.own u y=>EQ t u&&x==y
 | .pre t _ _ x,.pre u _ _ y=>EQ t u&&x==y
 | .part t _ _ _ x,.part u _ _ _ y=>EQ t u&&x==y
 | .pb t _ o,.pb u _ p=>EQ t u&&EQ o p
 | .bp t n o,.bp u m p=>EQ t u&&EQ n m&&EQ o p
 | .bR a o,.bR b p=>Cp a b&&EQ o p
 | .fx f a b,.fx g c d=>EQ f g&&Cp a c&&Cp b d
 | .mp t,.mp u=>EQ t u
 | .jM,.jM=>adV
 |_,_=>adW
def Cp:List SV->List SV->Bool
 | [],[]=>adV
 |x::xs,y::ys=>BH x y&&Cp xs ys
 |_,_=>adW
end
def aes:SB->SB->Bool
 | .arr r _,.arr q _=>FG r q
 | .box a,.box b=>Cp a b
 | .set _,.set _=>adV
 | .nB p _,.nB q _=>p.same q
 | .dead,.dead=>adV
 |_,_=>adW
def JY:List SB->List SB->Bool
 | [],[]=>adV
 |x::xs,y::ys=>aes x y&&JY xs ys
 |_,_=>adW
def Uw:SE->SE->Bool
 | [],[]=>adV
 |(t,x)::xs,(u,y)::ys=>EQ t u&&BH x y&&Uw xs ys
 |_,_=>adW
def Ux:List Nat->List Nat->Bool
 | [],[]=>adV
 |x::xs,y::ys=>EQ x y&&Ux xs ys
 |_,_=>adW
def EF (a b:tT):Bool:=Uw a.env b.env&&JY a.aA b.aA&&Ux a.fz b.fz&&EQ a.kn b.kn
mutual
def y8:SV->List BX->SV×List BX
 | .int k _,.i n::q=>(.int k n,q)
 | .bool _,.b x::q=>(.bool x,q)
 | .agg cs,q=>(.agg (wH cs q).1,(wH cs q).2)
 | .cV cs,q=>(.cV (wH cs q).1,(wH cs q).2)
 | .sl _ _,.l r l::q=>(.sl r l,q)
 | .pre t _ _ x,.n len:: .n cap::q=>(.pre t len cap x,q)
 | .part t _ _ _ x,.n off:: .n len:: .n cap::q=>(.part t off len cap x,q)
 | .pb t _ o,.i i::q=>(.pb t i o,q)
 | .bR cs o,q=>(.bR (wH cs q).1 o,(wH cs q).2)
 | .fx f a b,q=>(.fx f (wH a q).1 (wH b (wH a q).2).1,(wH b (wH a q).2).2)
 |v,q=>(v,q)
def wH:List SV->List BX->List SV×List BX
 | [],q=>([],q)
 |x::xs,q=>((y8 x q).1::(wH xs (y8 x q).2).1,(wH xs (y8 x q).2).2)
end
def SA:SB->List BX->SB×List BX
 | .arr _ _,.l r l::q=>(.arr r l,q)
 | .box cs,q=>(.box (wH cs q).1,(wH cs q).2)
 | .set _,.s l::q=>(.set l,q)
 | .nB _ _,.l [.i .i64,p] l::q=>(.nB p l,q)
 |b,q=>(b,q)
def EG:List SB->List BX->List SB×List BX
 | [],q=>([],q)
 |b::r,q=>((SA b q).1::(EG r (SA b q).2).1,(EG r (SA b q).2).2)
def Ql:SE->List BX->SE×List BX
 | [],q=>([],q)
 |(t,v)::r,q=>((t,(y8 v q).1)::(Ql r (y8 v q).2).1,(Ql r (y8 v q).2).2)
def zN (st:tT) (q:List BX):tT:={st with env:=(Ql st.env q).1,aA:=(EG st.aA (Ql st.env q).2).1}
def YJ:List BX->List AK
 | []=>[]
 |a::r=>a.k::YJ r
def ptK {β:Type 1} (p:PT) (c:PT->β):β:=
 match p with
 | .i k=>c (.i k)
 | .b=>c .b
def rK {β:Type 1}:List PT->(List PT->β)->β
 | [],c=>c []
 |p::r,c=>ptK p fun p=>rK r fun r=>c (p::r)
def ksK {β:Type 1}:List AK->(List AK->β)->β
 | [],c=>c []
 | .i::r,c=>ksK r fun r=>c (.i::r)
 | .b::r,c=>ksK r fun r=>c (.b::r)
 | .n::r,c=>ksK r fun r=>c (.n::r)
 | .l q::r,c=>rK q fun q=>ksK r fun r=>c (.l q::r)
 | .s::r,c=>ksK r fun r=>c (.s::r)
mutual
def xq:SV->Option PV
 | .int k n=>adh (.int k n)
 | .bool b=>adh (.bool b)
 | .str x=>adh (.str x)
 | .eW=>adh .eW
 | .agg cs=>match wj cs with|some l=>adh (.agg l)|none=>adU
 | .cV cs=>match wj cs with|some l=>adh (.cV l)|none=>adU
 | .sl r l=>adh (.sl (adc r) adW (l.map (RT.pv r)))
 | .nil e c=>adh (.sl e c [])
 | .bR cs off=>match wj cs with|some l=>adh (.bR l off)|none=>adU
 | .fx f a b=>match wj a,wj b with
  |some x,adh y=>adh (.fx f x y)
  |_,_=>adU
 |_=>adU
def wj:List SV->Option (List PV)
 | []=>adh []
 |x::xs=>match xq x,wj xs with
  |some y,adh ys=>adh (y::ys)
  |_,_=>adU
end
structure bL (α:Type) where
 enc:α->List SV
 dec:List SV->Option (α×List SV)
 law: ∀{vs:List SV} {a:α} {rest:List SV} {ps:List PV},dec vs=adh (a,rest)->wj vs=adh ps-> ∃p q,ps=p++q/\wj (enc a)=adh p/\wj rest=adh q
structure Arg (α:Type) where
 enc:α->SV
 dec:SV->Option α
 law: ∀{v:SV} {a:α} {p:PV},dec v=adh a->xq v=adh p->xq (enc a)=adh p
structure bJ (α:Type) where
 enc:α->List SV
 dec:List SV->Option α
 law: ∀{vs:List SV} {a:α} {ps:List PV},dec vs=adh a->wj vs=adh ps->wj (enc a)=adh ps
inductive Kd where
 |pure
 |jS
 |own
structure D7 where
 {α β:Type}
 args:bJ α
 res:Arg β
 fn:α->Option β
 kd:Kd
 ow:Bool
structure fb where
 ka:List AK
 ta:List SV
 tb:List SB
 ko:List AK
 tv:SV
 to:List SB
 fn:kv ka->Option (kv ko)
def FK:(p:PT)->PV->Option p.T
 | .i k,.int l n=>bif gM l k then adh n else adU
 | .b,.bool x=>adh x
 |_,_=>adU
def LU:(r:List PT)->List PV->Option (RT r)
 | [],[]=>adh ()
 | [p],[v]=>FK p v
 |p::q::r,v::vs=>match FK p v,LU (q::r) vs with
  |some a,adh b=>adh (a,b)
  |_,_=>adU
 |_,_=>adU
def HX (r:List PT):List (List PV)->Option (List (RT r))
 | []=>adh []
 |x::xs=>match LU r x,HX r xs with
  |some a,adh l=>adh (a::l)
  |_,_=>adU
structure Srt where
 r:List PT
 g:Option FuncId
 fn:List (RT r)->Option (List (RT r))
def SC:Srt:=⟨[.i .i64],adU,N6⟩
def ab2:Option FuncId->List PV->Bool
 |none,[]=>adV
 |some g,[.fx h [] []]=>EQ h g
 |_,_=>adW
def Od (q:Srt) (args:List PV) (aA:cU) (fz:List Nat):Option (PV×cU×List Nat):=
 match args with
 | .own t e off len _ _::r=>match aA[t]? with
  |some (.arr e1 rows)=>if EQ e (adc q.r)&&EQ off 0&&aba len (adc rows)&&aba len gU&&!has fz t&&ab2 q.g r then
   (match HX q.r (rows.take len) with
   |some l=>match q.fn l with
    |some m=>if EQ (adc m) (adc l) then adh (.cV [],aA.set t (.arr e1 (m.map (RT.pv q.r)++rows.drop len)),fz) else adU
    |none=>adU
   |none=>adU) else adU
  |_=>adU
 |_=>adU
inductive Cd where
 |code (x:ax)
 |ins (aO:Nat)
 |srt (q:Srt)
 |cat
instance:Coe ax Cd:=⟨.code⟩
def Cd.ent:Cd->Xz
 | .code x=> .code x
 | .ins n=> .Ly (Ny n)
 | .srt q=> .Ly (Od q)
 | .cat=> .Ly Nw
structure Ctx where
 lp:Option Nat
 con:FuncId->List D7
 fpc:FuncId->List fb
 code:FuncId->Option Cd
 rk:List (Nat×List PT)
 jn:Bool
inductive XRS where
 |loc (r:iC)
 |shr (v:SV) (s:List SB) (z:List Nat)
def SV.afK:SV->Bool
 | .own .. | .pre .. | .part .. | .pa .. | .pb .. | .bp .. | .mp .. =>adV
 |_=>adW
def EH:List SV->Bool
 | []=>adW
 |x::xs=>x.afK||EH xs
mutual
def dgV (ts:List Nat):SV->SV
 | .pa t r i a off=>bif has ts t then .pb t i off else .pa t r i a off
 | .agg cs=> .agg (YK ts cs)
 | .cV cs=> .cV (YK ts cs)
 | .bR cs off=> .bR (YK ts cs) off
 | .fx f a b=> .fx f (YK ts a) (YK ts b)
 |v=>v
def YK (ts:List Nat):List SV->List SV
 | []=>[]
 |x::xs=>dgV ts x::YK ts xs
end
def dgE (ts:List Nat):SE->SE
 | []=>[]
 |(t,v)::r=>(t,dgV ts v)::dgE ts r
def dgB (ts:List Nat):SB->SB
 | .box cs=> .box (YK ts cs)
 |b=>b
def IH (ts:List Nat):List SB->List SB
 | []=>[]
 |b::r=>dgB ts b::IH ts r
def YL:List SB->Nat->SB->List SB
 | [],_,_=>[]
 |_::r,0,b=>b::r
 |x::r,n+1,b=>x::YL r n b
def xt:List (Nat×SB)->List SB->List SB
 | [],s=>s
 |(t,b)::r,s=>xt r (YL s t b)
def FL:List (Nat×SB)->List Nat
 | []=>[]
 |(t,_)::r=>t::FL r
def Of (d:Option Nat) (v:SV) (e:SE):SE:=
 match d with
 |some t=>(t,v)::e
 |none=>e
def apS:List SB->List SB->List SB
 | [],l=>l
 |b::r,l=>b::apS r l
def iC.next (d:Option Nat) (st:tT) (r:iC):tT:=
 match r.wr with
 | []=>{env:=Of d r.v st.env,aA:=apS st.aA r.news,fz:=r.fr++st.fz,kn:=st.kn}
 |w=>{env:=Of d r.v (dgE (FL w) st.env),aA:=apS (IH (FL w) (xt w st.aA)) r.news,fz:=r.fr++st.fz,kn:=st.kn}
def iC.ok (z:List Nat) (r:iC):Bool:=(FL r.wr).all fun t=>!has z t
def iC.tr (nx:Nat) (r:iC):Tr:=
 ⟨r.rd++r.fr,FL r.wr,!r.news.isEmpty,adW,(r.rd++r.fr).all (abm · nx)&&(FL r.wr).all (abm · nx),nx,nx+adc r.news⟩
def YM:Tr:=⟨[],[],adV,adV,adV,0,0⟩
def wI {R:Type}:List SB->List SB->jc R->jc R
 | [],_,k=>k
 |x::xs,y::ys,k=>match x with
  | .arr r l=>match y with
   | .arr q m=>bif FG r q then jh (adc m==adc l) (wI xs ys k) aR else aR
   | .dead=>wI xs ys k
   |_=>aR
  | .dead=>match y with
   | .dead=>wI xs ys k
   |_=>aR
  | .box _=>match y with
   | .box _=>wI xs ys k
   | .dead=>wI xs ys k
   |_=>aR
  |_=>wI xs ys k
 |_,_,_=>aR
abbrev Inl:=FuncId->List SV->List SB->List Nat-> ∀R:Type,(SV->List SB->List Nat->jc R)->jc R
section
variable {R : Type}
def ajf (_:FuncId) (_:List SV):jc R:=aR
def aod (_:FuncId) (_:List SV) (_:List SB):jc R:=aR
def SD (f:FuncId) (m:Bool) (s:List SB) (tk:List Nat) (vs:List SV) (k:XRS->jc R):List D7->jc R
 | []=>ajf f vs
 |c::r=>match c.args.dec vs with
  |some a=>bif m==c.ow then ox (c.fn a) fun b=>match c.kd with
   | .pure=>k (.loc {v:=c.res.enc b,rd:=tk})
   | .jS=>k (.loc {v:=c.res.enc b,rd:=tk,fr:=tk})
   | .own=>k (.loc {v:=(Cn (adc s) (c.res.enc b)).1,news:=(Cn (adc s) (c.res.enc b)).2,rd:=tk}) else SD f m s tk vs k r
  |none=>SD f m s tk vs k r
mutual
def Qm (g:Nat->Nat):SV->SV
 | .agg cs=> .agg (HY g cs)
 | .cV cs=> .cV (HY g cs)
 | .own t ex=> .own (g t) ex
 | .pre t len cap ex=> .pre (g t) len cap ex
 | .part t off len cap ex=> .part (g t) off len cap ex
 | .pa t _ i _ off=> .pb (g t) i off
 | .pb t i off=> .pb (g t) i off
 | .bp t n off=> .bp (g t) n off
 | .bR cs off=> .bR (HY g cs) off
 | .mp t=> .mp (g t)
 | .fx f a b=> .fx f (HY g a) (HY g b)
 |v=>v
def HY (g:Nat->Nat):List SV->List SV
 | []=>[]
 |x::xs=>Qm g x::HY g xs
end
def YN (g:Nat->Nat):SB->SB
 | .box cs=> .box (HY g cs)
 |b=>b
def D8 (g:Nat->Nat):List Nat->List SB->List (Nat×SB)
 |t::r,b::s=>(t,YN g b)::D8 g r s
 |_,_=>[]
def aeu (k:Nat) (v:SV) (s:List SB):Bool:=(Uu zu v++s.flatMap N8).all fun t=>abm t k
def fpS (f : FuncId) (n : Nat) (tk : List Nat) (vs : List SV) (s0 : List SB) (k : XRS -> jc R) : List fb -> jc R
  | [] => aod f vs s0
  | c :: r => bif Cp c.ta vs && JY c.tb s0 then (match oK c.ka (G4 vs ++ Oa s0) with
      | some a => ox (c.fn a) fun b =>
          k (.loc { v := Qm (nA tk n) (y8 c.tv (pT c.ko b)).1, wr := D8 (nA tk n) tk (EG c.to (y8 c.tv (pT c.ko b)).2).1 })
      | none => fpS f n tk vs s0 k r) else fpS f n tk vs s0 k r
def Mv (cx:Ctx) (inl:Inl) (e:SE) (s:List SB) (z:List Nat) (op:oC) (k:XRS->jc R):jc R:=
 match op with
 | .call m f args=>match m with
  | .pur=>match xp s (nS s deep) (mH e args) with
   |some vs=>SD f adW s (wF (BT s deep) (mH e args)) vs k (cx.con f)
   |none=>aR
  | .own=>match xp s (nS s deep) (mH e args) with
   |some vs=>SD f adV s (wF (BT s deep) (mH e args)) vs k (cx.con f)
   |none=>aR
  | .shr=>inl f (mH e args) s z R fun v s' z'=>k (.shr v s' z')
  | .fp=>match Sw s (nS s deep) (mH e args) with
   |false=>aR
   |true=>let tk:=tL (wF (BT s deep) (mH e args))
    bif tk.all (fun t=>!has z t) then (match yj tk (mH e args),LS s tk tk with
     |some vs,adh s0=>fpS f (adc s) tk vs s0 k (cx.fpc f)
     |_,_=>aR) else aR
 | .Bz x args=>match cq e x with
  | .fx f a b=>bif EH (mH e args++b) then inl f (a++mH e args++b) s z R fun v s' z'=>k (.shr v s' z')
   else match xp s (nS s deep) (a++mH e args++b) with
   |some vs=>SD f adW s (wF (BT s deep) (a++mH e args++b)) vs k (cx.con f)
   |none=>aR
  |_=>aR
 |op=>rU e s z op fun r=>k (.loc r)
def XH (d:Option Nat) (st:tT) (tr:List Tr) (k:tT->List Tr->jc R) (x:XRS):jc R:=
 match x with
 | .loc r=>bif r.ok st.fz then abW r.v fun v=>k ({r with v}.next d st) (r.tr (adc st.aA)::tr) else aR
 | .shr v s z=>abW v fun v=>wI st.aA s (bif st.fz.all (has z) then k {env:=Of d v (dgE (zw (adc st.aA)) st.env),aA:=s,fz:=z,kn:=st.kn} (YM::tr) else aR)
def tU (cx:Ctx) (inl:Inl):List ck->tT->List Tr->(tT->List Tr->jc R)->jc R
 | [],st,tr,k=>k st tr
 |o::r,st,tr,k=>
  let run:=fun st:tT=>match o.op with
   | .pick (.t c) a b=>match HV c st.env with
    | .bool x=>jh x (XH o.dst {st with env:=ED c (.bool adV) st.env} tr (tU cx inl r · · k) (.loc {v:=cq st.env a}))
     (XH o.dst {st with env:=ED c (.bool adW) st.env} tr (tU cx inl r · · k) (.loc {v:=cq st.env b}))
    |_=>aR
   |op=>Mv cx inl st.env st.aA st.fz op (XH o.dst st tr (tU cx inl r · · k))
  let skip:=fun st:tT=>tU cx inl r {st with env:=Of o.dst .na st.env} (Tr.idle::tr) k
  match o.guard with
  |none=>run st
  |some (s,want)=>match HV s st.env with
   | .bool x=>bif want then jh x (run {st with env:=ED s (.bool adV) st.env}) (skip {st with env:=ED s (.bool adW) st.env})
    else jh x (skip {st with env:=ED s (.bool adV) st.env}) (run {st with env:=ED s (.bool adW) st.env})
   | .na=>skip st
   |_=>aR
def Qn (e:SE):List Nat->(SE->jc R)->jc R
 | [],k=>k []
 |s::r,k=>abW (HV s e) fun v=>Qn e r fun e'=>k ((s,v)::e')
def jnV:SV->SV->SV
 | .undef,_=> .jM
 |_,v=>v
def jnE (o:SE):SE->SE
 | []=>[]
 |(t,v)::r=>(t,jnV (HV t o) v)::jnE o r
def jnL (o:SE):List Nat->SE
 | []=>[]
 |t::r=>(t,jnV (HV t o) (HV t o))::jnL o r
def Wc (o:SE) (gS:List Nat) (st:tT):tT:={st with env:=jnL o gS}
def guards:List ck->Nat
 | []=>0
 |o::r=>match o.guard with
  |none=>guards r
  |some _=>guards r+1
def jnC:lY->Bool
 | .seq (.region _ ops _) (.cond _ _ _)=>aba 8 (guards ops)
 |_=>adW
def jnK:lY->List Nat
 | .seq (.region _ _ gS) _=>gS
 |_=>[]
noncomputable def Cq (cx:Ctx) (inl:Inl):(c:lY)->(R:Type)->tT->(jQ->tT->jc R)->jc R
 | .skip,_,st,k=>k .normal st
 | .region d ops gS,_,st,k=>tU cx inl ops st [] fun od tr=>
  let fin:=Qn od.env gS fun e=>k .normal {od with env:=e}
  match d with
  |none=>fin
  |some bf=>match wq 0 (tr.reverse.zip bf) with
   |true=>fin
   |false=>aR
 | .seq a b,R,st,k=>match cx.jn&&jnC a with
  |false=>Cq cx inl a R st fun e od=>match e with
   | .normal=>Cq cx inl b R od k
   |e=>k e od
  |true=>ksK (YJ (sq (Wc st.env (jnK a) st))) fun ks=>match oK ks (sq (Wc st.env (jnK a) st)) with
   |none=>aR
   |some y0=>fun ρ w=>Uq cx.lp (fun y:Bool×kv ks=>jh y.1
    (Cq cx inl a (Step (Bool×kv ks) ρ) st fun e BN=>match e with
     | .normal=>bif EF (Wc st.env (jnK a) st) {BN with env:=jnE st.env BN.env} then (match oK ks (sq {BN with env:=jnE st.env BN.env}) with
      |some y'=>HW (.next (adW,y'))
      |none=>aR) else aR
     |e=>fun BY w'=>k e BN BY fun r=>w' (.done (w r)))
    (fun BY w'=>Cq cx inl b R (zN (Wc st.env (jnK a) st) (pT ks y.2)) k BY fun r=>w' (.done (w r))) (Step (Bool×kv ks) ρ) fun z=>z) (adV,y0)
 | .cond c a b,R,st,k=>match cq st.env c with
  | .bool x=>jh x (Cq cx inl a R st k) (Cq cx inl b R st k)
  |_=>aR
 | .block id b,R,st,k=>Cq cx inl b R st fun e od=>match e with
  | .exit j=>bif EQ j id then k .normal od else k (.exit j) od
  |e=>k e od
 | .loop live b,_,st,k=>match JX cx.rk live st with
  |none=>aR
  |some rO=>ksK (YJ (sq rO)) fun ks=>match oK ks (sq rO) with
   |none=>aR
   |some y0=>fun ρ w=>Uq cx.lp (fun y:kv ks=>Cq cx inl b (Step (kv ks) ρ) (zN rO (pT ks y)) (fun e BN=>match e with
    | .normal=>match JX cx.rk live BN with
     |some Wd=>bif EF rO Wd then (match oK ks (sq Wd) with
      |some y'=>HW (.next y')
      |none=>aR) else aR
     |none=>aR
    |e=>fun BY w'=>k e BN BY fun r=>w' (.done (w r))) (Step (kv ks) ρ) fun z=>z) y0
 | .exit id,_,st,k=>k (.exit id) st
 | .ret,_,st,k=>k .ret st
def SF (st:tT):RV->Option SV
 | .tmp t=>adh (HV t st.env)
 | .cell t agg=>match HV t st.env with
  | .bp t _ off=>match nth st.aA t with
   |some (.box cs)=>D5 agg off cs
   |_=>adU
  | .bR cs off=>D5 agg off cs
  |_=>adU
def Dn (st:tT):List RV->Option (List SV)
 | []=>adh []
 |r::rs=>match SF st r,Dn st rs with
  |some v,adh vs=>adh (v::vs)
  |_,_=>adU
def G5:List SV->SV
 | [v]=>v
 |vs=> .cV vs
def SG:Nat->List SV->SE
 |_,[]=>[]
 |i,v::r=>(i,v)::SG (i+1) r
noncomputable def Uy (cx:Ctx) (inl:Inl) (x:ax) (R:Type) (args:List SV) (s:List SB) (z:List Nat) (k:SV->List SB->List Nat->jc R):jc R:=
 bif EQ (adc args) x.Jf then Cq cx inl x.code R {env:=SG 0 args,aA:=s,fz:=z,kn:=adc s} fun e st=>match e with
  | .exit _=>aR
  |_=>match Dn st x.res with
   |some vs=>k (G5 vs) st.aA st.fz
   |none=>aR
 else aR
def iC.rh (s:List SB) (r:iC):List SB:=
 match r.wr with
 | []=>apS s r.news
 |w=>apS (IH (FL w) (xt w s)) r.news
def HZ:Option FuncId->List SV->Bool
 |none,[]=>adV
 |some g,[.fx h [] []]=>EQ h g
 |_,_=>adW
structure ajg where
 t:Nat
 r:List PT
 l:List (RT r)
 i:Int
 m:List (RT r)
def ab5 (aO:Nat) (args:List SV) (s:List SB) (z:List Nat):Option ajg:=
 match args with
 | [.own t _,.int .i64 i,.own u _]=>match nth s t with
  |some (.arr r l)=>match nth s u with
   |some (.arr q m)=>match xo q r m with
    |some m=>bif EQ (adc r) aO&&!Nat.beq t u&&!has z t then adh ⟨t,r,l,i,m⟩ else adU
    |none=>adU
   |_=>adU
  |_=>adU
 |_=>adU
def afN (aO:Nat) (args:List SV) (s:List SB) (z:List Nat) (k:SV->List SB->List Nat->jc R):jc R:=
 match ab5 aO args s z with
 |some a=>ox (Dk a.l a.i a.m) fun l'=>k (.own (adc s) adW) (iC.rh s {v:= .own (adc s) adW,news:=[.arr a.r l'],wr:=[(a.t,.dead)]}) z
 |none=>aR
structure ajh where
 t:Nat
 r:List PT
 l:List (RT r)
 m:List (RT r)
def ab6 (args:List SV) (s:List SB) (z:List Nat):Option ajh:=
 match args with
 | [.part t off len _ _]=>match nth s t with
  |some (.box [.sl r l,.sl q m])=>match xo q r m with
   |some m=>bif EQ (adc r) 1&&EQ off 0&&EQ len 2&&!has z t then adh ⟨t,r,l,m⟩ else adU
   |none=>adU
  |_=>adU
 |_=>adU
def afO (args:List SV) (s:List SB) (z:List Nat) (k:SV->List SB->List Nat->jc R):jc R:=
 match ab6 args s z with
 |some a=>ox (V8 a.l a.m) fun l'=>k (.own (adc s) adW) (iC.rh s {v:= .own (adc s) adW,news:=[.arr a.r l'],wr:=[(a.t,.dead)]}) z
 |none=>aR
def ab7 (r:List PT) (g:Option FuncId) (args:List SV) (s:List SB) (z:List Nat):Option (Nat×Option Nat×List (RT r)):=
 match args with
 | .own t _::a=>match nth s t with
  |some (.arr q l)=>match xo q r l with
   |some l=>bif !has z t&&HZ g a then adh (t,adU,l) else adU
   |none=>adU
  |_=>adU
 | .pre t len _ _::a=>match nth s t with
  |some (.arr q l)=>match xo q r l with
   |some l=>bif !has z t&&HZ g a then adh (t,adh len,l) else adU
   |none=>adU
  |_=>adU
 |_=>adU
def afP (q:Srt) (args:List SV) (s:List SB) (z:List Nat) (k:SV->List SB->List Nat->jc R):jc R:=
 match ab7 q.r q.g args s z with
 |some (t,adU,l)=>ox (HU q.fn l) fun m=>k (.cV []) (iC.rh s {v:= .cV [],wr:=[(t,.arr q.r m)]}) z
 |some (t,adh len,l)=>ox (Dl q.fn len l) fun m=>k (.cV []) (iC.rh s {v:= .cV [],wr:=[(t,.arr q.r m)]}) z
 |none=>aR
noncomputable def YO (cx:Ctx):Nat->Inl
 |0=>fun _ _ _ _ _ _=>aR
 |n+1=>fun f args s z R k=>match cx.code f with
  |some (.code x)=>Uy cx (YO cx n) x R args s z k
  |some (.ins e)=>afN e args s z k
  |some (.srt q)=>afP q args s z k
  |some .cat=>afO args s z k
  |none=>aR
def YP (kd:Kd) {β:Type} (res:Arg β) (v:SV) (s:List SB) (z:List Nat):jc β:=
 match kd with
 | .pure=>bif EE v then oJ (res.dec v) HW else aR
 | .jS=>bif EE v then aR else oJ (YG s v) fun u=>oJ (res.dec u) HW
 | .own=>oJ (Wa s z [] v) fun u=>oJ (res.dec u.1) HW
noncomputable def Uz (cx:Ctx) (x:ax) {α β:Type} (args:bJ α) (res:Arg β) (kd:Kd) (a:α):Option β:=
 Uy cx (YO cx 8) x β (args.enc a) [] [] (YP kd res) β fun b=>b
def JZ:List SB->Bool
 | []=>adV
 |b::r=>Dm b&&JZ r
def H3 {R:Type}:List SB->List SB->jc R->jc R
 | [],[],k=>k
 |x::xs,y::ys,k=>match x with
  | .arr r l=>match y with
   | .arr q m=>bif FG r q then jh (adc m==adc l) (H3 xs ys k) aR else aR
   |_=>aR
  | .dead=>match y with
   | .dead=>H3 xs ys k
   |_=>aR
  | .box _=>match y with
   | .box _=>H3 xs ys k
   |_=>aR
  | .set _=>match y with
   | .set _=>H3 xs ys k
   |_=>aR
  | .nB _ _=>match y with
   | .nB _ _=>H3 xs ys k
   |_=>aR
 |_,_,_=>aR
noncomputable def aoe (wd:Bool) (cx:Ctx) (x:ax) (ka:List AK) (ta:List SV) (tb:List SB) (ko:List AK) (tv:SV) (to:List SB) (a:kv ka):Option (kv ko):=
 Uy cx (YO cx 8) x (kv ko) (wH ta (pT ka a)).1 (EG tb (wH ta (pT ka a)).2).1 [] (fun v s z=>match z with
  | []=>let u:=bif wd then Mu s v else v
   let s1:=s.take (adc tb)
   bif BH tv u&&JY to s1&&aeu (adc tb) u s1&&u.sure&&JZ s1 then H3 (EG tb (wH ta (pT ka a)).2).1 s1 (oJ (oK ko (G3 u++Oa s1)) HW) else aR
  |_=>aR) (kv ko) fun b=>b
end
end Go.Vm
/- The types of arguments and results, as cells. -/
namespace Go.Vm
theorem tV {r q:List PT} {l:List _} {m:List _} (h:xo r q l=adh m): ∃e:r=q,m=e▸l:=by
 unfold xo at h
 grind
theorem FM {r q:List PT} {l:List _} {m:List _} (h:xo r q l=adh m):r=q/\m.map (RT.pv q)=l.map (RT.pv r)/\adc m=(adc l):=by
 grind [tV]
theorem fE {x:SV} {xs:List SV} {ps:List PV}:wj (x::xs)=adh ps↔ ∃p qs,ps=p::qs/\xq x=adh p/\wj xs=adh qs:=by
 simp [wj]
 grind
theorem EI: ∀{xs ys:List SV} {p q:List PV},wj xs=adh p->wj ys=adh q->wj (xs++ys)=adh (p++q)
 | [],ys,p,q,h,k=>by simp [wj,] at h;subst h;exact k
 |x::xs,ys,p,q,h,k=>by obtain ⟨a,as,rfl,h1,h2⟩:=fE.1 h;exact fE.2 ⟨a,as++q,rfl,h1,EI h2 k⟩
theorem PT.uK: ∀{p:PT} {v:SV} {a:p.T},p.of v=adh a->v=p.sv a
 | .i k,.int l n,a,h=>by
  simp [PT.of] at h;cases hk:gM l k with
  |false=>grind
  |true=>rw [hk] at h;injection h with h;subst h;rw [gx.1 hk];rfl
 | .b,.bool x,a,h=>by injection h with h;subst h;rfl
 | .i k,.bool _,a,h=>by cases h
 | .b,.int _ _,a,h=>by cases h
 | .i _,.jM,a,h| .i _,.undef,a,h| .i _,.na,a,h| .i _,.eW,a,h| .i _,.str _,a,h| .i _,.agg _,a,h| .i _,.cV _,a,h| .i _,.sl _ _,a,h| .i _,.nil _ _,a,h| .i _,.own _ _,a,h| .i _,.pre _ _ _ _,a,h| .i _,.part _ _ _ _ _,a,h| .i _,.pa _ _ _ _ _,a,h| .i _,.pb _ _ _,a,h| .i _,.bp _ _ _,a,h| .i _,.bR _ _,a,h| .i _,.fx _ _ _,a,h| .i _,.mp _,a,h=>by cases h
 | .b,.jM,a,h| .b,.undef,a,h| .b,.na,a,h| .b,.eW,a,h| .b,.str _,a,h| .b,.agg _,a,h| .b,.cV _,a,h| .b,.sl _ _,a,h| .b,.nil _ _,a,h| .b,.own _ _,a,h| .b,.pre _ _ _ _,a,h| .b,.part _ _ _ _ _,a,h| .b,.pa _ _ _ _ _,a,h| .b,.pb _ _ _,a,h| .b,.bp _ _ _,a,h| .b,.bR _ _,a,h| .b,.fx _ _ _,a,h| .b,.mp _,a,h=>by cases h
theorem RT.uK: ∀{r:List PT} {vs:List SV} {a:RT r},RT.of r vs=adh a->vs=RT.sv r a
 | [],[],a,_=>rfl
 | [p],[v],a,h=>by have:=PT.uK h;rw [this];rfl
 |p::q::r,v::vs,a,h=>by
  simp [RT.of] at h;split at h
  · rename_i x y h1 h2
    injection h with h;subst h;rw [PT.uK h1,RT.uK h2];rfl
  cases h
 | [],_::_,a,h=>by simp [RT.of] at h
 | [p],[],a,h=>by simp [RT.of] at h
 | [p],_::_::_,a,h=>by simp [RT.of] at h
 |_::_::_,[],a,h=>by simp [RT.of] at h
theorem PT.Mw (p:PT) (a:p.T):xq (p.sv a)=adh (p.pv a):=by cases p<;>rfl
theorem RT.Mw: ∀(r:List PT) (a:RT r),wj (RT.sv r a)=adh (RT.pv r a)
 | [],_=>rfl
 | [p],a=>fE.2 ⟨_,_,rfl,PT.Mw p a,rfl⟩
 |p::q::r,a=>fE.2 ⟨_,_,rfl,PT.Mw p a.1,RT.Mw _ a.2⟩
theorem RT.Cr: ∀(r:List PT) (a:RT r),(RT.pv r a).length=adc r
 | [],_=>rfl
 | [p],a=>rfl
 |p::q::r,a=>by simp [RT.pv,RT.Cr _ a.2]
theorem RT.Og: ∀(r:List PT) (a:RT r),(RT.sv r a).length=adc r
 | [],_=>rfl
 | [p],a=>rfl
 |p::q::r,a=>by simp [RT.sv,RT.Og _ a.2]
theorem Mx: ∀(n:Nat) {vs:List SV} {ps:List PV},wj vs=adh ps-> ∃p q,ps=p++q/\wj (vs.take n)=adh p/\wj (vs.drop n)=adh q
 |0,vs,ps,h=>⟨[],ps,rfl,by simp [wj],by simpa using h⟩
 |n+1,[],ps,h=>⟨[],ps,rfl,by simp [wj],by simpa using h⟩
 |n+1,v::vs,ps,h=>by obtain ⟨p,qs,rfl,h1,h2⟩:=fE.1 h;obtain ⟨a,b,rfl,h3,h4⟩:=Mx n h2;exact ⟨p::a,b,rfl,by exact fE.2 ⟨p,a,rfl,h1,h3⟩,by simpa using h4⟩
def bL.int (k:IntKind):bL Int where
 enc n:=[.int k n]
 dec vs:=match vs with
  | .int l n::r=>bif gM l k then adh (n,r) else adU
  |_=>adU
 law:=fun {vs a rest ps} h hp=>by
  split at h
  · rename_i l n r
    cases hk:gM l k with
    |false=>rw [hk] at h;cases h
    |true=>rw [hk] at h;simp only [v6,UV,abb] at h;obtain ⟨rfl,rfl⟩:=h;obtain ⟨p,qs,rfl,h1,h2⟩:=fE.1 hp;rw [gx.1 hk] at h1;exact ⟨[p],qs,rfl,fE.2 ⟨p,[],rfl,h1,rfl⟩,h2⟩
  cases h
def bL.bool:bL Bool where
 enc n:=[.bool n]
 dec vs:=match vs with
  | .bool n::r=>adh (n,r)
  |_=>adU
 law:=fun {vs a rest ps} h hp=>by
  split at h
  · simp only [UV,abb] at h
    obtain ⟨rfl,rfl⟩:=h;obtain ⟨p,qs,rfl,h1,h2⟩:=fE.1 hp;exact ⟨[p],qs,rfl,fE.2 ⟨p,[],rfl,h1,rfl⟩,h2⟩
  cases h
def UA (r:List PT):SV->Option (List (RT r))
 | .sl q l=>xo q r l
 | .nil e c=>bif EQ e (adc r)&&!c then adh [] else adU
 |_=>adU
theorem My {r:List PT} {v:SV} {l:List _} {p:PV} (h:UA r v=adh l) (hp:xq v=adh p):xq (.sl r l)=adh p:=by
 cases v with
 |sl q m=>obtain ⟨rfl,h2,_⟩:=FM h;rw [<- hp];simp [xq,h2]
 |nil e c=>
  simp [UA] at h;cases hc:(EQ e (adc r)&&!c) with
  |false=>grind
  |true=>rw [hc] at h;injection h with h;subst h;simp [] at hc;obtain ⟨rfl,rfl⟩:=hc;rw [<- hp];rfl
 |_=>cases h
def bL.sl (r:List PT):bL (List (RT r)) where
 enc l:=[.sl r l]
 dec vs:=match vs with
  |v::rest=>match UA r v with
   |some l=>adh (l,rest)
   |none=>adU
  | []=>adU
 law:=fun {vs a rest ps} h hp=>by
  split at h
  · split at h
    · rename_i v r' x l hl
      simp only [UV,abb] at h;obtain ⟨rfl,rfl⟩:=h;obtain ⟨p,qs,rfl,h1,h2⟩:=fE.1 hp;exact ⟨[p],qs,rfl,fE.2 ⟨p,[],rfl,My hl h1,rfl⟩,h2⟩
    cases h
  cases h
def bL.row (r:List PT):bL (RT r) where
 enc:=RT.sv r
 dec vs:=match RT.of r (vs.take (adc r)) with
  |some a=>adh (a,vs.drop (adc r))
  |none=>adU
 law:=fun {vs a rest ps} h hp=>by
  split at h
  · rename_i x hx
    simp only [UV,abb] at h;obtain ⟨rfl,rfl⟩:=h;obtain ⟨p,q,rfl,h1,h2⟩:=Mx (adc r) hp;rw [RT.uK hx] at h1;exact ⟨p,q,rfl,h1,h2⟩
  cases h
def bL.prod {α β:Type} (A:bL α) (B:bL β):bL (α×β) where
 enc p:=A.enc p.1++B.enc p.2
 dec vs:=match A.dec vs with
  |some p=>match B.dec p.2 with
   |some q=>adh ((p.1,q.1),q.2)
   |none=>adU
  |none=>adU
 law:=fun {vs a rest ps} h hp=>by
  split at h
  · rename_i p hA
    split at h
    · rename_i q hB
      simp only [UV,abb] at h;obtain ⟨rfl,rfl⟩:=h;obtain ⟨p1,p2,rfl,h1,h2⟩:=A.law (a:=p.1) (rest:=p.2) hA hp;obtain ⟨q1,q2,rfl,h3,h4⟩:=B.law (a:=q.1) (rest:=q.2) hB h2;exact ⟨p1++q1,q2,by simp,EI h1 h3,h4⟩
    cases h
  cases h
def bL.H4 {α β:Type} (A:bL α) (f:α->β) (g:β->α) (h: ∀a,g (f a)=a):bL β where
 enc b:=A.enc (g b)
 dec vs:=match A.dec vs with
  |some p=>adh (f p.1,p.2)
  |none=>adU
 law:=fun {vs a rest ps} hd hp=>by
  split at hd
  · rename_i p hA
    simp only [UV,abb] at hd;obtain ⟨rfl,rfl⟩:=hd;rw [h];exact A.law hA hp
  cases hd
def Arg.int (k:IntKind):Arg Int where
 enc n:= .int k n
 dec v:=match v with
  | .int l n=>bif gM l k then adh n else adU
  |_=>adU
 law:=fun {v a p} h hp=>by
  split at h
  · rename_i l n
    cases hk:gM l k with
    |false=>rw [hk] at h;cases h
    |true=>rw [hk] at h;injection h with h;subst h;rw [gx.1 hk] at hp;exact hp
  cases h
def Arg.bool:Arg Bool where
 enc n:= .bool n
 dec v:=match v with
  | .bool n=>adh n
  |_=>adU
 law:=fun {v a p} h hp=>by
  split at h
  · injection h with h;subst h;exact hp
  cases h
def Arg.sl (r:List PT):Arg (List (RT r)) where
 enc l:= .sl r l
 dec:=UA r
 law:=My
def Arg.agg {α:Type} (A:bL α):Arg α where
 enc a:= .agg (A.enc a)
 dec v:=match v with
  | .agg cs=>match A.dec cs with
   |some p=>match p.2 with
    | []=>adh p.1
    |_=>adU
   |none=>adU
  |_=>adU
 law:=fun {v a p} h hp=>by
  split at h
  · rename_i cs
    split at h
    · rename_i q hA
      obtain ⟨x,rest⟩:=q;dsimp only at h;cases rest with
      |cons _ _=>cases h
      |nil=>
       injection h with h;subst h;simp only [xq] at hp;cases hc:wj cs with
       |none=>rw [hc] at hp;cases hp
       |some l=>rw [hc] at hp;injection hp with hp;subst hp;obtain ⟨p1,p2,rfl,h1,h2⟩:=A.law hA hc;simp only [wj,UV] at h2;subst h2;simp only [xq,h1,aby]
    cases h
  cases h
def Arg.ref {α:Type} (A:bL α):Arg α where
 enc a:= .bR (A.enc a) 0
 dec v:=match v with
  | .bR cs 0=>match A.dec cs with
   |some p=>match p.2 with
    | []=>adh p.1
    |_=>adU
   |none=>adU
  |_=>adU
 law:=fun {v a p} h hp=>by
  split at h
  · rename_i cs
    split at h
    · rename_i q hA
      obtain ⟨x,rest⟩:=q;dsimp only at h;cases rest with
      |cons _ _=>cases h
      |nil=>
       injection h with h;subst h;simp only [xq] at hp;cases hc:wj cs with
       |none=>rw [hc] at hp;cases hp
       |some l=>rw [hc] at hp;injection hp with hp;subst hp;obtain ⟨p1,p2,rfl,h1,h2⟩:=A.law hA hc;simp only [wj,UV] at h2;subst h2;simp only [xq,h1,aby]
    cases h
  cases h
def bJ.nil:bJ Unit where
 enc _:=[]
 dec vs:=match vs with
  | []=>adh ()
  |_=>adU
 law:=fun {vs a ps} h hp=>by
  split at h
  · exact hp
  cases h
def bJ.one {α:Type} (A:Arg α):bJ α where
 enc a:=[A.enc a]
 dec vs:=match vs with
  | [v]=>A.dec v
  |_=>adU
 law:=fun {vs a ps} h hp=>by
  split at h
  · obtain ⟨p,qs,rfl,h1,h2⟩:=fE.1 hp
    exact fE.2 ⟨p,qs,rfl,A.law h h1,h2⟩
  cases h
def bJ.cons {α β:Type} (A:Arg α) (B:bJ β):bJ (α×β) where
 enc a:=A.enc a.1::B.enc a.2
 dec vs:=match vs with
  |v::r=>match A.dec v with
   |some x=>match B.dec r with
    |some y=>adh (x,y)
    |none=>adU
   |none=>adU
  | []=>adU
 law:=fun {vs a ps} h hp=>by
  split at h
  · split at h
    · rename_i x hx
      split at h
      · rename_i y hy
        injection h with h;subst h;obtain ⟨p,qs,rfl,h1,h2⟩:=fE.1 hp;exact fE.2 ⟨p,qs,rfl,A.law hx h1,B.law hy h2⟩
      cases h
    cases h
  cases h
def Arg.cV {α:Type} (A:bJ α):Arg α where
 enc a:= .cV (A.enc a)
 dec v:=match v with
  | .cV vs=>A.dec vs
  |_=>adU
 law:=fun {v a p} h hp=>by
  split at h
  · rename_i vs
    simp only [xq] at hp;cases hc:wj vs with
    |none=>rw [hc] at hp;cases hp
    |some l=>rw [hc] at hp;injection hp with hp;subst hp;simp only [xq,A.law h hc]
  cases h
def Arg.fx {α:Type} (f:FuncId) (A:bJ α):Arg α where
 enc a:= .fx f [] (A.enc a)
 dec v:=match v with
  | .fx g [] b=>bif EQ g f then A.dec b else adU
  |_=>adU
 law:=fun {v a p} h hp=>by
  split at h
  · rename_i g b
    cases hg:EQ g f with
    |false=>rw [hg] at h;cases h
    |true=>
     rw [hg] at h;have:=Nat.eq_of_beq_eq_true hg;subst this;simp only [xq,wj] at hp ⊢;cases hc:wj b with
     |none=>rw [hc] at hp;cases hp
     |some l=>rw [hc] at hp;rw [A.law h hc];exact hp
  cases h
def D7.rows {α:Type} (A:Arg α) (q r:List PT) (g:α->List (RT q)) (fn:List (RT q)->Option (List (RT r))):D7:=⟨.one A,.sl r,fun a=>fn (g a),.own,adW⟩
def D7.clone (r:List PT):D7:=⟨.one (.sl r),.sl r,cw,.own,adW⟩
def tX (a b c:Int):Option (Int×Int):=bif adX (0<=a)&&adX (0<=b)&&adX (0<=c)&&adX (c<=1) then adh ((a+b+c)%18446744073709551616,(a+b+c) / 18446744073709551616) else adU
def D7.UB:D7:=⟨.cons (.int .u64) (.cons (.int .u64) (.one (.int .u64))),.cV (.cons (.int .u64) (.one (.int .u64))),fun a=>tX a.1 a.2.1 a.2.2,.pure,adW⟩
def Mz:List (Nat×D7)->FuncId->List D7
 | [],_=>[]
 |(g,c)::r,f=>bif EQ g f then c::Mz r f else Mz r f
def MA:List (Nat×fb)->FuncId->List fb
 | [],_=>[]
 |(g,c)::r,f=>bif EQ g f then c::MA r f else MA r f
def J0:List (Nat×Cd)->FuncId->Option Cd
 | [],_=>adU
 |(g,c)::r,f=>bif EQ g f then adh c else J0 r f
def BU (lp:Option Nat) (c:List (Nat×D7)) (p:List (Nat×fb)) (x:List (Nat×Cd)) (rk:List (Nat×List PT)):Ctx:=⟨lp,Mz c,MA p,J0 x,rk,adW⟩
def aev (lp:Option Nat) (c:List (Nat×D7)) (p:List (Nat×fb)) (x:List (Nat×Cd)) (rk:List (Nat×List PT)):Ctx:=⟨lp,Mz c,MA p,J0 x,rk,adV⟩
end Go.Vm
/- What a typed value says of a value of the logical machine. -/
namespace Go.Vm
def OwnAt (s:List SB) (t e n:Nat):Prop:=(∃r l,s[t]? =adh (.arr r l)/\e=adc r/\n=adc l)\/s[t]? =adh .dead
def D9 (s:List SB) (t e:Nat):Prop:=(∃r l,s[t]? =adh (.arr r l)/\e=adc r)\/s[t]? =adh .dead\/(∃cs,s[t]? =adh (.box cs)/\e=1)
def YQ (s:List SB) (t:Nat) (r:List PT) (i:Int) (a:RT r):Prop:=(∃l,s[t]? =adh (.arr r l)/\aD l i=adh a)\/s[t]? =adh .dead
def afQ (s:List SB) (t:Nat) (i:Int):Prop:=(∃r l,s[t]? =adh (.arr r l)/\(aD l i).isSome=adV)\/s[t]? =adh .dead
mutual
def R (s:List SB):SV->PV->Prop
 | .jM,_=>True
 | .undef,v=>v= .undef
 | .na,v=>v= .na
 | .eW,v=>v= .eW
 | .int k n,v=>v= .int k n
 | .bool b,v=>v= .bool b
 | .str x,v=>v= .str x
 | .agg cs,v=> ∃ps,v= .agg ps/\RL s cs ps
 | .cV cs,v=> ∃ps,v= .cV ps/\RL s cs ps
 | .sl r l,v=>v= .sl (adc r) adW (l.map (RT.pv r))
 | .nil e c,v=>v= .sl e c []
 | .own t ex,v=> ∃e n,v= .own t e 0 n n ex/\OwnAt s t e n
 | .pre t len cap ex,v=> ∃e,v= .own t e 0 len cap ex/\D9 s t e
 | .part t off len cap ex,v=> ∃e,v= .own t e off len cap ex/\D9 s t e
 | .pa t r i a off,v=>v= .ptr t (adc r) i.toNat off/\YQ s t r i a
 | .pb t i off,v=> ∃e,v= .ptr t e i.toNat off/\afQ s t i
 | .bp t n off,v=>v= .ptr t n 0 off
 | .bR cs off,v=> ∃ps,v= .bR ps off/\RL s cs ps
 | .fx f a b,v=> ∃pa pb,v= .fx f pa pb/\RL s a pa/\RL s b pb
 | .mp t,v=>v= .mp t
def RL (s:List SB):List SV->List PV->Prop
 | [],ps=>ps=[]
 |x::xs,ps=> ∃p q,ps=p::q/\R s x p/\RL s xs q
end
def xW:List Int->PV
 | [a]=> .int .i64 a
 |l=> .agg (l.map (.int .i64))
def G6 (k:List Int):PV×PV:=(xW k,.bool adV)
def J1 (p:PT) (a:RT [.i .i64,p]):PV×PV:=(.int .i64 a.1,p.pv a.2)
def RB (s:List SB):SB->om->Prop
 | .arr r l,b=>b= .arr (adc r) (l.map (RT.pv r))
 | .box cs,b=> ∃ps,b= .box ps/\RL s cs ps
 | .set l,b=>b= .map (l.map G6)
 | .nB p l,b=>b= .map (l.map (J1 p))
 | .dead,b=>b= .dead
structure cX (s:List SB) (p:cU):Prop where
 len:(adc p)=adc s
 at_: ∀(t:Nat) (b:SB),s[t]? =adh b-> ∃q,p[t]? =adh q/\RB s b q
def eQ (s:List SB):SE->Env->Prop
 | [],e=>e=[]
 |(t,v)::r,e=> ∃p q,e=(t,p)::q/\R s v p/\eQ s r q
structure Dp (st:tT) (p:St):Prop where
 env:eQ st.aA st.env p.env
 aA:cX st.aA p.aA
 fz:p.fz=st.fz
 kn:p.kn=st.kn
theorem pY: ∀(s l:List SB),apS s l=s++l
 | [],_=>rfl
 |b::r,l=>by simp [apS,pY r l]
theorem FN: ∀(s:List SB) (t:Nat) (b:SB),YL s t b=s.set t b
 | [],_,_=>by simp [YL]
 |_::_,0,_=>rfl
 |x::r,n+1,b=>by simp [YL,FN r n b]
theorem RL.nil {s:List SB}:RL s [] []:=rfl
theorem RL.cons {s:List SB} {x:SV} {xs:List SV} {p:PV} {q:List PV} (h:R s x p) (k:RL s xs q):RL s (x::xs) (p::q):=⟨p,q,rfl,h,k⟩
theorem RL.cons_inv {s:List SB} {x:SV} {xs:List SV} {ps:List PV} (h:RL s (x::xs) ps): ∃p q,ps=p::q/\R s x p/\RL s xs q:=h
theorem RL.qA {s:List SB}: ∀{xs:List SV} {ps:List PV},RL s xs ps->adc ps=adc xs
 | [],ps,h=>by rw [h];rfl
 |x::xs,ps,h=>by obtain ⟨p,q,rfl,_,h2⟩:=h.cons_inv;simp [h2.qA]
theorem RL.append {s:List SB}: ∀{xs:List SV} {ps:List PV},RL s xs ps-> ∀{ys:List SV} {qs:List PV},RL s ys qs->RL s (xs++ys) (ps++qs)
 | [],ps,h,_,_,k=>by rw [h];exact k
 |x::xs,ps,h,_,_,k=>by obtain ⟨p,q,rfl,h1,h2⟩:=h.cons_inv;exact RL.cons h1 (h2.append k)
theorem RL.take {s:List SB}: ∀{xs:List SV} {ps:List PV},RL s xs ps-> ∀n,RL s (xs.take n) (ps.take n)
 | [],ps,h,n=>by rw [h];simp;exact RL.nil
 |x::xs,ps,h,0=>by rfl
 |x::xs,ps,h,n+1=>by obtain ⟨p,q,rfl,h1,h2⟩:=h.cons_inv;exact RL.cons h1 (h2.take n)
theorem RL.drop {s:List SB}: ∀{xs:List SV} {ps:List PV},RL s xs ps-> ∀n,RL s (xs.drop n) (ps.drop n)
 | [],ps,h,n=>by rw [h];simp;exact RL.nil
 |x::xs,ps,h,0=>h
 |x::xs,ps,h,n+1=>by obtain ⟨p,q,rfl,h1,h2⟩:=h.cons_inv;exact h2.drop n
theorem RL.nth {s:List SB}: ∀{xs:List SV} {ps:List PV},RL s xs ps-> ∀{n:Nat} {v:SV},Vm.nth xs n=adh v-> ∃p,ps[n]? =adh p/\R s v p
 | [],_,_,_,_,e=>by cases e
 |x::xs,ps,h,0,v,e=>by obtain ⟨p,q,rfl,h1,_⟩:=h.cons_inv;injection e with e;grind
 |x::xs,ps,h,n+1,v,e=>by
  obtain ⟨p,q,rfl,_,h2⟩:=h.cons_inv;obtain ⟨p',h3,h4⟩:=h2.nth e
  grind
mutual
theorem SH (s:List SB): ∀v:PV,R s (abV v) v
 | .undef=>rfl
 | .na=>rfl
 | .eW=>rfl
 | .int _ _=>rfl
 | .bool _=>rfl
 | .str _=>rfl
 | .agg cs=>⟨cs,rfl,AG s cs⟩
 | .cV cs=>⟨cs,rfl,AG s cs⟩
 | .sl e c rows=>by
  cases rows with
  |nil=>exact rfl
  |cons _ _=>trivial
 | .fx f a b=>⟨a,b,rfl,AG s a,AG s b⟩
 | .own .. =>trivial
 | .ptr .. =>trivial
 | .bR .. =>trivial
 | .mp _=>trivial
theorem AG (s:List SB): ∀l:List PV,RL s (FH l) l
 | []=>rfl
 |x::xs=>RL.cons (SH s x) (AG s xs)
end
theorem eQ.lk {s:List SB}: ∀{e:SE} {p:Env},eQ s e p-> ∀t,R s (HV t e) (Vm.lk t p)
 | [],p,h,t=>by rw [h];rfl
 |(u,v)::r,p,h,t=>by
  obtain ⟨q,qs,rfl,h1,h2⟩:=h;simp only [HV,Vm.lk];cases hb:EQ u t with
  |true=>exact h1
  |false=>exact eQ.lk h2 t
theorem eQ.ED {s:List SB}: ∀{e:SE} {p:Env},eQ s e p-> ∀{t:Nat} {v:SV},R s v (Vm.lk t p)->eQ s (Vm.ED t v e) p
 | [],p,h,t,v,_=>h
 |(u,x)::r,p,h,t,v,hv=>by
  obtain ⟨q,qs,rfl,h1,h2⟩:=h;simp [Vm.ED];simp only [Vm.lk] at hv;cases hb:EQ u t with
  |true=>rw [hb] at hv;exact ⟨q,qs,rfl,hv,h2⟩
  |false=>rw [hb] at hv;exact ⟨q,qs,rfl,h1,eQ.ED h2 hv⟩
theorem eK {s:List SB} {e:SE} {p:Env} (h:eQ s e p): ∀x:gR,R s (cq e x) (x.ev p)
 | .t n=>h.lk n
 | .c v=>SH s v
theorem Dq {s:List SB} {e:SE} {p:Env} (h:eQ s e p): ∀l:List gR,RL s (mH e l) (Lz p l)
 | []=>rfl
 |x::xs=>RL.cons (eK h x) (Dq h xs)
def Fr (bad:List Nat) (s s':List SB):Prop:= ∀(t:Nat) (b:SB),s[t]? =adh b->match b with
 | .arr r l=>(∃l',s'[t]? =adh (.arr r l')/\adc l'=adc l/\(has bad t=adW->l'=l))\/s'[t]? =adh .dead
 | .dead=>s'[t]? =adh .dead
 | .box _=>(∃cs,s'[t]? =adh (.box cs))\/s'[t]? =adh .dead
 |_=>True
theorem Fr.refl (bad:List Nat) (s:List SB):Fr bad s s:=fun t b h=>by
 grind
theorem Fr.app (bad:List Nat) (s l:List SB):Fr bad s (s++l):=fun t b h=>by
 grind
theorem Fr.trans {bad:List Nat} {a b c:List SB} (h:Fr bad a b) (k:Fr bad b c):Fr bad a c:=fun t x hx=>by
 have h1:=h t x hx;cases x with
 |arr r l=>
  rcases h1 with ⟨l',h2,h3,h4⟩|h2
  · have k1:=k t _ h2
    grind
  exact .inr (k t _ h2)
 |dead=>exact k t _ h1
 |box cs=>
  rcases h1 with ⟨c2,h2⟩|h2
  · exact k t _ h2
  exact .inr (k t _ h2)
 |_=>trivial
theorem H5 {α:Type} {l m:List α} {i:Int} (h:(aD l i).isSome=adV) (hl:(adc m)=adc l):(aD m i).isSome=adV:=by
 cases i with
 |ofNat n=>
  simp [aD] at h ⊢
  grind
 |negSucc n=>simp [aD] at h
mutual
theorem R.fr {bad:List Nat} {s s':List SB} (hf:Fr bad s s'): ∀{v:SV} {p:PV},R s v p->R s' (dgV bad v) p
 | .jM,_,_=>trivial
 | .undef,_,h=>h
 | .na,_,h=>h
 | .eW,_,h=>h
 | .int _ _,_,h=>h
 | .bool _,_,h=>h
 | .str _,_,h=>h
 | .agg cs,_,h=>by obtain ⟨ps,rfl,h⟩:=h;exact ⟨ps,rfl,RL.fr hf h⟩
 | .cV cs,_,h=>by obtain ⟨ps,rfl,h⟩:=h;exact ⟨ps,rfl,RL.fr hf h⟩
 | .sl _ _,_,h=>h
 | .nil _ _,_,h=>h
 | .own t ex,_,h=>by
  obtain ⟨e,n,rfl,h⟩:=h;refine ⟨e,n,rfl,?_⟩;rcases h with ⟨r,l,h1,h2,h3⟩|h1
  · rcases hf t _ h1 with ⟨l',k1,k2,_⟩|k1
    · exact .inl ⟨r,l',k1,h2,by rw [h3,k2]⟩
    exact .inr k1
  exact .inr (hf t _ h1)
 | .pre t len cap ex,_,h=>by
  obtain ⟨e,rfl,h⟩:=h;refine ⟨e,rfl,?_⟩;rcases h with ⟨r,l,h1,h2⟩|h1|⟨cs,h1,h2⟩
  · rcases hf t _ h1 with ⟨l',k1,_,_⟩|k1
    · exact .inl ⟨r,l',k1,h2⟩
    exact .inr (.inl k1)
  · exact .inr (.inl (hf t _ h1))
  rcases hf t _ h1 with ⟨c2,k1⟩|k1
  · exact .inr (.inr ⟨c2,k1,h2⟩)
  exact .inr (.inl k1)
 | .part t off len cap ex,_,h=>by
  obtain ⟨e,rfl,h⟩:=h;refine ⟨e,rfl,?_⟩;rcases h with ⟨r,l,h1,h2⟩|h1|⟨cs,h1,h2⟩
  · rcases hf t _ h1 with ⟨l',k1,_,_⟩|k1
    · exact .inl ⟨r,l',k1,h2⟩
    exact .inr (.inl k1)
  · exact .inr (.inl (hf t _ h1))
  rcases hf t _ h1 with ⟨c2,k1⟩|k1
  · exact .inr (.inr ⟨c2,k1,h2⟩)
  exact .inr (.inl k1)
 | .pa t r i a off,_,h=>by
  obtain ⟨rfl,h⟩:=h;simp [dgV];cases hb:has bad t with
  |true=>
   refine ⟨_,rfl,?_⟩;rcases h with ⟨l,h1,h2⟩|h1
   · rcases hf t _ h1 with ⟨l',k1,k2,_⟩|k1
     · exact .inl ⟨r,l',k1,H5 (by rw [h2];rfl) k2⟩
     exact .inr k1
   exact .inr (hf t _ h1)
  |false=>
   refine ⟨rfl,?_⟩;rcases h with ⟨l,h1,h2⟩|h1
   · rcases hf t _ h1 with ⟨l',k1,_,k3⟩|k1
     · exact .inl ⟨l',k1,by grind⟩
     exact .inr k1
   exact .inr (hf t _ h1)
 | .pb t i off,_,h=>by
  obtain ⟨e,rfl,h⟩:=h;refine ⟨e,rfl,?_⟩;rcases h with ⟨r,l,h1,h2⟩|h1
  · rcases hf t _ h1 with ⟨l',k1,k2,_⟩|k1
    · exact .inl ⟨r,l',k1,H5 h2 k2⟩
    exact .inr k1
  exact .inr (hf t _ h1)
 | .bp _ _ _,_,h=>h
 | .bR cs off,_,h=>by obtain ⟨ps,rfl,h⟩:=h;exact ⟨ps,rfl,RL.fr hf h⟩
 | .fx f a b,_,h=>by obtain ⟨pa,pb,rfl,h1,h2⟩:=h;exact ⟨pa,pb,rfl,RL.fr hf h1,RL.fr hf h2⟩
 | .mp _,_,h=>h
theorem RL.fr {bad:List Nat} {s s':List SB} (hf:Fr bad s s'): ∀{v:List SV} {p:List PV},RL s v p->RL s' (YK bad v) p
 | [],_,h=>h
 |x::xs,_,h=>by obtain ⟨p,q,rfl,h1,h2⟩:=h.cons_inv;exact RL.cons (R.fr hf h1) (RL.fr hf h2)
end
mutual
theorem UC: ∀v:SV,dgV [] v=v
 | .jM| .undef| .na| .eW| .int _ _| .bool _| .str _| .sl _ _| .nil _ _| .own _ _| .pre _ _ _ _| .part _ _ _ _ _| .pb _ _ _| .bp _ _ _| .mp _=>rfl
 | .agg cs=>by simp [dgV,yk cs]
 | .cV cs=>by simp [dgV,yk cs]
 | .bR cs _=>by simp [dgV,yk cs]
 | .fx _ a b=>by simp [dgV,yk a,yk b]
 | .pa t r i a off=>by simp [dgV,has]
theorem yk: ∀v:List SV,YK [] v=v
 | []=>rfl
 |x::xs=>by simp [YK,UC x,yk xs]
end
theorem R.ext {s s':List SB} (hf:Fr [] s s') {v:SV} {p:PV} (h:R s v p):R s' v p:=by
 have:=R.fr hf h
 rwa [UC] at this
theorem RL.ext {s s':List SB} (hf:Fr [] s s') {v:List SV} {p:List PV} (h:RL s v p):RL s' v p:=by
 have:=RL.fr hf h
 rwa [yk] at this
theorem RB.fr {bad:List Nat} {s s':List SB} (hf:Fr bad s s') {b:SB} {p:om} (h:RB s b p):RB s' (dgB bad b) p:=by
 cases b with
 |box cs=>obtain ⟨ps,rfl,h⟩:=h;exact ⟨ps,rfl,RL.fr hf h⟩
 |_=>exact h
theorem RB.ext {s s':List SB} (hf:Fr [] s s') {b:SB} {p:om} (h:RB s b p):RB s' b p:=by
 cases b with
 |box cs=>obtain ⟨ps,rfl,h⟩:=h;exact ⟨ps,rfl,RL.ext hf h⟩
 |_=>exact h
theorem eQ.fr {bad:List Nat} {s s':List SB} (hf:Fr bad s s'): ∀{e:SE} {p:Env},eQ s e p->eQ s' (dgE bad e) p
 | [],_,h=>h
 |(t,v)::r,_,h=>by obtain ⟨p,q,rfl,h1,h2⟩:=h;exact ⟨p,q,rfl,R.fr hf h1,eQ.fr hf h2⟩
theorem eQ.ext {s s':List SB} (hf:Fr [] s s'): ∀{e:SE} {p:Env},eQ s e p->eQ s' e p
 | [],_,h=>h
 |(t,v)::r,_,h=>by obtain ⟨p,q,rfl,h1,h2⟩:=h;exact ⟨p,q,rfl,R.ext hf h1,eQ.ext hf h2⟩
theorem cX.app {s:List SB} {p:cU} (h:cX s p) {l:List SB} {q:cU} (hl:(adc q)=adc l) (hb: ∀(j:Nat) (b:SB),l[j]? =adh b-> ∃x,q[j]? =adh x/\RB (s++l) b x):cX (s++l) (p++q) where
 len:=by simp [h.len,hl]
 at_:=fun t b ht=>by
  rcases aaE t (adc s) with iz|hge
  · rw [NE iz] at ht
    obtain ⟨x,h1,h2⟩:=h.at_ t b ht;exact ⟨x,by grind,h2.ext (Fr.app [] s l)⟩
  rw [aa9 hge] at ht
  obtain ⟨x,h1,h2⟩:=hb _ b ht;exact ⟨x,by rw [aa9 (by rw [h.len];exact hge),h.len];exact h1,h2⟩
theorem wJ (ts:List Nat): ∀(s:List SB) (t:Nat),(IH ts s)[t]? =(s[t]?).map (dgB ts)
 | [],t=>by simp [IH]
 |b::r,0=>by simp [IH]
 |b::r,t+1=>by simp [IH,wJ ts r t]
theorem AH (ts:List Nat): ∀(s:List SB),(IH ts s).length=adc s
 | []=>rfl
 |b::r=>by simp [IH,AH ts r]
theorem Fr.dg {bad ts:List Nat} {s s':List SB} (h:Fr bad s s'):Fr bad s (IH ts s'):=fun t b hb=>by
 have h1:=h t b hb;cases b with
 |arr r l=>
  rcases h1 with ⟨l',h2,h3,h4⟩|h2
  · exact .inl ⟨l',by rw [wJ,h2];rfl,h3,h4⟩
  exact .inr (by rw [wJ,h2];rfl)
 |dead=>rw [wJ,h1];rfl
 |box cs=>
  rcases h1 with ⟨c2,h2⟩|h2
  · exact .inl ⟨YK ts c2,by rw [wJ,h2];rfl⟩
  exact .inr (by rw [wJ,h2];rfl)
 |_=>trivial
theorem MB {s:List SB}: ∀(r:List PT) (a:RT r),RL s (RT.sv r a) (RT.pv r a)
 | [],_=>rfl
 | [p],a=>by refine RL.cons ?_ RL.nil;cases p<;>rfl
 |p::q::r,a=>by refine RL.cons ?_ (MB (q::r) a.2);cases p<;>rfl
theorem Dr {s:List SB}: ∀(r:List PT) (a:RT r) {ps:List PV},RL s (RT.sv r a) ps->ps=RT.pv r a
 | [],_,ps,h=>h
 | [p],a,ps,h=>by obtain ⟨x,q,rfl,h1,h2⟩:=h.cons_inv;have h2':=h2;subst h2';cases p<;>(have YR:=h1;rw [YR];rfl)
 |p::q::r,a,ps,h=>by obtain ⟨x,qs,rfl,h1,h2⟩:=h.cons_inv;rw [Dr (q::r) a.2 h2];cases p<;>(have YR:=h1;rw [YR];rfl)
theorem RT.plain: ∀(r:List PT) (a:RT r),(RT.pv r a).all PV.plain=adV
 | [],_=>rfl
 | [p],a=>by cases p<;>rfl
 |p::q::r,a=>by have:=RT.plain (q::r) a.2;cases p<;>(assumption)
theorem R.cells {s:List SB} {v:SV} {p:PV} (h:R s v p) (hj:v≠ .jM):RL s v.cells p.cells:=by
 cases v with
 |jM=>grind
 |agg cs=>obtain ⟨ps,rfl,h⟩:=h;exact h
 |undef=>rw [h];exact RL.cons rfl RL.nil
 |na=>rw [h];exact RL.cons rfl RL.nil
 |eW=>rw [h];exact RL.cons rfl RL.nil
 |int k n=>rw [h];exact RL.cons rfl RL.nil
 |bool b=>rw [h];exact RL.cons rfl RL.nil
 |str x=>rw [h];exact RL.cons rfl RL.nil
 |sl r l=>rw [h];exact RL.cons rfl RL.nil
 |nil e c=>rw [h];exact RL.cons rfl RL.nil
 |bp t n o=>rw [h];exact RL.cons rfl RL.nil
 |mp t=>rw [h];exact RL.cons rfl RL.nil
 |cV cs=>obtain ⟨ps,rfl,h⟩:=h;exact RL.cons ⟨ps,rfl,h⟩ RL.nil
 |own t ex=>obtain ⟨e,n,rfl,h⟩:=h;exact RL.cons ⟨e,n,rfl,h⟩ RL.nil
 |pre t a b c=>obtain ⟨e,rfl,h⟩:=h;exact RL.cons ⟨e,rfl,h⟩ RL.nil
 |part t o a b c=>obtain ⟨e,rfl,h⟩:=h;exact RL.cons ⟨e,rfl,h⟩ RL.nil
 |pa t r i a o=>obtain ⟨rfl,h⟩:=h;exact RL.cons ⟨rfl,h⟩ RL.nil
 |pb t i o=>obtain ⟨e,rfl,h⟩:=h;exact RL.cons ⟨e,rfl,h⟩ RL.nil
 |bR cs o=>obtain ⟨ps,rfl,h⟩:=h;exact RL.cons ⟨ps,rfl,h⟩ RL.nil
 |fx f a b=>obtain ⟨pa,pb,rfl,h⟩:=h;exact RL.cons ⟨pa,pb,rfl,h⟩ RL.nil
theorem R.wa {s:List SB} {v:SV} {p:PV} (h:R s v p) (ho:v.wa=adV):p.wa=adV:=by
 cases v with
 |jM|undef|na|agg _|cV _=>cases ho
 |eW|int _ _|bool _|str _|sl _ _|nil _ _|bp _ _ _|mp _=>rw [h];rfl
 |own t ex=>obtain ⟨e,n,rfl,h⟩:=h;rfl
 |pre t a b c=>obtain ⟨e,rfl,h⟩:=h;rfl
 |part t o a b c=>obtain ⟨e,rfl,h⟩:=h;rfl
 |pa t r i a o=>obtain ⟨rfl,h⟩:=h;rfl
 |pb t i o=>obtain ⟨e,rfl,h⟩:=h;rfl
 |bR cs o=>obtain ⟨ps,rfl,h⟩:=h;rfl
 |fx f a b=>obtain ⟨pa,pb,rfl,h⟩:=h;rfl
theorem RL.Cl {s:List SB}: ∀{cs:List SV} {ps:List PV},RL s cs ps->Vm.Cl cs=adV->ps.all PV.wa=adV
 | [],ps,h,_=>by rw [h];rfl
 |x::xs,ps,h,ho=>by obtain ⟨p,q,rfl,h1,h2⟩:=h.cons_inv;simp [Vm.Cl,IR] at ho;simp only [List.all_cons,IR];exact ⟨h1.wa ho.1,h2.Cl ho.2⟩
theorem R.stored {s:List SB} {v:SV} {p:PV} {w:List SV} (h:R s v p) (hs:v.stored=adh w): ∃q,p.stored=adh q/\RL s w q:=by
 unfold SV.stored at hs;cases ha:Vm.Cl v.cells with
 |false=>grind
 |true=>
  rw [ha] at hs;injection hs with hs;subst hs;have hj:v≠ .jM:=by intro e;subst e;cases ha
  have hc:=h.cells hj;exact ⟨p.cells,by unfold PV.stored;rw [AC (hc.Cl ha)],hc⟩
theorem R.ofRow {s:List SB} {v:SV} {p:PV} {r:List PT} {a:RT r} (h:R s v p) (hr:RT.of r v.cells=adh a):p.cW=adh (RT.pv r a)/\adc v.cells=(adc r):=by
 have hc:=RT.uK hr;have hl:(adc v.cells)=(adc r):=by rw [hc,RT.Og]
 refine ⟨?_,hl⟩;have hj:v≠ .jM:=by
  intro e;subst e;cases r with
  |nil=>simp [SV.cells,RT.of] at hr
  |cons p q=>cases q with
   |nil=>cases p<;>simp [SV.cells,RT.of,PT.of] at hr
   |cons _ _=>simp only [SV.cells,RT.of] at hr;grind
 have h1:=h.cells hj;rw [hc] at h1;have h2:=Dr r a h1;unfold PV.cW;rw [h2,AC (RT.plain r a)]
theorem yl {s:List SB} {agg:Option Nat} {off:Nat} {cs:List SV} {ps:List PV} {v:SV} (h:RL s cs ps) (hp:D5 agg off cs=adh v): ∃p,part agg off ps=adh p/\R s v p:=by
 cases agg with
 |none=>obtain ⟨p,h1,h2⟩:=h.nth hp;exact ⟨p,h1,h2⟩
 |some n=>
  simp [D5] at hp;cases hb:aba (off+n) (adc cs) with
  |false=>grind
  |true=>
   rw [hb] at hp;injection hp with hp;subst hp;have:off+n<=(adc ps):=by rw [h.qA];simp_all
   exact ⟨.agg ((ps.drop off).take n),by simp [part,AC this],_,rfl,(h.drop off).take n⟩
theorem Ds {s:List SB} {off:Nat} {new old:List SV} {pn po:List PV} (h:RL s new pn) (k:RL s old po):RL s (wE off new old) (vQ off pn po):=by unfold wE vQ;rw [h.qA];exact ((k.take off).append h).append (k.drop _)
theorem UD {s:List SB} {ps:cU} {v:SV} {p:PV} {r:List PT} {l:List (RT r)} (hs:cX s ps) (h:R s v p) (hc:D6 s v=adh ⟨r,l⟩):
 rowsOf ps (adc r) p=adh (l.map (RT.pv r))/\lZ p=IG v:=by
 cases v with
 |sl q m=>
  have IB:(⟨q,m⟩:Rows)=⟨r,l⟩:=by injection hc
  cases IB;rw [h];refine ⟨?_,rfl⟩;cases l with
  |nil=>rfl
  |cons a l=>simp [rowsOf]
 |own t ex=>
  simp [D6,cJ] at hc;split at hc
  · rename_i q m cO
    have IB:(⟨q,m⟩:Rows)=⟨r,l⟩:=by injection hc
    cases IB;obtain ⟨e,n,rfl,dH⟩:=h;rcases dH with ⟨q',m',h1,rfl,rfl⟩|h1
    · rw [cO] at h1
      injection h1 with h1;cases h1;obtain ⟨b,h2,h3⟩:=hs.at_ t _ cO;rw [h3] at h2;refine ⟨?_,rfl⟩;simp [rowsOf,ad8,if_true,h2,abD];rw [abc (by simp)]
    grind
  cases hc
 |pre t len cap ex=>
  simp [D6,cJ] at hc;split at hc
  · rename_i q m cO
    have IB:(⟨q,m.take len⟩:Rows)=⟨r,l⟩:=by injection hc
    cases IB;obtain ⟨e,rfl,dH⟩:=h;rcases dH with ⟨q',m',h1,rfl⟩|h1|⟨_,h1,_⟩
    · rw [cO] at h1
      injection h1 with h1;cases h1;obtain ⟨b,h2,h3⟩:=hs.at_ t _ cO;rw [h3] at h2;refine ⟨?_,rfl⟩;simp only [rowsOf,h2];simp
    · rw [cO] at h1;cases h1
    grind
  cases hc
 |part t off len cap ex=>
  simp [D6,cJ] at hc;split at hc
  · rename_i q m cO
    have IB:(⟨q,(m.drop off).take len⟩:Rows)=⟨r,l⟩:=by injection hc
    cases IB;obtain ⟨e,rfl,dH⟩:=h;rcases dH with ⟨q',m',h1,rfl⟩|h1|⟨_,h1,_⟩
    · rw [cO] at h1
      injection h1 with h1;cases h1;obtain ⟨b,h2,h3⟩:=hs.at_ t _ cO;rw [h3] at h2;refine ⟨?_,rfl⟩;simp only [rowsOf,h2];simp
    · rw [cO] at h1;cases h1
    grind
  cases hc
 |_=>cases hc
end Go.Vm
