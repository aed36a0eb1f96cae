/- The logical machine, part 2: VmCall3, VmFp, VmRun, VmInv, VmStep, VmShr, VmOp, VmReg, VmReg2, VmNorm, VmNorm2, VmCode, VmSound, VmPrim, VmIns, VmCat, VmTab, VmComp, VmLaw, VmSym, SvBase, SvDef. -/
import Derived.Test.YtbgoiokedpjgbaaGreatAVm1
import Derived.Orders
import Derived.Laws.Sem
import Derived.Laws.Externs
import Derived.Lib.SliceRun
import Derived.Laws.CopyRow
import Derived.ProofKit
import Derived.Carry
import Derived.OpenShut
import Derived.Deep.Slices
import Derived.Deep.Grids
open Bool renaming and_eq_true->pp,false_eq_true->NE,not_eq_true'->PP,or_eq_true->aeF,true->al9,false->ala
open List renaming getElem?_eq_getElem->rc,getElem?_eq_some_iff->ww,getElem?_append_left->AC,getElem?_append_right->IR,mem_append->ad6,all_eq_true->adz,mem_singleton->adC,length_append->adF,take_of_length_le->adG,append_assoc->adK,replicate->adL,mem_cons->adP,mem_cons_of_mem->ae7,flatMap_append->aeb,getD_eq_getElem?_getD->aej,pairwise_iff_getElem->ael,flatMap_cons->aev,getElem?_take_of_lt->aex,length_drop->aey,length_take->aez,drop_of_length_le->aeD,mem_append_right->aeK,getElem?_set_ne->aeS,mem_append_left->aeU,mem_of_mem_take->afe,mem_of_mem_drop->afi,nodup_append->aji,getElem?_set->ajj,any_eq_true->ak2,length_set->akN,drop_zero->al0,length->al3
open Option.some renaming injEq->ut,inj->aeE
open Nat renaming beq->v6,le_refl->EQ,lt_trichotomy->UV,lt_or_ge->acl,le_trans->ad5,ble->ady,zero_le->adA,eq_or_lt_of_le->adB,lt_of_lt_of_le->adJ,ble_eq->adN,blt->adQ,le_of_lt->aeh,add_mul->afc,mul_le_mul_right->afn,lt_or_gt_of_ne->aig,beq_eq->ajg,le_total->ajh,zero_add->al2
open Option renaming map_eq_some_iff->Do,some->al4,none->al5
open Prod.mk renaming injEq->If
open Array renaming getElem?_eq_some_iff->M2,getElem?_setIfInBounds->ad9,getD_eq_getD_getElem?->adc,getElem?_setIfInBounds_self_of_lt->adH,replicate->adI,getElem?_eq_getElem->aem,size_replicate->aeY,size_append->ak0,ext'->akT
open Int renaming ofNat_eq_natCast->ae8,ofNat->agd
open Go.Sem renaming run_bind->aei,run_pure->al1
open Go.Result renaming andThen_ok->aet
open Go.World renaming cell?->ak4
open Decidable renaming decide->alt
/- A pure call, whole. -/
namespace Go.Vm
structure vN (im:Im) (loc:Loc) (aD:cK) (w:World) (v:PV) (vO:cK) (Jn:List Nat) (eN:Im) (bz:Loc) (w':World) (u:Value):Prop where
 gX:oA im eN
 eh:mN loc bz
 vr:VR eN bz v u
 sr:SR eN bz vO Jn w'
 os:w'.os=w.os
 tape:Tape w w'
 output:w'.output=w.output
 size:w.heap.size<=w'.heap.size
 frame: ∀b,b<w.heap.size->(∀t li k,loc t=al4 li->aD[t]? =al4 k->k.bS=al9->li.dw≠b)->w'.heap[b]? =w.heap[b]?
 ew: ∀b o,eN b=al4 o->im b=al4 o\/w.heap.size<=b\/ ∃t li k,loc t=al4 li/\aD[t]? =al4 k/\k.bS=al9/\li.dw=b
 oq: ∀t li,bz t=al4 li->loc t=al4 li\/al3 aD<=t
 own: ∀t li k,bz t=al4 li->vO[t]? =al4 k->k.bS=al9->(w.heap.size<=li.dw\/ ∃u lu ku,loc u=al4 lu/\aD[u]? =al4 ku/\ku.bS=al9/\lu.dw=li.dw)
def uX (P:Program) (f:FuncId) (us:Array Value) (w:World) (R:Value->World->Prop):Prop:=
 (∃v w',(callFunc f us).run P w= .ok (.value v) w'/\R v w')\/
 ((callFunc f us).run P w= .ok (.enter f us) w/\Calls P f us w fun e w'=> ∃v,e= .returned v/\R v w')
theorem uX.mono {P:Program} {f:FuncId} {us:Array Value} {w:World} {R R':Value->World->Prop} (h:uX P f us w R) (hr: ∀v w',R v w'->R' v w'):uX P f us w R':=by
 rcases h with ⟨v,w',h1,h2⟩|⟨h1,h2⟩
 · exact .inl ⟨v,w',h1,hr _ _ h2⟩
 exact .inr ⟨h1,h2.mono fun e w' ⟨v,he,hv⟩=>⟨v,he,hr _ _ hv⟩⟩
def CT (P : Program) (rec : Task -> Option Out) : Prop :=
  ∀ (f : FuncId) (args : List PV) (aD : cK) (fz : List Nat) (v : PV) (vO : cK) (Jn : List Nat), rec (.func f args aD fz) = al4 (.func v vO Jn) ->
    ∀ (im : Im) (loc : Loc) (w : World) (us : List Value), SR im loc aD fz w -> fx im loc args us ->
      uX P f ⟨us⟩ w fun u w' => ∃ eN bz, vN im loc aD w v vO Jn eN bz w' u
def Jo (P : Program) (f : FuncId) (p : List PV -> Option (PV × cK)) : Prop :=
  ∀ (args : List PV) (v : PV) (news : cK), p args = al4 (v, news) -> ∀ (im : Im) (w : World) (us : List Value), SR im gz [] [] w -> fx im gz args us ->
    uX P f ⟨us⟩ w fun u w' => ∃ eN bz, vN im gz [] w v news [] eN bz w' u
def By (P : Program) (f : FuncId) (p : List PV -> cK -> List Nat -> Option (PV × cK × List Nat)) : Prop :=
  ∃ fn c, P.funcs[f]? = al4 fn /\ (fn.name == "runtime.NumGoroutine") = ala /\ fn.body = al4 c /\
    ∀ (args : List PV) (aD : cK) (fz : List Nat) (v : PV) (vO : cK) (Jn : List Nat), p args aD fz = al4 (v, vO, Jn) ->
      ∀ (im : Im) (loc : Loc) (w : World) (us : List Value), SR im loc aD fz w -> fx im loc args us ->
        uX P f ⟨us⟩ w fun u w' => ∃ eN bz, vN im loc aD w v vO Jn eN bz w' u
def zh (P:Program) (F:nv):Prop:=(∀f k p,F f=al4 (.kG k p)->k=ala/\Jo P f p)/\ ∀f p,F f=al4 (.Hi p)->By P f p
section
variable {P : Program} {F : nv} {rec : Task -> Option Out} {im : Im} {loc : Loc} {aD : cK} {w : World}
theorem SR.empty (h: ∀b o,im b=al4 o->w.heap[b]? =al4 o):SR im gz [] [] w where
 bL:=h
 dw:=fun t li h=>by cases h
 jc:=fun t u li lj k k' h=>by cases h
 free:=fun t li k h=>by cases h
theorem QP {r:ov} {v:PV} {u:Value} {oG:cK} {Hj:List Nat} {im0 Et:Im} {dB:Loc} {w1:World} (hk:jG im loc aD w r) (hr:r.v=v) (hn:r.news=[]) (hw:r.wr=[]) (hno:v.kU=al9)
 (hp:vN im0 gz [] w v oG Hj Et dB w1 u): ∃eN bz,VR eN bz r.v u/\tY im loc aD w r eN bz w1:=by
 refine ⟨im,loc,by rw [hr];exact K8 hno hp.vr,?_⟩;have sR: ∀b,b<w.heap.size->w1.heap[b]? =w.heap[b]?:=fun b hb=>hp.frame b hb fun t li k h=>by cases h
 exact {
  gX:= .refl _,eh:= .refl _
  bL:=fun b o h=>by have h1:=hk.bL b o h;have dV:b<w.heap.size:=(M2.1 h1).1;rw [sR b dV];exact h1
  ew:=fun _ _ h=> .inl h
  os:=hp.os,tape:=hp.tape,output:=hp.output,size:=hp.size
  frame:=fun b hb _=>sR b hb
  QC:=fun t k h=>by rw [hw] at h;cases h
  wr:=fun t k li h=>by rw [hw] at h;cases h
  lC:=fun _ _ h=> .inl h
  news:=fun j k li h=>by rw [hn] at h;simp at h
  distinct:=fun i j ki kj li lj h=>by rw [hn] at h;simp at h}
theorem S0 {r:ov} {v v':PV} {u:Value} {oG:cK} {Hj tk:List Nat} {Et:Im} {dB:Loc} {w1:World} (hr:r.v=v') (hn:r.news=[]) (hw:r.wr=[]) (hf:r.fr=tk)
 (hp:vN (grow im w (AG loc aD tk)) gz [] w v oG Hj Et dB w1 u) (hi:zb oG v=al4 v'): ∃eN bz,VR eN bz r.v u/\tY im loc aD w r eN bz w1:=by
 have sR: ∀b,b<w.heap.size->w1.heap[b]? =w.heap[b]?:=fun b hb=>hp.frame b hb fun t li k h=>by cases h
 let Eu:Im:=fun b=>match Et b with
  |some o=>al4 o
  |none=>if (AG dB oG (jv tM v)).contains b&&ady w.heap.size b then w1.heap[b]? else al5
 have lP:oA Et Eu:=fun b o h=>by simp only [Eu,h]
 have Ax: ∀b o,Eu b=al4 o->w1.heap[b]? =al4 o:=by
  intro b o h;simp only [Eu] at h;split at h
  · rename_i o' ho;injection h with h;subst h;exact hp.sr.bL b _ ho
  split at h
  · exact h
  cases h
 have amq: ∀t,t∈jv tM v->Over Et Eu dB oG w1 t:=by
  intro t ht li hl;obtain ⟨k,ij,sS⟩:=hp.sr.dw t li hl;refine ⟨k,ij,sS,fun hs=>?_⟩;have V8:w.heap.size<=li.dw:=by
   rcases hp.own t li k hl ij hs with h|⟨u,lu,ku,h,_⟩
   · exact h
   cases h
  simp only [Eu];split
  · rename_i o ho;exact (hp.sr.bL _ _ ho).symm
  rw [ls]
  simp only [pp,adN];exact ⟨by simpa using AH.2 ⟨t,li,k,ht,hl,ij,hs,rfl⟩,V8⟩
 refine ⟨Eu,loc,by rw [hr];exact SX lP amq hp.vr hi,?_⟩;exact {
  gX:=(Jj im w _).trans (hp.gX.trans lP),eh:= .refl _
  bL:=Ax
  ew:=fun b o h=>by
   simp only [Eu] at h;split at h
   · rename_i o' ho
     injection h with h;subst h;rcases hp.ew b _ ho with h1|h1|⟨t,li,k,h1,_⟩
     · rcases SU h1 with h2|h2
       · exact .inl h2
       obtain ⟨t,li,k,ht,hl,vI,hs,hb⟩:=AH.1 h2
       exact .inr (.inr ⟨t,li,k,by rw [hf];exact pX.2 ht,hl,vI,hs,hb⟩)
     · exact .inr (.inl h1)
     cases h1
   split at h
   · rename_i hc
     simp only [pp,adN] at hc;exact .inr (.inl hc.2)
   cases h
  os:=hp.os,tape:=hp.tape,output:=hp.output,size:=hp.size
  frame:=fun b hb _=>sR b hb
  QC:=fun t k h=>by rw [hw] at h;cases h
  wr:=fun t k li h=>by rw [hw] at h;cases h
  lC:=fun _ _ h=> .inl h
  news:=fun j k li h=>by rw [hn] at h;simp at h
  distinct:=fun i j ki kj li lj h=>by rw [hn] at h;simp at h}
theorem Ph {r:ov} {v v':PV} {u:Value} {oG:cK} {Hj seen':List Nat} {im0 Et:Im} {dB:Loc} {w1:World} {news:cK} (hk:jG im loc aD w r) (hr:r.v=v') (hn:r.news=news) (hw:r.wr=[])
 (hp:vN im0 gz [] w v oG Hj Et dB w1 u) (hi:zT oG Hj (al3 aD) [] v=al4 (v',news,seen')): ∃eN bz,VR eN bz r.v u/\tY im loc aD w r eN bz w1:=by
 have sR: ∀b,b<w.heap.size->w1.heap[b]? =w.heap[b]?:=fun b hb=>hp.frame b hb fun t li k h=>by cases h
 obtain ⟨K9,ts,h1,h2⟩:=SZ (fun t li hl=>hp.sr.dw t li hl) hp.vr hi
 let rq:Loc:=fun t=>if t<(al3 aD) then loc t else match K9[t-(al3 aD)]? with
  |some li=>al4 li
  |none=>loc t
 have Bt: ∀(j:Nat) (li:LI),K9[j]? =al4 li->rq (al3 aD+j)=al4 li:=by intro j li hj;simp only [rq];rw [lw (by omega),show (al3 aD)+j-(al3 aD)=j by omega,hj]
 have lP:mN loc rq:=by
  intro t li hl;simp only [rq];split
  · exact hl
  rename_i dV
  split
  · rename_i l2 KU
    have hj:=(ww.1 KU).1;have:=hk.fresh (t-(al3 aD)) (by rw [hn,<- h1.Jl];exact hj);rw [show (al3 aD)+(t-(al3 aD))=t by omega,hl] at this;cases this
  exact hl
 have hli: ∀(j:Nat) (k:ky),news[j]? =al4 k-> ∃li,K9[j]? =al4 li:=by intro j k hj;have:=(ww.1 hj).1;exact ⟨_,rc (by rw [h1.Jl];exact this)⟩
 have hts: ∀(j:Nat) (k:ky),news[j]? =al4 k->k.bS=al9-> ∃t,ts[j]? =al4 (al4 t):=by
  intro j k hj hs;have dV:=(ww.1 hj).1;cases hg:ts[j]? with
  |none=>have:=List.getElem?_eq_none_iff.1 hg;have:=h1.KM;omega
  |some x=>
   cases x with
   |some t=>exact ⟨t,rfl⟩
   |none=>rw [h1.dum j k hj hg] at hs;cases hs
 refine ⟨im,rq,by rw [hr];exact h2 im rq Bt,?_⟩;exact {
  gX:= .refl _,eh:=lP
  bL:=fun b o h=>by have h1:=hk.bL b o h;have dV:b<w.heap.size:=(M2.1 h1).1;rw [sR b dV];exact h1
  ew:=fun _ _ h=> .inl h
  os:=hp.os,tape:=hp.tape,output:=hp.output,size:=hp.size
  frame:=fun b hb _=>sR b hb
  QC:=fun t k h=>by rw [hw] at h;cases h
  wr:=fun t k li h=>by rw [hw] at h;cases h
  lC:=fun t li h=>by
   simp only [rq] at h;split at h
   · exact .inl h
   rename_i dV
   split at h
   · rename_i l2 KU
     have hj:=(ww.1 KU).1;exact .inr ⟨by omega,by rw [hn,<- h1.Jl];omega⟩
   exact .inl h
  news:=CK fun j k hj=>by
   rw [hn] at hj;obtain ⟨li,hl⟩:=hli j k hj;obtain ⟨⟨e,rows,rfl⟩,sS⟩:=h1.br j k li hj hl;refine ⟨li,Bt j li hl,sS,fun hs=>?_⟩;obtain ⟨t,ht⟩:=hts j _ hj hs;obtain ⟨a1,a2,a3,_,_⟩:=h1.own j _ li t hj hl ht;have V8:w.heap.size<=li.dw:=by
    rcases hp.own t li _ a1 a2 hs with h|⟨u,lu,ku,h,_⟩
    · exact h
    cases h
   refine ⟨?_,.inl V8⟩;cases hb:im li.dw with
   |none=>rfl
   |some o=>have:=(M2.1 (hk.bL _ _ hb)).1;omega
  distinct:=fun i j ki kj li lj uY hj' Wx QQ aqB aqC Sq=>by rw [hn] at uY hj';obtain ⟨l1,HU⟩:=hli i ki uY;obtain ⟨l2,KU⟩:=hli j kj hj';have e1:=Bt i l1 HU;have e2:=Bt j l2 KU;rw [aqB] at e1;rw [aqC] at e2;injection e1 with e1;injection e2 with e2;subst e1 e2;obtain ⟨t1,ht1⟩:=hts i ki uY Wx;obtain ⟨t2,ht2⟩:=hts j kj hj' QQ;obtain ⟨a1,a2,_⟩:=h1.own i ki li t1 uY HU ht1;obtain ⟨b1,b2,_⟩:=h1.own j kj lj t2 hj' KU ht2;have:=hp.sr.jc t1 t2 li lj ki kj a1 b1 a2 b2 Wx QQ Sq;subst this;exact h1.inj i j t1 ht1 ht2}
theorem AI {own:Bool} {f:FuncId} {nP:List PV} {tk:List Nat} {r:ov}
 (h:(match rec (.func f nP [] []) with
  |some (.func v s1 z1)=>
   if own then match zT s1 z1 (al3 aD) [] v with
    |some (v',n2,_)=>al4 {v:=v',news:=n2,rd:=tk}
    |none=>al5
   else if v.kU then al4 {v,rd:=tk}
   else match zb s1 v with
    |some v'=>al4 {v:=v',rd:=tk,fr:=tk}
    |none=>al5
  |_=>al5)=al4 r):r.rd=tk:=by
 split at h
 · split at h
   · split at h
     · injection h with h;subst h;rfl
     cases h
   split at h
   · injection h with h;subst h;rfl
   split at h
   · injection h with h;subst h;rfl
   cases h
 cases h
theorem yn (EZ:CT P rec) {own:Bool} {f:FuncId} {nP:List PV} {tk:List Nat} {r:ov} {us:List Value}
 (h:(match rec (.func f nP [] []) with
  |some (.func v s1 z1)=>
   if own then match zT s1 z1 (al3 aD) [] v with
    |some (v',n2,_)=>al4 {v:=v',news:=n2,rd:=tk}
    |none=>al5
   else if v.kU then al4 {v,rd:=tk}
   else match zb s1 v with
    |some v'=>al4 {v:=v',rd:=tk,fr:=tk}
    |none=>al5
  |_=>al5)=al4 r) (ha:fx (grow im w (AG loc aD tk)) gz nP us) (hk:jG im loc aD w r):
 uX P f ⟨us⟩ w fun u w'=> ∃eN bz,VR eN bz r.v u/\tY im loc aD w r eN bz w':=by
 cases hr:rec (.func f nP [] []) with
 |none=>rw [hr] at h;cases h
 |some o=>
  rw [hr] at h;cases o with
  |code e st=>cases h
  |func v s1 z1=>
   dsimp only at h;refine (EZ f nP [] [] v s1 z1 hr _ gz w us (SR.empty (Pe hk.bL)) ha).mono fun u w' hq=>?_
   obtain ⟨Et,dB,hp⟩:=hq;split at h
   · cases hio:zT s1 z1 (al3 aD) [] v with
     |none=>rw [hio] at h;cases h
     |some q2=>obtain ⟨v',n2,s2⟩:=q2;rw [hio] at h;simp only [ut] at h;subst h;exact Ph hk rfl rfl rfl hp hio
   split at h
   · rename_i hno
     simp only [ut] at h;subst h;exact QP hk rfl rfl rfl hno hp
   cases hif:zb s1 v with
   |none=>rw [hif] at h;cases h
   |some v'=>rw [hif] at h;simp only [ut] at h;subst h;exact S0 rfl rfl rfl rfl hp hif
theorem Jp (EZ:CT P rec) (Bz:zh P F) {own:Bool} {f:FuncId} {args:List PV} {fz:List Nat} {r:ov} {us:List Value}
 (h:dF F rec own f args aD fz=al4 r) (ha:fx im loc args us) (hk:jG im loc aD w r):
 uX P f ⟨us⟩ w fun u w'=> ∃eN bz,VR eN bz r.v u/\tY im loc aD w r eN bz w':=by
 have aqE: ∀(rd:List Nat),(∀b o,im b=al4 o->w.heap[b]? =al4 o)-> ∀b o,grow im w (AG loc aD rd) b=al4 o->w.heap[b]? =al4 o:=fun rd h=>Pe h
 have Nk: ∀(nP:List PV),CF aD (x9 aD deep) args=al4 nP->(∀t,t∈dL (dA aD deep) args-> ∀li,loc t=al4 li-> ∃k,aD[t]? =al4 k/\BR im loc w li k)->(∀b o,im b=al4 o->w.heap[b]? =al4 o)->
  fx (grow im w (AG loc aD (dL (dA aD deep) args))) gz nP us:=by
  intro nP hx aqF Ax;refine ym (w:=w) (Jj _ _ _) (fun t=>Pf (Jj _ _ _) deep t) (fun t ht li hl=>?_) ha hx;obtain ⟨k,ij,sS⟩:=aqF t ht li hl;exact ⟨k,ij,sS,fun hs=>Wv Ax (AH.2 ⟨t,li,k,ht,hl,ij,hs,rfl⟩)⟩
 unfold dF at h;cases hx:CF aD (x9 aD deep) args with
 |none=>rw [hx] at h;cases h
 |some nP=>
  rw [hx] at h;dsimp only at h;cases hF:F f with
  |none=>rw [hF] at h;dsimp only at h;have Hq:r.rd=dL (dA aD deep) args:=AI h;exact yn EZ h (Nk nP hx (fun t ht=>hk.tok t (.inl (by rw [Hq];exact ht))) hk.bL) hk
  |some en=>
   rw [hF] at h;cases en with
   |kG O5 p=>
    dsimp only at h;obtain ⟨rfl,hpo⟩:=Bz.1 f O5 p hF;cases S1:p nP with
    |none=>rw [S1] at h;cases h
    |some q=>
     obtain ⟨v,news⟩:=q;rw [S1] at h;dsimp only at h;cases hio:zT news [] (al3 aD) [] v with
     |none=>rw [hio] at h;cases h
     |some q2=>
      obtain ⟨v',n2,s2⟩:=q2;rw [hio] at h;simp only [NE,if_false,ut] at h;subst h;refine (hpo nP v news S1 _ w us (SR.empty (aqE _ hk.bL)) (Nk nP hx (fun t ht=>hk.tok t (.inl ht)) hk.bL)).mono fun u w' hq=>?_
      obtain ⟨Et,dB,hp⟩:=hq;exact Ph hk rfl rfl rfl hp hio
   |code x=>dsimp only at h;have Hq:r.rd=dL (dA aD deep) args:=AI h;exact yn EZ h (Nk nP hx (fun t ht=>hk.tok t (.inl (by rw [Hq];exact ht))) hk.bL) hk
   |Hi x=>dsimp only at h;have Hq:r.rd=dL (dA aD deep) args:=AI h;exact yn EZ h (Nk nP hx (fun t ht=>hk.tok t (.inl (by rw [Hq];exact ht))) hk.bL) hk
end
end Go.Vm
/- A call that works on the blocks that its arguments lead to, numbered anew: what it does to the memory. -/
namespace Go.Vm
theorem gY {α:Type} {l:List α} {i:Nat} {x:α} (h:l[i]? =al4 x):i<(al3 l):=(ww.1 h).1
theorem CU: ∀{l:List Nat} {t:Nat},t∈pk l↔t∈l
 | [],t=>by simp [pk]
 |a::r,t=>by
  rw [pk];split
  · rename_i h
    rw [CU];have:=pX.1 h;constructor
    · exact fun h=>by simp [h]
    intro h
    rcases adP.1 h with h|h
    · subst h;exact this
    exact h
  simp [CU]
theorem uh: ∀{l:List Nat},(pk l).Nodup
 | []=>by simp [pk]
 |a::r=>by
  rw [pk];split
  · exact uh
  rename_i h
  rw [List.nodup_cons];exact ⟨fun hm=>h (pX.2 (CU.1 hm)),uh⟩
theorem E5: ∀{a b:cK},wC a b=al9-> ∀(i:Nat) (x:ky),a[i]? =al4 x-> ∃y,b[i]? =al4 y/\x.bS=y.bS
 | [],_,_,i,x,h=>by simp at h
 |c::r,d::q,hf,i,x,h=>by
  simp only [wC,pp] at hf;cases i with
  |zero=>simp at h;subst h;refine ⟨d,rfl,?_⟩;have:=hf.1;split at this<;>first|(rename_i h1 h2;rw [h1,h2])|cases this
  |succ i=>simpa using E5 hf.2 i x (by simpa using h)
 |_::_,[],hf,_,_,_=>by cases hf
theorem E6 {g:Nat->Nat}: ∀{tk:List Nat} {s:cK} {t:Nat} {k:ky},(t,k)∈py g tk s↔ ∃(i:Nat) (b:ky),tk[i]? =al4 t/\s[i]? =al4 b/\k=zU g b
 | [],s,t,k=>by simp [py]
 |a::r,[],t,k=>by simp [py]
 |a::r,b::s,t,k=>by
  simp only [py,adP,If,E6];constructor
  · rintro (⟨rfl,rfl⟩|⟨i,c,h1,h2,h3⟩)
    · exact ⟨0,b,rfl,rfl,rfl⟩
    exact ⟨i+1,c,by simpa using h1,by simpa using h2,h3⟩
  rintro ⟨i,c,h1,h2,h3⟩
  cases i with
  |zero=>simp at h1 h2;subst h1;subst h2;exact .inl ⟨rfl,h3⟩
  |succ i=>exact .inr ⟨i,c,by simpa using h1,by simpa using h2,h3⟩
theorem HX {g:Nat->Nat}: ∀(s:cK) (i:Nat),(Bo g s)[i]? =(s[i]?).map (zU g)
 | [],i=>by simp [Bo]
 |b::r,0=>by simp [Bo]
 |b::r,i+1=>by simpa [Bo] using HX r i
theorem BA {g:Nat->Nat}: ∀(s:cK),(Bo g s).length=al3 s
 | []=>rfl
 |b::r=>by simp [Bo,BA r]
section
variable {P : Program} {F : nv} {rec : Task -> Option Out} {im : Im} {loc : Loc} {aD : cK} {w : World} {tk : List Nat} {g : Nat -> Nat} {l1 l2 : Loc}
mutual
theorem VR.zX: ∀{x:PV} {v:Value},VR im l1 x v->(∀u,u∈jv tM x-> ∀li,l1 u=al4 li->l2 (g u)=al4 li)->VR im l2 (CG g x) v
 |_,_,.undef v,_=> .undef v
 |_,_,.jR,_=> .jR
 |_,_,.int k n,_=> .int k n
 |_,_,.bool b,_=> .bool b
 |_,_,.str s,_=> .str s
 |_,_,.agg cs vs h,hg=> .agg _ vs (fx.zX h (fun u hu=>hg u (by simpa [jv] using hu)))
 |_,_,.cj cs vs h,hg=> .cj _ vs (fx.zX h (fun u hu=>hg u (by simpa [jv] using hu)))
 |_,_,.sl esz rf rows a cap hc hk h,_=> .sl esz rf rows a cap hc hk h
 |_,_,.own t esz off len cap ex li a dd h1 h2 h3 h4 h5 h6 h7,hg=> .own _ esz off len cap ex li a dd (hg _ (by simp [jv]) _ h1) h2 h3 h4 h5 h6 h7
 |_,_,.ptr t esz row off li h1 h2 h3,hg=> .ptr _ esz row off li (hg _ (by simp [jv]) _ h1) h2 h3
 |_,_,.bO cs off b o vs h hv,hg=> .bO _ off b o vs (fx.zX h (fun u hu=>hg u (by simpa [jv] using hu))) hv
 |_,_,.mp t li h,hg=> .mp _ li (hg _ (by simp [jv]) _ h)
 |_,_,.eO fn a b as bs ha hb,hg=> .eO fn _ _ as bs (fx.zX ha (fun u hu=>hg u (by simp [jv,hu]))) (fx.zX hb (fun u hu=>hg u (by simp [jv,hu])))
 |_,_,.eg,_=> .eg
theorem fx.zX: ∀{x:List PV} {v:List Value},fx im l1 x v->(∀u,u∈dL tM x-> ∀li,l1 u=al4 li->l2 (g u)=al4 li)->fx im l2 (xG g x) v
 |_,_,.nil,_=> .nil
 |_,_,.cons x v xs vs h hs,hg=> .cons _ v _ vs (VR.zX h (fun u hu=>hg u (by simp [dL,hu]))) (fx.zX hs (fun u hu=>hg u (by simp [dL,hu])))
end
theorem VR.CG {x:PV} {v:Value} (hg: ∀u,u∈jv tM x-> ∀li,l1 u=al4 li->l2 (g u)=al4 li) (h:VR im l1 x v):VR im l2 (Vm.CG g x) v:=h.zX hg
theorem fx.CG {x:List PV} {v:List Value} (hg: ∀u,u∈dL tM x-> ∀li,l1 u=al4 li->l2 (g u)=al4 li) (h:fx im l1 x v):fx im l2 (xG g x) v:=h.zX hg
theorem BB: ∀(x:List PV),(xG g x).length=al3 x
 | []=>rfl
 |x::xs=>by simp [xG,BB xs]
theorem BR.CG {li:LI} {k:ky} (hg: ∀u,u∈rN k-> ∀li,l1 u=al4 li->l2 (g u)=al4 li) (h:BR im l1 w li k):BR im l2 w li (zU g k):=by
 cases k with
 |arr e rows=>exact h
 |box cs=>obtain ⟨a1,a2,a3,vs,el,a4,a5,a6⟩:=h;exact ⟨by rw [BB];exact a1,a2,a3,vs,el,a4,a5,a6.CG hg⟩
 |map es=>exact h
 |dead=>trivial
theorem yo (k:ky):(zU g k).bS=k.bS:=by cases k<;>rfl
theorem Nq (EZ:CT P rec) {f:FuncId} {args:List PV} {fz:List Nat} {r:ov} {us:List Value}
 (h:uP rec f args aD fz=al4 r) (ha:fx im loc args us) (hk:jG im loc aD w r):
 uX P f ⟨us⟩ w fun u w'=> ∃eN bz,VR eN bz r.v u/\tY im loc aD w r eN bz w':=by
 unfold uP at h;have Hk:(pk (dL (dA aD deep) args)).Nodup:=uh;generalize CR:pk (dL (dA aD deep) args)=tk at h Hk;split at h
 · cases h
 rename_i a s0 E7;unfold Wi at E7;split at E7
 case isFalse=>cases E7
 rename_i aqG;simp only [adz,PP] at aqG;split at E7
 case h_2=>cases E7
 rename_i a' s0' hra Wo;simp only [ut,If] at E7;obtain ⟨rfl,rfl⟩:=E7;split at h
 case h_2=>cases h
 rename_i v s hr;unfold EL at h;split at h
 case isFalse=>cases h
 rename_i S2;injection h with h;obtain ⟨Kz,Ee⟩:=CH Wo;have hf0:=E5 S2;have lP:(al3 tk)<=(al3 s):=by
  rcases Nat.eq_zero_or_pos (al3 tk) with h0|h0
  · omega
  obtain ⟨y,hy,_⟩:=hf0 (al3 tk-1) (s0'[al3 tk-1]'(by omega)) (rc _)
  have:=gY hy;omega
 let Nr:Loc:=fun u=>match tk[u]? with|some t=>loc t|none=>al5
 have E8:Ren tk loc Nr:=fun u t hu=>by simp only [Nr,hu]
 have hC: ∀u li,Nr u=al4 li-> ∃t,tk[u]? =al4 t/\loc t=al4 li:=by
  intro u li hl;simp only [Nr] at hl;split at hl
  · rename_i t ht;exact ⟨t,ht,hl⟩
  cases hl
 have S3: ∀t k,(t,k)∈r.wr↔ ∃(i:Nat) (b:ky),tk[i]? =al4 t/\s[i]? =al4 b/\k=zU (kH tk (al3 aD)) b:=fun t k=>by rw [<- h];exact E6
 have aeL: ∀u t,tk[u]? =al4 t->(t∈r.rd\/ ∃b,(t,b)∈r.wr):=fun u t ht=>by have:=gY ht;exact .inr ⟨_,(S3 t _).2 ⟨u,_,ht,rc (by omega),rfl⟩⟩
 have uW: ∀(u t:Nat) (k:ky),tk[u]? =al4 t->s0'[u]? =al4 k-> ∃k0:ky,aD[t]? =al4 k0/\k.bS=k0.bS:=fun u t k ht hs=>by obtain ⟨k0,k',g1,g2,g3⟩:=Ee u t ht;rw [hs] at g3;injection g3 with g3;subst g3;exact ⟨k0,g1,Bq g2⟩
 have hSR:SR im Nr s0' [] w:={
  bL:=hk.bL
  dw:=fun u li hl=>by obtain ⟨t,h1,h2⟩:=hC u li hl;obtain ⟨k,ij,sS⟩:=hk.tok t (aeL u t h1) li h2;obtain ⟨k0,k',g1,g2,g3⟩:=Ee u t h1;rw [ij] at g1;injection g1 with g1;subst g1;exact ⟨k',g3,HS E8 g2 sS⟩
  jc:=fun t u li lj k k' hl mU hs vJ Ef aqI hb=>by
   obtain ⟨a1,h1,h2⟩:=hC t li hl;obtain ⟨a2,h3,h4⟩:=hC u lj mU;obtain ⟨k0,g1,g2⟩:=uW t a1 k h1 hs;obtain ⟨k0',g1',g2'⟩:=uW u a2 k' h3 vJ;have:=hk.jc a1 a2 li lj k0 k0' (aeL t a1 h1) (aeL u a2 h3) h2 h4 g1 g1' (by rw [<- g2];exact Ef) (by rw [<- g2'];exact aqI) hb;subst this;have pw:=ael.1 Hk;obtain ⟨l1,e1⟩:=ww.1 h1;obtain ⟨l2,e2⟩:=ww.1 h3;rcases UV t u with h|h|h
   · exact absurd (e1.trans e2.symm) (pw t u l1 l2 h)
   · exact h
   exact absurd (e2.trans e1.symm) (pw u t l2 l1 h)
  free:=fun t li k hl hs Ef _=>by obtain ⟨a1,h1,h2⟩:=hC t li hl;obtain ⟨k0,g1,g2⟩:=uW t a1 k h1 hs;have dV:=gY h1;exact hk.free a1 _ ((S3 a1 _).2 ⟨t,_,h1,rc (by omega),rfl⟩) li k0 h2 g1 (by rw [<- g2];exact Ef)}
 refine (EZ f a' s0' [] v s [] hr im Nr w us hSR (tX E8 ha hra)).mono fun u w' ⟨eN,La,hf⟩=>?_
 let bz:Loc:=fun t=>match loc t with
  |some li=>al4 li
  |none=>if (al3 aD)<=t/\t-(al3 aD)<(al3 r.news) then La (t-(al3 aD)+al3 tk) else al5
 have amw:mN loc bz:=fun t li hl=>by simp only [bz,hl]
 have Hs:(iL (al3 tk) v s=al9/\r.news=[])\/(iL (al3 tk) v s=ala/\r.news=Bo (kH tk (al3 aD)) (s.drop (al3 tk))):=by
  rw [<- h];cases QM:iL (al3 tk) v s with
  |true=>exact .inl ⟨rfl,by simp⟩
  |false=>exact .inr ⟨rfl,by simp⟩
 have amx:iL (al3 tk) v s=ala->al3 r.news=al3 s-(al3 tk):=fun h1=>by
  rcases Hs with ⟨h2,_⟩|⟨_,h2⟩
  · rw [h1] at h2;cases h2
  rw [h2];simp [BA]
 have aqJ: ∀u li,La u=al4 li->u<(al3 s):=fun u li hl=>let ⟨k,ij,_⟩:=hf.sr.dw u li hl;gY ij
 have S4: ∀j li,bz (al3 aD+j)=al4 li->j<al3 r.news->La (al3 tk+j)=al4 li:=fun j li hl hj=>by simp only [bz,hk.fresh j hj] at hl;rw [ls ⟨by omega,by omega⟩] at hl;rw [show (al3 aD)+j-(al3 aD)+al3 tk=al3 tk+j by omega] at hl;exact hl
 have hg: ∀u,(u<al3 tk\/iL (al3 tk) v s=ala)-> ∀li,La u=al4 li->bz (kH tk (al3 aD) u)=al4 li:=by
  intro u Wy li hl;unfold kH;split
  · rename_i t ht
    rcases hf.oq u li hl with h1|h1
    · obtain ⟨t',h2,h3⟩:=hC u li h1
      rw [ht] at h2;injection h2 with h2;subst h2;exact amw _ _ h3
    have:=gY ht;omega
  rename_i hn
  have hu:(al3 tk)<=u:=by simpa using hn
  rcases Wy with Wy|Wy
  · omega
  have dV:=aqJ u li hl;have Hs:=amx Wy;simp only [bz,hk.fresh (u-(al3 tk)) (by omega)];rw [ls ⟨by omega,by omega⟩,show (al3 aD)+(u-(al3 tk)) -(al3 aD)+al3 tk=u by omega];exact hl
 have QM: ∀u,iL (al3 tk) v s=al9->(u∈jv tM v\/ ∃i b,i<al3 tk/\s[i]? =al4 b/\u∈rN b)->u<(al3 tk):=fun u h1 h2=>by
  unfold iL at h1;have h3:=adz.1 h1 u (by
   rcases h2 with h2|⟨i,b,g1,g2,g3⟩
   · simp [h2]
   refine ad6.2 (.inr (List.mem_flatMap.2 ⟨b,?_,g3⟩))
   exact List.mem_of_getElem? (i:=i) (by rw [List.getElem?_take];simp [g1,g2]))
  simpa using h3
 have hgv: ∀u,u∈jv tM v-> ∀li,La u=al4 li->bz (kH tk (al3 aD) u)=al4 li:=fun u hu=>hg u (by
  cases hq:iL (al3 tk) v s with
  |true=>exact .inl (QM u hq (.inl hu))
  |false=>exact .inr rfl)
 have hgb: ∀i b,i<al3 tk->s[i]? =al4 b-> ∀u,u∈rN b-> ∀li,La u=al4 li->bz (kH tk (al3 aD) u)=al4 li:=fun i b hi hb u hu=>hg u (by
  cases hq:iL (al3 tk) v s with
  |true=>exact .inl (QM u hq (.inr ⟨i,b,hi,hb,hu⟩))
  |false=>exact .inr rfl)
 have hMC: ∀u t li,tk[u]? =al4 t->loc t=al4 li->La u=al4 li:=fun u t li ht hl=>hf.eh u li (by simp only [Nr,ht];exact hl)
 refine ⟨eN,bz,by rw [<- h];exact hf.vr.CG hgv,?_⟩;have S5: ∀(j:Nat) (k:ky),r.news[j]? =al4 k-> ∃b,s[al3 tk+j]? =al4 b/\k=zU (kH tk (al3 aD)) b:=fun j k hj=>by
  rcases Hs with ⟨_,h0⟩|⟨_,h0⟩
  · rw [h0] at hj;simp at hj
  rw [h0] at hj;simp only [HX,List.getElem?_drop,Do] at hj;obtain ⟨b,h1,h2⟩:=hj;exact ⟨b,h1,h2.symm⟩
 have Wz: ∀t li,La t=al4 li->al3 tk<=t-> ∀k,s[t]? =al4 k->k.bS=al9->w.heap.size<=li.dw:=by
  intro t li hl ht k hs Ef;rcases hf.own t li k hl hs Ef with h1|⟨u,lu,ku,h1,h2,h3,h4⟩
  · exact h1
  exfalso
  obtain ⟨a1,g1,g2⟩:=hC u lu h1;obtain ⟨y,y1,y2⟩:=hf0 u ku h2;have:=hf.sr.jc u t lu li y k (hMC u a1 lu g1 g2) hl y1 hs (by rw [<- y2];exact h3) Ef h4;subst this;have:=gY g1;omega
 exact {
  gX:=hf.gX,eh:=amw
  bL:=hf.sr.bL
  ew:=fun b o hb=>by
   rcases hf.ew b o hb with h1|h1|⟨t,li,k,h1,h2,h3,h4⟩
   · exact .inl h1
   · exact .inr (.inl h1)
   exfalso
   obtain ⟨a1,g1,g2⟩:=hC t li h1;obtain ⟨y,y1,y2⟩:=hf0 t k h2;have:=hf.sr.free t li y (hMC t a1 li g1 g2) y1 (by rw [<- y2];exact h3) rfl;rw [h4,hb] at this;cases this
  os:=hf.os,tape:=hf.tape,output:=hf.output,size:=hf.size
  frame:=fun b hb hh=>hf.frame b hb fun t li k hl hs Ef=>by obtain ⟨a1,g1,g2⟩:=hC t li hl;obtain ⟨k0,e1,e2⟩:=uW t a1 k g1 hs;have dV:=gY g1;exact hh a1 _ li k0 ((S3 a1 _).2 ⟨t,_,g1,rc (by omega),rfl⟩) g2 e1 (by rw [<- e2];exact Ef)
  QC:=fun t k hm Ef=>by obtain ⟨i,b,g1,g2,rfl⟩:=(S3 t k).1 hm;rw [yo] at Ef;have dV:=gY g1;have e:=rc (l:=s0') (i:=i) (by omega);obtain ⟨y,y1,y2⟩:=hf0 i _ e;rw [g2] at y1;injection y1 with y1;subst y1;obtain ⟨k0,e1,e2⟩:=uW i t _ g1 e;exact ⟨k0,e1,by rw [<- e2,y2];exact Ef⟩
  wr:=fun t k li hm hl=>by obtain ⟨i,b,g1,g2,rfl⟩:=(S3 t k).1 hm;obtain ⟨k',ij,sS⟩:=hf.sr.dw i li (hMC i t li g1 hl);rw [g2] at ij;injection ij with ij;subst ij;exact sS.CG (hgb i b (gY g1) g2)
  lC:=fun t li hl=>by
   simp only [bz] at hl;cases Kz:loc t with
   |some lj=>rw [Kz] at hl;exact .inl hl
   |none=>
    rw [Kz] at hl;dsimp only at hl;split at hl
    · rename_i hn
      exact .inr ⟨hn.1,by omega⟩
    cases hl
  news:=fun j k li hj hl=>by
   have Nh:j<(al3 r.news):=gY hj;obtain ⟨b,hb,rfl⟩:=S5 j k hj;have Kz:=S4 j li hl Nh;obtain ⟨k',ij,sS⟩:=hf.sr.dw _ li Kz;rw [hb] at ij;injection ij with ij;subst ij;have hq:iL (al3 tk) v s=ala:=by
    rcases Hs with ⟨_,h0⟩|⟨h0,_⟩
    · rw [h0] at Nh;simp at Nh
    exact h0
   refine ⟨sS.CG (fun u _=>hg u (.inr hq)),fun Ef=>?_⟩;rw [yo] at Ef;exact ⟨hf.sr.free _ li b Kz hb Ef rfl,.inl (Wz _ li Kz (by omega) b hb Ef)⟩
  distinct:=fun i j ki kj li lj hi hj Wx QQ hli hlj hb=>by obtain ⟨b1,e1,rfl⟩:=S5 i ki hi;obtain ⟨b2,e2,rfl⟩:=S5 j kj hj;rw [yo] at Wx QQ;have h1:=S4 i li hli (gY hi);have h2:=S4 j lj hlj (gY hj);have:=hf.sr.jc _ _ li lj b1 b2 h1 h2 e1 e2 Wx QQ hb;omega}
end
end Go.Vm
/- A region's run in the order of the text, step by step; what a block holds when al4 of its operations are done. -/
namespace Go.Vm
structure yp (F:nv) (rec:Task->Option Out) (ops:List bY) (S:Nat->St) (X:Nat->Option XR):Prop where
 steps: ∀(i:Nat) (o:bY),ops[i]? =al4 o->
  (wanted o.guard (S i).env=al4 al9/\ ∃x,xH F rec (S i).env (S i).aD (S i).fz o.op=al4 x/\x.ok (S i).fz=al9/\X i=al4 x/\S (i+1)=x.next o.dst (S i))\/
  (wanted o.guard (S i).env=al4 ala/\X i=al5/\S (i+1)={S i with env:=jb o.dst .jR (S i).env})
def zR (x:Option XR) (s:St):Tr:=
 match x with
 |some x=>x.tr (al3 s.aD)
 |none=>Tr.idle
def zY (S:Nat->St) (X:Nat->Option XR) (n:Nat):List Tr:=(List.range n).map fun i=>zR (X i) (S i)
theorem Ns (S:Nat->St) (X:Nat->Option XR) (n:Nat):zY S X (n+1)=zR (X 0) (S 0)::zY (fun i=>S (i+1)) (fun i=>X (i+1)) n:=by unfold zY;rw [List.range_succ_eq_map];simp [List.map_map,Function.comp_def]
theorem CV {F:nv} {rec:Task->Option Out}: ∀(ops:List bY) (st:St) (tr:List Tr) (la:St) (QR:List Tr),mV F rec ops st tr=al4 (la,QR)->
 ∃S X,S 0=st/\S (al3 ops)=la/\yp F rec ops S X/\QR=(zY S X (al3 ops)).reverse++tr
 | [],st,tr,la,QR,h=>by simp only [mV,ut,If] at h;obtain ⟨rfl,rfl⟩:=h;exact ⟨fun _=>st,fun _=>al5,rfl,rfl,⟨fun i o h=>by simp at h⟩,by simp [zY]⟩
 |o::l,st,tr,la,QR,h=>by
  simp only [mV] at h;have mk: ∀(s1:St) (x:Option XR) (t1:Tr),zR x st=t1->mV F rec l s1 (t1::tr)=al4 (la,QR)->
   ((wanted o.guard st.env=al4 al9/\ ∃y,xH F rec st.env st.aD st.fz o.op=al4 y/\y.ok st.fz=al9/\x=al4 y/\s1=y.next o.dst st)\/
    (wanted o.guard st.env=al4 ala/\x=al5/\s1={st with env:=jb o.dst .jR st.env}))->
   ∃S X,S 0=st/\S (o::l).length=la/\yp F rec (o::l) S X/\QR=(zY S X (o::l).length).reverse++tr:=by
   intro s1 x t1 ht he hs;obtain ⟨S,X,h0,hn,cB,htr⟩:=CV l s1 (t1::tr) la QR he;refine ⟨fun i=>match i with|0=>st|i+1=>S i,fun i=>match i with|0=>x|i+1=>X i,rfl,hn,⟨fun i o' ho=>?_⟩,?_⟩
   · cases i with
     |zero=>
      simp at ho;subst ho;rcases hs with ⟨a,y,b,c,d,e⟩|⟨a,b,c⟩
      · exact .inl ⟨a,y,b,c,d,by rw [<- e];exact h0⟩
      exact .inr ⟨a,b,by rw [<- c];exact h0⟩
     |succ i=>exact cB.steps i o' (by simpa using ho)
   rw [List.length_cons,Ns,htr]
   simp [ht]
  cases hw:wanted o.guard st.env with
  |none=>rw [hw] at h;cases h
  |some b=>
   rw [hw] at h;cases b with
   |false=>exact mk _ al5 _ rfl h (.inr ⟨hw,rfl,rfl⟩)
   |true=>
    dsimp only at h;cases hx:xH F rec st.env st.aD st.fz o.op with
    |none=>rw [hx] at h;cases h
    |some x=>
     rw [hx] at h;dsimp only at h;split at h
     · rename_i Ax
       exact mk _ (al4 x) _ rfl h (.inl ⟨hw,x,hx,Ax,rfl,rfl⟩)
     cases h
theorem fW: ∀(wr:List (Nat×ky)) (s:cK),(gC wr s).length=al3 s
 | [],s=>rfl
 |(t,b)::r,s=>by rw [gC,fW r];simp
theorem uZ: ∀(wr:List (Nat×ky)) (s:cK) (t:Nat),(∀k,(t,k)∉wr)->(gC wr s)[t]? =s[t]?
 | [],s,t,_=>rfl
 |(u,b)::r,s,t,h=>by
  rw [gC,uZ r _ t (fun k hk=>h k (by simp [hk]))];have:u≠t:=fun e=>h b (by rw [e];simp)
  rw [aeS this]
theorem E9: ∀(wr:List (Nat×ky)) (s:cK),wD wr=al9-> ∀{t:Nat} {k:ky},(t,k)∈wr->t<al3 s->(gC wr s)[t]? =al4 k
 |(u,b)::r,s,hn,t,k,hm,dV=>by
  simp only [wD,pp,adz,PP] at hn;rw [gC];rcases adP.1 hm with h|h
  · injection h with h1 h2
    subst h1 h2;rw [uZ r _ t fun k' hk=>by simpa using hn.1 (t,k') hk];simp [dV]
  exact E9 r _ hn.2 h (by simpa using dV)
section
variable {F : nv} {rec : Task -> Option Out} {ops : List bY} {S : Nat -> St} {X : Nat -> Option XR}
def W (X:Nat->Option XR) (i t:Nat):Prop:=
 match X i with
 |some (.loc r)=> ∃k,(t,k)∈r.wr
 |some (.shr ..)=>True
 |none=>False
def FR (X:Nat->Option XR) (i t:Nat):Prop:=
 match X i with
 |some (.loc r)=>t∈r.fr
 |some (.shr _ _ z)=>t∈z
 |none=>False
def BC (S:Nat->St) (X:Nat->Option XR) (n:Nat) (done:Nat->Prop) (t:Nat) (k:ky):Prop:=
 ∃m,m<=n/\(∀i,i<n->W X i t->(done i↔i<m))/\(∀c,c<n->(S c).aD.length<=t->t<(S (c+1)).aD.length->c<m)/\(S m).aD[t]? =al4 k
theorem Pj {e:Env} {aD:cK} {fz:List Nat} {op:lA} {v:PV} {s:cK} {z:List Nat} (h:xH F rec e aD fz op=al4 (.shr v s z)):(al3 aD)<=al3 s/\ ∀t,t∈fz->t∈z:=by
 have key: ∀{f:FuncId} {args:List PV},gm rec f args aD fz=al4 (.shr v s z)->al3 aD<=al3 s/\ ∀t,t∈fz->t∈z:=by
  intro f args h;unfold gm at h;split at h
  · split at h
    · rename_i hc
      simp only [pp,adN,adz] at hc;simp only [ut,XR.shr.injEq] at h;obtain ⟨rfl,rfl,rfl⟩:=h;exact ⟨hc.1,fun t ht=>pX.1 (hc.2 t ht)⟩
    cases h
  cases h
 cases op with
 |call m f args=>
  cases m with
  |V6=>simp [xH] at h
  |own=>simp [xH] at h
  |shr=>exact key h
  |fp=>simp [xH] at h
 |xF x args=>
  simp only [xH] at h;split at h
  · split at h
    · exact key h
    simp at h
  cases h
 |_=>simp [xH] at h
theorem yp.aeM (hr:yp F rec ops S X) {i:Nat} (hi:i<al3 ops):(S i).aD.length<=(S (i+1)).aD.length:=by
 rcases hr.steps i _ (rc hi) with ⟨_,x,hx,_,_,hn⟩|⟨_,_,hn⟩
 · rw [hn]
   cases x with
   |loc r=>simp [XR.next,rR,fW]
   |shr v s z=>exact (Pj hx).1
 rw [hn];exact EQ _
theorem yp.iN (hr : yp F rec ops S X) {i j : Nat} (lL : i <= j) (hj : j <= (al3 ops)) : (S i).aD.length <= (S j).aD.length := by
  induction j with
  | zero => have : i = 0 := by omega
            subst this; exact EQ _
  | succ j ih =>
    rcases adB lL with h | h
    · subst h; exact EQ _
    exact ad5 (ih (by omega) (by omega)) (hr.aeM (by omega))
theorem yp.same (hr:yp F rec ops S X) {i t:Nat} (hi:i<al3 ops) (hw: ¬W X i t) (ht:t<(S i).aD.length):(S (i+1)).aD[t]? =(S i).aD[t]?:=by
 rcases hr.steps i _ (rc hi) with ⟨_,x,hx,_,hX,hn⟩|⟨_,_,hn⟩
 · rw [hn]
   cases x with
   |loc r=>simp only [XR.next,rR];rw [AC (by rw [fW];exact ht)];exact uZ _ _ _ fun k hk=>hw (by unfold W;rw [hX];exact ⟨k,hk⟩)
   |shr v s z=>exact absurd (by unfold W;rw [hX];trivial) hw
 rw [hn]
theorem yp.zi (hr : yp F rec ops S X) {m m' t : Nat} (hm : m <= m') (CW : m' <= (al3 ops)) (hw : ∀ i, m <= i -> i < m' -> ¬ W X i t) (ht : t < (S m).aD.length) : (S m').aD[t]? = (S m).aD[t]? := by
  induction m' with
  | zero => have : m = 0 := by omega
            subst this; rfl
  | succ j ih =>
    rcases adB hm with h | h
    · subst h; rfl
    rw [hr.same (by omega) (hw j (by omega) (by omega)) (adJ ht (hr.iN (by omega) (by omega)))]
    exact ih (by omega) (by omega) fun i h1 h2 => hw i h1 (by omega)
theorem cP {α:Type} {l:List α} {i:Nat} {x:α} (h:l[i]? =al4 x):i<(al3 l):=(ww.1 h).1
theorem BC.unique (hr:yp F rec ops S X) {done:Nat->Prop} {t:Nat} {k k':ky} (h:BC S X (al3 ops) done t k) (h':BC S X (al3 ops) done t k'):k=k':=by
 obtain ⟨m,hm,hw,hc,hs⟩:=h;obtain ⟨m',CW,Wb,CO,vJ⟩:=h';rcases ajh m m' with h|h
 · have:=hr.zi h CW (fun i h1 h2 hW=>by
    have a:=hw i (by omega) hW;have b:=Wb i (by omega) hW;have:=a.1 (b.2 h2);omega) (cP hs)
   rw [hs,vJ] at this;exact (aeE this).symm
 have:=hr.zi h hm (fun i h1 h2 hW=>by
  have a:=hw i (by omega) hW;have b:=Wb i (by omega) hW;have:=b.1 (a.2 h2);omega) (cP vJ)
 rw [hs,vJ] at this;exact aeE this
theorem yp.S6 (hr:yp F rec ops S X) {i t:Nat} (hi:i<al3 ops) (hd:(ops[i]).dst≠al4 t):lk t (S (i+1)).env=lk t (S i).env:=by
 have key: ∀(d:Option Nat) (v:PV) (e:Env),d≠al4 t->lk t (jb d v e)=lk t e:=by
  intro d v e h;cases d with
  |none=>rfl
  |some s=>simp only [jb];rw [rT,lw (fun e=>h (by rw [e]))]
 rcases hr.steps i _ (rc hi) with ⟨_,x,hx,_,hX,hn⟩|⟨_,_,hn⟩
 · rw [hn]
   cases x with
   |loc r=>exact key _ _ _ hd
   |shr v s z=>exact key _ _ _ hd
 rw [hn];exact key _ _ _ hd
theorem yp.Nt (hr : yp F rec ops S X) {m m' t : Nat} (hm : m <= m') (CW : m' <= (al3 ops)) (hd : ∀ i (hi : i < (al3 ops)), m <= i -> i < m' -> (ops[i]).dst ≠ al4 t) : lk t (S m').env = lk t (S m).env := by
  induction m' with
  | zero => have : m = 0 := by omega
            subst this; rfl
  | succ j ih =>
    rcases adB hm with h | h
    · subst h; rfl
    rw [hr.S6 (by omega) (hd j (by omega) (by omega) (by omega))]
    exact ih (by omega) (by omega) fun i hi h1 h2 => hd i hi h1 (by omega)
end
end Go.Vm
/- A region: what holds while al4 of its operations are done, and that one more keeps it. -/
namespace Go.Vm
def aB (x:bY):List Nat:=(x.op.fH.filterMap fun| .t n=>al4 n| .c _=>al5)++(match x.guard with|some (s,_)=>[s]|none=>[])
def vP (ops:Array Oper):Option (Nat×Bool)->Option (Nat×Bool)->Bool
 |none,al5=>al9
 |some (s,b),al4 (j,c)=>b==c&&((ops[j]?).bind (·.dst))==al4 s
 |_,_=>ala
def rV (P:Program) (prims:FuncId->Bool) (nt:Nat) (ops:Array Oper) (x:bY) (o:Oper):Bool:=
 x.dst==o.dst&&(match x.dst with|some d=>adQ d nt|none=>al9)&&vP ops x.guard o.guard&&xJ P prims o.type x.op o.op
def rI (X:Nat->Option XR) (i:Nat):Prop:= ∃v s z,X i=al4 (.shr v s z)
def ik (X:Nat->Option XR) (i:Nat):Prop:=
 match X i with
 |some (.loc r)=>r.rd≠[]\/r.fr≠[]\/r.wr≠[]\/r.news≠[]
 |some (.shr ..)=>True
 |none=>False
def A (X:Nat->Option XR) (i t:Nat):Prop:=
 match X i with
 |some (.loc r)=>t∈r.rd\/t∈r.fr
 |_=>False
structure Ord (ops:List bY) (S:Nat->St) (X:Nat->Option XR) (xY:Nat->Nat->Prop):Prop where
 E': ∀(i j t:Nat) (x y:bY),i<j->ops[i]? =al4 x->ops[j]? =al4 y->x.dst=al4 t->(t∈aB y\/y.dst=al4 t)->xY i j
 S7: ∀(i j t:Nat) (x y:bY),i<j->ops[i]? =al4 x->ops[j]? =al4 y->y.dst=al4 t->t∈aB x->xY i j
 Nu: ∀i j t,i<j->j<al3 ops->W X i t->(A X j t\/W X j t)->xY i j
 aeN: ∀i j t,i<j->j<al3 ops->A X i t->W X j t->xY i j
 aeO: ∀i j t,i<j->j<al3 ops-> ¬rI X i->(S i).aD.length<=t->t<(S (i+1)).aD.length-> ¬rI X j->W X j t->xY i j
 KK: ∀i j,i<j->j<al3 ops->(rI X i/\ik X j\/ik X i/\rI X j)->xY i j
 cl: ∀i t,i<al3 ops-> ¬rI X i->(A X i t\/W X i t)->t<(S i).aD.length\/ ∀c,i<c->c<al3 ops->xY i c
structure Inv (ops:List bY) (S:Nat->St) (X:Nat->Option XR) (im0:Im) (loc0:Loc) (w0:World) (nt:Nat) (done:Nat->Prop) (im:Im) (loc:Loc) (a:Act) (w:World):Prop where
 tm: ∀t,∃m,m<=al3 ops/\(∀i x,ops[i]? =al4 x->x.dst=al4 t->(done i↔i<m))/\VR im loc (lk t (S m).env) (a.tmps.getD t Go.undef)
 bL: ∀b o,im b=al4 o->w.heap[b]? =al4 o
 tok: ∀t li,loc t=al4 li-> ∃k,BC S X (al3 ops) done t k/\BR im loc w li k
 jc: ∀t u li lj k k',loc t=al4 li->loc u=al4 lj->BC S X (al3 ops) done t k->BC S X (al3 ops) done u k'->k.bS=al9->k'.bS=al9->li.dw=lj.dw->t=u
 free: ∀t li k,loc t=al4 li->BC S X (al3 ops) done t k->k.bS=al9->t∉(S 0).fz->(∀i,i<al3 ops->done i-> ¬FR X i t)->im li.dw=al5
 fresh: ∀i,i<al3 ops-> ¬done i-> ∀t,(S i).aD.length<=t->t<(S (i+1)).aD.length->loc t=al5
 gX:oA im0 im
 eh:mN loc0 loc
 os:w.os=w0.os
 tape:Tape w0 w
 output:w.output=w0.output
 size:w0.heap.size<=w.heap.size
 frame: ∀b,b<w0.heap.size->(∀t li k,loc0 t=al4 li->(S 0).aD[t]? =al4 k->k.bS=al9->li.dw≠b)->w.heap[b]? =w0.heap[b]?
 ew: ∀b o,im b=al4 o->im0 b=al4 o\/w0.heap.size<=b\/ ∃t li k,loc0 t=al4 li/\(S 0).aD[t]? =al4 k/\k.bS=al9/\li.dw=b
 oq: ∀t li,loc t=al4 li->loc0 t=al4 li\/(S 0).aD.length<=t
 own: ∀t li k,loc t=al4 li->BC S X (al3 ops) done t k->k.bS=al9->(w0.heap.size<=li.dw\/ ∃u lu ku,loc0 u=al4 lu/\(S 0).aD[u]? =al4 ku/\ku.bS=al9/\lu.dw=li.dw)
 defers:a.defers=[]
 M7:a.tmps.size=nt
def plus (done:Nat->Prop) (i:Nat):Nat->Prop:=fun j=>done j\/j=i
section
variable {F : nv} {rec : Task -> Option Out} {ops : List bY} {S : Nat -> St} {X : Nat -> Option XR} {xY : Nat -> Nat -> Prop} {im0 : Im} {loc0 : Loc} {w0 : World} {nt : Nat}
  {done : Nat -> Prop} {im : Im} {loc : Loc} {a : Act} {w : World} {i : Nat}
structure Place (ops:List bY) (xY:Nat->Nat->Prop) (done:Nat->Prop) (i:Nat):Prop where
 lt:i<al3 ops
 nd: ¬done i
 pre: ∀j,j<al3 ops->xY j i->done j
 eO: ∀k,k<al3 ops->done k-> ∀j,j<al3 ops->xY j k->done j
theorem Place.yq (hp:Place ops xY done i) {k:Nat} (hk:k<al3 ops) (h:xY i k): ¬done k:=fun hd=>hp.nd (hp.eO k hk hd i hp.lt h)
theorem Inv.slot (hr:yp F rec ops S X) (ho:Ord ops S X xY) (hv:Inv ops S X im0 loc0 w0 nt done im loc a w) (hp:Place ops xY done i) {x:bY} (hx:ops[i]? =al4 x) {t:Nat} (ht:t∈aB x):
 VR im loc (lk t (S i).env) (a.tmps.getD t Go.undef):=by
 obtain ⟨m,hm,hd,pg⟩:=hv.tm t;have hwr: ∀j y,ops[j]? =al4 y->y.dst=al4 t->(done j↔j<i):=by
  intro j y hy Pk;rcases UV j i with h|h|h
  · exact ⟨fun _=>h,fun _=>hp.pre j (cP hy) (ho.E' j i t y x h hy hx Pk (.inl ht))⟩
  · subst h;exact ⟨fun hd=>absurd hd hp.nd,fun h=>by omega⟩
  exact ⟨fun Lb=>absurd Lb (hp.yq (cP hy) (ho.S7 i j t x y h hx hy Pk ht)),fun h'=>by omega⟩
 have same:lk t (S i).env=lk t (S m).env:=by
  rcases ajh m i with h|h
  · refine hr.Nt h (aeh hp.lt) fun j hj h1 h2 tO=>?_
    have a1:=hd j _ (rc hj) tO;have a2:=hwr j _ (rc hj) tO;have:=a1.1 (a2.2 h2);omega
  refine (hr.Nt h hm fun j hj h1 h2 tO=>?_).symm
  have a1:=hd j _ (rc hj) tO;have a2:=hwr j _ (rc hj) tO;have:=a2.1 (a1.2 h2);omega
 rw [same];exact pg
theorem Inv.cur (hr:yp F rec ops S X) (ho:Ord ops S X xY) (hv:Inv ops S X im0 loc0 w0 nt done im loc a w) (hp:Place ops xY done i) {t:Nat} {li:LI} (hl:loc t=al4 li)
 (ht:(A X i t\/W X i t)) {k:ky} (hc:BC S X (al3 ops) done t k):(S i).aD[t]? =al4 k:=by
 obtain ⟨m,hm,hw,hcr,hs⟩:=hc;have c9:t<(S i).aD.length:=by
  rcases acl t (S i).aD.length with h|h
  · exact h
  exfalso
  have hmi:i<m:=by
   rcases acl i m with h'|h'
   · exact h'
   have:=hr.iN h' (aeh hp.lt);have:=cP hs;omega
  have: ∃c,i<=c/\c<m/\(S c).aD.length<=t/\t<(S (c+1)).aD.length:=by
   have hex: ∀d,i+d<=m->t<(S (i+d)).aD.length-> ∃c,i<=c/\c<i+d/\(S c).aD.length<=t/\t<(S (c+1)).aD.length:=by
    intro d
    induction d with
    |zero=>intro _ h2;exact absurd h2 (by simpa using h)
    |succ d ih=>
     intro h1 h2;rcases acl t (S (i+d)).aD.length with h3|h3
     · obtain ⟨c,c1,c2,c3,c4⟩:=ih (by omega) h3
       exact ⟨c,c1,by omega,c3,c4⟩
     exact ⟨i+d,by omega,by omega,h3,h2⟩
   obtain ⟨c,c1,c2,c3,c4⟩:=hex (m-i) (by omega) (by rw [show i+(m-i)=m by omega];exact cP hs);exact ⟨c,c1,by omega,c3,c4⟩
  obtain ⟨c,c1,c2,c3,c4⟩:=this;have hcn:c<(al3 ops):=by omega
  have aqM: ¬done c:=by
   intro hdc;rcases adB c1 with e|e
   · subst e;exact hp.nd hdc
   by_cases hsh:rI X i
   · refine hp.yq hcn (ho.KK i c e hcn (.inl ⟨hsh,?_⟩)) hdc
     rcases hr.steps c _ (rc hcn) with ⟨_,x,hx,_,hX,hn⟩|⟨_,_,hn⟩
     · unfold ik;rw [hX]
       cases x with
       |loc r=>refine .inr (.inr (.inr fun Hv=>?_));rw [hn] at c4;simp [XR.next,rR,fW,Hv] at c4;omega
       |shr v s z=>trivial
     rw [hn] at c4;simp at c4;omega
   rcases ho.cl i t hp.lt hsh ht with h'|h'
   · omega
   exact hp.yq hcn (h' c e hcn) hdc
  have:=hv.fresh c hcn aqM t c3 c4;rw [hl] at this;cases this
 have hwr: ∀j,j<al3 ops->W X j t->(done j↔j<i):=by
  intro j hj hW;rcases UV j i with h|h|h
  · exact ⟨fun _=>h,fun _=>hp.pre j hj (ho.Nu j i t h hp.lt hW ht)⟩
  · subst h;exact ⟨fun hd=>absurd hd hp.nd,fun h=>by omega⟩
  refine ⟨fun Lb=>absurd Lb (hp.yq hj ?_),fun h'=>by omega⟩
  rcases ht with ht|ht
  · exact ho.aeN i j t h hj ht hW
  exact ho.Nu i j t h hj ht (.inr hW)
 rcases ajh m i with h|h
 · rw [hr.zi h (aeh hp.lt) (fun j h1 h2 hW=>by
    have a1:=hw j (by have:=hp.lt;omega) hW;have a2:=hwr j (by have:=hp.lt;omega) hW;have:=a1.1 (a2.2 h2);omega) (cP hs)]
   exact hs
 rw [<- hr.zi h hm (fun j h1 h2 hW=>by
  have a1:=hw j (by omega) hW;have a2:=hwr j (by omega) hW;have:=a2.1 (a1.2 h2);omega) c9]
 exact hs
end
end Go.Vm
/- A region: one more operation keeps what holds. -/
namespace Go.Vm
theorem BR.amy {im eN:Im} {loc bz:Loc} {w w':World} {li:LI} {k:ky} (h:BR im loc w li k) (hi:oA im eN) (hl:mN loc bz)
 (hw:k.bS=al9->w'.heap[li.dw]? =w.heap[li.dw]?):BR eN bz w' li k:=by
 cases hs:k.bS with
 |true=>exact h.mono hi hl (hw hs)
 |false=>
  cases k with
  |arr e rows=>
   cases rows with
   |nil=>exact ⟨h.1,h.2.1,fun dW=>absurd rfl dW⟩
   |cons _ _=>cases hs
  |box _=>cases hs
  |map _=>cases hs
  |dead=>trivial
section
variable {F : nv} {rec : Task -> Option Out} {ops : List bY} {S : Nat -> St} {X : Nat -> Option XR} {xY : Nat -> Nat -> Prop} {im0 : Im} {loc0 : Loc} {w0 : World} {nt : Nat}
  {done : Nat -> Prop} {im : Im} {loc : Loc} {a : Act} {w : World} {i : Nat}
theorem yp.amz (hr:yp F rec ops S X) {j:Nat} (hj:j<al3 ops): ∀t,t∈(S j).fz->t∈(S (j+1)).fz:=by
 intro t ht;rcases hr.steps j _ (rc hj) with ⟨_,x,hx,_,_,hn⟩|⟨_,_,hn⟩
 · rw [hn]
   cases x with
   |loc r=>simp only [XR.next];exact aeK _ ht
   |shr v s z=>exact (Pj hx).2 t ht
 rw [hn];exact ht
theorem yp.Ew (hr : yp F rec ops S X) {m m' : Nat} (h : m <= m') (hm : m' <= (al3 ops)) : ∀ t, t ∈ (S m).fz -> t ∈ (S m').fz := by
  induction m' with
  | zero => have : m = 0 := by omega
            subst this; exact fun _ h => h
  | succ j ih =>
    rcases adB h with e | e
    · subst e; exact fun _ h => h
    exact fun t ht => hr.amz (by omega) t (ih (by omega) (by omega) t ht)
theorem yp.adR (hr:yp F rec ops S X) {j:Nat} (hj:j<al3 ops) {t:Nat} (h:FR X j t):t∈(S (j+1)).fz:=by
 rcases hr.steps j _ (rc hj) with ⟨_,x,hx,_,hX,hn⟩|⟨_,hX,_⟩
 · rw [hn]
   unfold FR at h;rw [hX] at h;cases x with
   |loc r=>exact aeU _ h
   |shr v s z=>exact h
 unfold FR at h;rw [hX] at h;exact h.elim
theorem amA {j t:Nat} (h:FR X j t):A X j t\/W X j t:=by
 unfold FR at h;unfold A W;cases hX:X j with
 |none=>rw [hX] at h;exact h.elim
 |some x=>
  rw [hX] at h;cases x with
  |loc r=>exact .inl (.inr h)
  |shr v s z=>exact .inr trivial
theorem Inv.Fa (hr:yp F rec ops S X) (ho:Ord ops S X xY) (hp:Place ops xY done i) {t:Nat} (hW:W X i t) (hz:t∉(S i).fz):
 t∉(S 0).fz/\ ∀j,j<al3 ops->done j-> ¬FR X j t:=by
 refine ⟨fun h=>hz (hr.Ew (adA _) (aeh hp.lt) t h),fun j hj hd hf=>?_⟩;rcases UV j i with h|h|h
 · exact hz (hr.Ew h (aeh hp.lt) t (hr.adR hj hf))
 · subst h;exact hp.nd hd
 exact hp.yq hj (ho.Nu i j t h hj hW (amA hf)) hd
theorem Inv.known (hr:yp F rec ops S X) (ho:Ord ops S X xY) (hv:Inv ops S X im0 loc0 w0 nt done im loc a w) (hp:Place ops xY done i) {r:ov} (hX:X i=al4 (.loc r)) (Ax:(XR.loc r).ok (S i).fz=al9)
 (hn:(S (i+1)).aD.length=(S i).aD.length+al3 r.news):jG im loc (S i).aD w r where
 bL:=hv.bL
 tok:=fun t ht li hl=>by
  obtain ⟨k,hc,sS⟩:=hv.tok t li hl;refine ⟨k,hv.cur hr ho hp hl ?_ hc,sS⟩;rcases ht with ht|ht
  · exact .inl (by unfold A;rw [hX];exact .inl ht)
  exact .inr (by unfold W;rw [hX];exact ht)
 free:=fun t k hm li k' hl hs my=>by
  have hW:W X i t:=by unfold W;rw [hX];exact ⟨k,hm⟩
  simp only [XR.ok,pp,adz,PP] at Ax;have hz:t∉(S i).fz:=jV.1 (Ax.1 (t,k) hm);obtain ⟨h0,h1⟩:=Inv.Fa hr ho hp hW hz;obtain ⟨k2,hc,_⟩:=hv.tok t li hl;have:=hv.cur hr ho hp hl (.inr hW) hc;rw [hs] at this;injection this with this;subst this;exact hv.free t li k' hl hc my h0 h1
 fresh:=fun j hj=>hv.fresh i hp.lt hp.nd _ (by omega) (by omega)
 jc:=fun t u li lj k k' ht hu hl mU hs vJ my HY hb=>by
  have aw: ∀t,(t∈r.rd\/ ∃b,(t,b)∈r.wr)->A X i t\/W X i t:=fun t h=>by
   rcases h with h|h
   · exact .inl (by unfold A;rw [hX];exact .inl h)
   exact .inr (by unfold W;rw [hX];exact h)
  obtain ⟨k1,DK,_⟩:=hv.tok t li hl;obtain ⟨k2,KA,_⟩:=hv.tok u lj mU;have e1:=hv.cur hr ho hp hl (aw t ht) DK;have e2:=hv.cur hr ho hp mU (aw u hu) KA;rw [hs] at e1;injection e1 with e1;subst e1;rw [vJ] at e2;injection e2 with e2;subst e2;exact hv.jc t u li lj _ _ hl mU DK KA my HY hb
theorem Inv.BD (hr:yp F rec ops S X) (ho:Ord ops S X xY) (hv:Inv ops S X im0 loc0 w0 nt done im loc a w) (hp:Place ops xY done i) {x:bY} (hx:ops[i]? =al4 x) {r:ov} (hX:X i=al4 (.loc r))
 (Ax:(XR.loc r).ok (S i).fz=al9) (hS:S (i+1)=(XR.loc r).next x.dst (S i)) {v':Value} {eN:Im} {bz:Loc} {w':World} (pg:VR eN bz r.v v') (he:tY im loc (S i).aD w r eN bz w')
 (tO: ∀d,x.dst=al4 d->d<nt):Inv ops S X im0 loc0 w0 nt (plus done i) eN bz (a.put x.dst v') w':=by
 have c9:(S (i+1)).aD.length=(S i).aD.length+(al3 r.news):=by rw [hS];simp [XR.next,rR,fW]
 have wK:=hp.lt;have Bs:wD r.wr=al9:=by simp only [XR.ok,pp] at Ax;exact Ax.2
 have qA:(S (i+1)).aD=gC r.wr (S i).aD++r.news:=by rw [hS];exact rR _ _
 have amB: ∀t k,(t,k)∈r.wr->t<(S i).aD.length->(S (i+1)).aD[t]? =al4 k:=by intro t k hm dV;rw [qA,AC (by rw [fW];exact dV)];exact E9 _ _ Bs hm dV
 have aeP: ∀j k,r.news[j]? =al4 k->(S (i+1)).aD[(S i).aD.length+j]? =al4 k:=by intro j k hj;rw [qA,IR (by rw [fW];omega),fW,show (S i).aD.length+j- (S i).aD.length=j by omega];exact hj
 have wlt: ∀t li,loc t=al4 li->W X i t->t<(S i).aD.length:=by intro t li hl hW;obtain ⟨k,hc,_⟩:=hv.tok t li hl;exact cP (hv.cur hr ho hp hl (.inr hW) hc)
 have Jq: ∀t k li,(t,k)∈r.wr->loc t=al4 li->BC S X (al3 ops) (plus done i) t k:=by
  intro t k li hm hl;have hW:W X i t:=by unfold W;rw [hX];exact ⟨k,hm⟩
  have dV:=wlt t li hl hW;refine ⟨i+1,wK,fun j hj Pm=>?_,fun c hc h1 h2=>?_,amB t k hm dV⟩
  · rcases UV j i with h|h|h
    · exact ⟨fun _=>by omega,fun _=> .inl (hp.pre j hj (ho.Nu j i t h wK Pm (.inr hW)))⟩
    · subst h;exact ⟨fun _=>by omega,fun _=> .inr rfl⟩
    refine ⟨fun hd=>?_,fun h'=>by omega⟩
    rcases hd with hd|hd
    · exact absurd hd (hp.yq hj (ho.Nu i j t h hj hW (.inr Pm)))
    omega
  rcases acl c (i+1) with h|h
  · exact h
  have:=hr.iN (show i<=c by omega) (by omega);omega
 have zj: ∀j k,r.news[j]? =al4 k->BC S X (al3 ops) (plus done i) ((S i).aD.length+j) k:=by
  intro j k hj;have Nh:=cP hj;refine ⟨i+1,wK,fun q hq hWq=>?_,fun c hc h1 h2=>?_,aeP j k hj⟩
  · rcases UV q i with h|h|h
    · refine ⟨fun _=>by omega,fun _=> .inl ?_⟩
      by_cases hs:rI X q
      ·
       refine hp.pre q hq (ho.KK q i h wK (.inl ⟨hs,?_⟩));unfold ik;rw [hX];exact .inr (.inr (.inr (by intro e;rw [e] at hj;simp at hj)))
      rcases ho.cl q _ hq hs (.inr hWq) with h'|h'
      · have:=hr.iN (show q<=i by omega) (by omega);omega
      exact hp.pre q hq (h' i h wK)
    · subst h;exact ⟨fun _=>by omega,fun _=> .inr rfl⟩
    refine ⟨fun hd=>?_,fun h'=>by omega⟩
    rcases hd with hd|hd
    · exfalso
      by_cases hs:rI X q
      · refine hp.yq hq (ho.KK i q h hq (.inr ⟨?_,hs⟩)) hd
        unfold ik;rw [hX];exact .inr (.inr (.inr (by intro e;rw [e] at hj;simp at hj)))
      exact hp.yq hq (ho.aeO i q _ h hq (by rintro ⟨v,s,z,e⟩;rw [hX] at e;cases e) (by omega) (by omega) hs hWq) hd
    omega
  rcases acl c (i+1) with h|h
  · exact h
  have:=hr.iN (show i+1<=c by omega) (by omega);omega
 have Pn: ∀t k,¬W X i t->BC S X (al3 ops) done t k->BC S X (al3 ops) (plus done i) t k:=by
  intro t k hW hc;obtain ⟨m,hm,h1,h2,h3⟩:=hc;refine ⟨m,hm,fun j hj Pm=>?_,h2,h3⟩;have dW:j≠i:=fun e=>hW (e▸Pm)
  have:=h1 j hj Pm;exact ⟨fun hd=>this.1 (hd.resolve_right dW),fun h=> .inl (this.2 h)⟩
 have apu: ¬rI X i:=by rintro ⟨v,s,z,e⟩;rw [hX] at e;cases e
 have zk: ∀t li,bz t=al4 li->(∃j k,t=(S i).aD.length+j/\r.news[j]? =al4 k/\loc t=al5)\/loc t=al4 li:=by
  intro t li hl;rcases he.lC t li hl with h|⟨h1,h2⟩
  · exact .inr h
  refine .inl ⟨t- (S i).aD.length,r.news[t- (S i).aD.length],by omega,rc (by omega),?_⟩
  exact hv.fresh i wK hp.nd t h1 (by omega)
 have old: ∀t li k,loc t=al4 li->BC S X (al3 ops) (plus done i) t k->k.bS=al9-> ∃k0,BC S X (al3 ops) done t k0/\k0.bS=al9/\BR im loc w li k0/\(¬W X i t->k0=k)/\(W X i t->(t,k)∈r.wr):=by
  intro t li k hl hc hs;obtain ⟨k0,Fb,sS⟩:=hv.tok t li hl
  by_cases hW:W X i t
  · have Jr:=hW
    unfold W at Jr;rw [hX] at Jr;obtain ⟨k2,hm⟩:=Jr;have e:=(Jq t k2 li hm hl).unique hr hc;subst e;obtain ⟨k3,h3,h4⟩:=he.QC t k2 hm hs;have:=hv.cur hr ho hp hl (.inr hW) Fb;rw [h3] at this;injection this with this;subst this;exact ⟨k3,Fb,h4,sS,fun h=>absurd hW h,fun _=>hm⟩
  have e:=(Pn t k0 hW Fb).unique hr hc
  subst e;exact ⟨k0,Fb,hs,sS,fun _=>rfl,fun h=>absurd h hW⟩
 have Js: ∀t k li k0,(t,k)∈r.wr->loc t=al4 li->(S i).aD[t]? =al4 k0->BC S X (al3 ops) done t k0:=by intro t k li k0 hm hl hs;obtain ⟨k1,DK,_⟩:=hv.tok t li hl;have:=hv.cur hr ho hp hl (.inr (by unfold W;rw [hX];exact ⟨k,hm⟩)) DK;rw [hs] at this;injection this with this;subst this;exact DK
 have S8: ∀t li k0,t∈r.fr->loc t=al4 li->(S i).aD[t]? =al4 k0->BC S X (al3 ops) done t k0:=by intro t li k0 hm hl hs;obtain ⟨k1,DK,_⟩:=hv.tok t li hl;have:=hv.cur hr ho hp hl (.inl (by unfold A;rw [hX];exact .inr hm)) DK;rw [hs] at this;injection this with this;subst this;exact DK
 refine {
  tm:=fun t=>?_
  bL:=he.bL
  tok:=fun t li hl=>?_
  jc:=fun t u li lj k k' hl mU hc CO hs vJ hb=>?_
  free:=fun t li k hl hc hs h0 hf=>?_
  fresh:=fun j hj Hk t h1 h2=>?_
  gX:=hv.gX.trans he.gX
  eh:=hv.eh.trans he.eh
  os:=he.os.trans hv.os
  tape:=he.tape.trans hv.tape
  output:=he.output.trans hv.output
  size:=ad5 hv.size he.size
  frame:=fun b hb hh=>?_
  ew:=fun b o hb=>?_
  oq:=fun t li hl=>?_
  own:=fun t li k hl hc hs=>?_
  defers:=by cases hd:x.dst<;>simp [Act.put,hv.defers]
  M7:=by cases hd:x.dst<;>simp [Act.put,hv.M7]}
 ·
  by_cases hd:x.dst=al4 t
  · refine ⟨i+1,wK,fun j y hy Pk=>?_,?_⟩
    · rcases UV j i with h|h|h
      · exact ⟨fun _=>by omega,fun _=> .inl (hp.pre j (cP hy) (ho.E' j i t y x h hy hx Pk (.inr hd)))⟩
      · subst h;exact ⟨fun _=>by omega,fun _=> .inr rfl⟩
      refine ⟨fun Lb=>?_,fun h'=>by omega⟩
      rcases Lb with Lb|Lb
      · exact absurd Lb (hp.yq (cP hy) (ho.E' i j t x y h hx hy hd (.inr Pk)))
      omega
    rw [hS]
    simp only [XR.next,hd,jb,rT,if_true,Act.put];have:=tO t hd;simp [hv.M7,this,pg]
  obtain ⟨m,hm,h1,h2⟩:=hv.tm t
  refine ⟨m,hm,fun j y hy Pk=>?_,?_⟩
  · have dW:j≠i:=by intro e;subst e;rw [hx] at hy;injection hy with hy;subst hy;exact hd Pk
    have:=h1 j y hy Pk;exact ⟨fun Lb=>this.1 (Lb.resolve_right dW),fun h=> .inl (this.2 h)⟩
  have:=h2.mono he.gX he.eh
  cases hxd:x.dst with
  |none=>simpa [Act.put] using this
  |some d=>
   have dW:d≠t:=fun e=>hd (by rw [hxd,e])
   simpa [Act.put,ad9,dW] using this
 ·
  rcases zk t li hl with ⟨j,k,rfl,hj,_⟩|QN
  · obtain ⟨h2,_⟩:=he.news j k li hj hl
    exact ⟨k,zj j k hj,h2⟩
  obtain ⟨k0,Fb,sS⟩:=hv.tok t li QN
  by_cases hW:W X i t
  · have Jr:=hW
    unfold W at Jr;rw [hX] at Jr;obtain ⟨k2,hm⟩:=Jr;exact ⟨k2,Jq t k2 li hm QN,he.wr t k2 li hm QN⟩
  refine ⟨k0,Pn t k0 hW Fb,sS.amy he.gX he.eh fun hs=>?_⟩
  refine he.frame _ (sS.lt hs) fun t2 k2 l2 k3 hm KU hs3 my Sq=>?_
  have:=hv.jc t2 t l2 li k3 k0 KU QN (Js t2 k2 l2 k3 hm KU hs3) Fb my hs Sq;subst this;exact hW (by unfold W;rw [hX];exact ⟨k2,hm⟩)
 ·
  have S9: ∀t u li lj k k',(∃j k,t=(S i).aD.length+j/\r.news[j]? =al4 k/\loc t=al5)->loc u=al4 lj->bz t=al4 li->BC S X (al3 ops) (plus done i) t k->BC S X (al3 ops) (plus done i) u k'->
   k.bS=al9->k'.bS=al9->li.dw=lj.dw->False:=by
   intro t u li lj k k' hj hlu hl hc CO hs vJ hb;obtain ⟨j,k1,rfl,hj,_⟩:=hj;have e:=(zj j k1 hj).unique hr hc;subst e;obtain ⟨h2,h3⟩:=he.news j k1 li hj hl;obtain ⟨k0,Fb,Jt,aeQ,hk0,hw0⟩:=old u lj k' hlu CO vJ;have dV:=aeQ.lt Jt;rcases (h3 hs).2 with h|⟨td,lt,kd,hm,hld,hsd,S',hbd⟩
   · omega
   have:=hv.jc td u lt lj kd k0 hld hlu (Js td _ lt kd hm hld hsd) Fb S' Jt (by rw [hbd,hb])
   subst this;have SQ:=hw0 (by unfold W;rw [hX];exact ⟨_,hm⟩);have e2:=(Jq td _ lj hm hlu).unique hr (Jq td _ lj SQ hlu);subst e2;cases vJ
  rcases zk t li hl with h1|h1
  · rcases zk u lj mU with h2|h2
    · obtain ⟨j1,k1,rfl,hj1,_⟩:=h1
      obtain ⟨j2,k2,rfl,hj2,_⟩:=h2;have e1:=(zj j1 k1 hj1).unique hr hc;have e2:=(zj j2 k2 hj2).unique hr CO;subst e1 e2;rw [he.distinct j1 j2 k1 k2 li lj hj1 hj2 hs vJ hl mU hb]
    exact (S9 t u li lj k k' h1 h2 hl hc CO hs vJ hb).elim
  rcases zk u lj mU with h2|h2
  · exact (S9 u t lj li k' k h2 h1 mU CO hc vJ hs hb.symm).elim
  obtain ⟨k0,Fb,Jt,_⟩:=old t li k h1 hc hs
  obtain ⟨k1,DK,hs1,_⟩:=old u lj k' h2 CO vJ;exact hv.jc t u li lj k0 k1 h1 h2 Fb DK Jt hs1 hb
 ·
  rcases zk t li hl with ⟨j,k1,rfl,hj,_⟩|QN
  · have e:=(zj j k1 hj).unique hr hc
    subst e;obtain ⟨h2,h3⟩:=he.news j k1 li hj hl;exact (h3 hs).1
  obtain ⟨k0,Fb,Jt,aeQ,_,_⟩:=old t li k QN hc hs
  have hn:=hv.free t li k0 QN Fb Jt h0 (fun j hj hd=>hf j hj (.inl hd));cases hb:eN li.dw with
  |none=>rfl
  |some o=>
   rcases he.ew _ _ hb with h|h|⟨t2,l2,k2,h1,h2,h3,h4,h5⟩
   · rw [hn] at h;cases h
   · have:=aeQ.lt Jt;omega
   have hm:=pX.1 h1
   have:=hv.jc t2 t l2 li k2 k0 h2 QN (S8 t2 l2 k2 hm h2 h3) Fb h4 Jt h5;subst this;exact absurd (by unfold FR;rw [hX];exact hm) (hf i wK (.inr rfl))
 ·
  have WA:j≠i:=fun e=>Hk (.inr e)
  have aeR: ¬done j:=fun h=>Hk (.inl h)
  cases hl:bz t with
  |none=>rfl
  |some li=>
   exfalso;rcases he.lC t li hl with h|⟨h3,h4⟩
   · rw [hv.fresh j hj aeR t h1 h2] at h;cases h
   rcases aig WA with h|h
   · have:=hr.iN (show j+1<=i by omega) (by omega);omega
   have:=hr.iN (show i+1<=j by omega) (by omega);omega
 ·
  have hb2:b<w.heap.size:=adJ hb hv.size;rw [he.frame b hb2 (fun t k li k0 hm hl hs my Sq=>?_)]
  · exact hv.frame b hb hh
  rcases hv.own t li k0 hl (Js t k li k0 hm hl hs) my with h|⟨u,lu,ku,h1,h2,h3,h4⟩
  · omega
  exact hh u lu ku h1 h2 h3 (by omega)
 · rcases he.ew b o hb with h|h|⟨t,li,k,h1,h2,h3,h4,h5⟩
   · exact hv.ew b o h
   · exact .inr (.inl (ad5 hv.size h))
   rcases hv.own t li k h2 (S8 t li k (pX.1 h1) h2 h3) h4 with h|⟨u,lu,ku,g1,g2,g3,g4⟩
   · exact .inr (.inl (by omega))
   exact .inr (.inr ⟨u,lu,ku,g1,g2,g3,by omega⟩)
 · rcases he.lC t li hl with h|⟨h,_⟩
   · exact hv.oq t li h
   exact .inr (ad5 (hr.iN (adA _) (by omega)) h)
 rcases zk t li hl with ⟨j,k1,rfl,hj,_⟩|QN
 · have e:=(zj j k1 hj).unique hr hc
   subst e;obtain ⟨h2,h3⟩:=he.news j k1 li hj hl;rcases (h3 hs).2 with h|⟨td,lt,kd,hm,hld,hsd,S',hbd⟩
   · exact .inl (ad5 hv.size h)
   rcases hv.own td lt kd hld (Js td _ lt kd hm hld hsd) S' with h|⟨u,lu,ku,g1,g2,g3,g4⟩
   · exact .inl (by omega)
   exact .inr ⟨u,lu,ku,g1,g2,g3,by omega⟩
 obtain ⟨k0,Fb,Jt,_⟩:=old t li k QN hc hs
 exact hv.own t li k0 QN Fb Jt
end
end Go.Vm
/- A region: a call that works on the blocks themselves, and a skipped operation. -/
namespace Go.Vm
section
variable {F : nv} {rec : Task -> Option Out} {ops : List bY} {S : Nat -> St} {X : Nat -> Option XR} {xY : Nat -> Nat -> Prop} {im0 : Im} {loc0 : Loc} {w0 : World} {nt : Nat}
  {done : Nat -> Prop} {im : Im} {loc : Loc} {a : Act} {w : World} {i : Nat}
theorem HZ {v:PV} {s:cK} {z:List Nat} (hX:X i=al4 (.shr v s z)) (t:Nat):W X i t:=by unfold W;rw [hX];trivial
theorem wL {j t:Nat} (h:W X j t):ik X j:=by
 unfold W at h;unfold ik;cases hX:X j with
 |none=>rw [hX] at h;exact h.elim
 |some x=>
  rw [hX] at h;cases x with
  |loc r=>obtain ⟨k,hk⟩:=h;exact .inr (.inr (.inl (by intro e;rw [e] at hk;cases hk)))
  |shr v s z=>trivial
theorem Inv.sr (hr:yp F rec ops S X) (ho:Ord ops S X xY) (hv:Inv ops S X im0 loc0 w0 nt done im loc a w) (hp:Place ops xY done i) {v:PV} {s:cK} {z:List Nat} (hX:X i=al4 (.shr v s z)):
 SR im loc (S i).aD (S i).fz w where
 bL:=hv.bL
 dw:=fun t li hl=>by obtain ⟨k,hc,hb⟩:=hv.tok t li hl;exact ⟨k,hv.cur hr ho hp hl (.inr (HZ hX t)) hc,hb⟩
 jc:=fun t u li lj k k' hl mU hs vJ h h' hb=>by obtain ⟨k1,DK,_⟩:=hv.tok t li hl;obtain ⟨k2,KA,_⟩:=hv.tok u lj mU;have e1:=hv.cur hr ho hp hl (.inr (HZ hX t)) DK;have e2:=hv.cur hr ho hp mU (.inr (HZ hX u)) KA;rw [hs] at e1;injection e1 with e1;subst e1;rw [vJ] at e2;injection e2 with e2;subst e2;exact hv.jc t u li lj _ _ hl mU DK KA h h' hb
 free:=fun t li k hl hs h hz=>by obtain ⟨k1,DK,_⟩:=hv.tok t li hl;have e1:=hv.cur hr ho hp hl (.inr (HZ hX t)) DK;rw [hs] at e1;injection e1 with e1;subst e1;obtain ⟨h0,h1⟩:=Inv.Fa hr ho hp (HZ hX t) (jV.1 hz);exact hv.free t li _ hl DK h h0 h1
theorem Inv.Ta {S:Nat->St} (ho:Ord ops S X xY) (hp:Place ops xY done i) {x:bY} (hx:ops[i]? =al4 x) {v:PV} {v':Value} {eN:Im} {bz:Loc}
 (hv:Inv ops S X im0 loc0 w0 nt done im loc a w) (hi:oA im eN) (hl:mN loc bz) (hS:(S (i+1)).env=jb x.dst v (S i).env) (pg:VR eN bz v v') (tO: ∀d,x.dst=al4 d->d<nt):
 ∀t,∃m,m<=al3 ops/\(∀j y,ops[j]? =al4 y->y.dst=al4 t->(plus done i j↔j<m))/\VR eN bz (lk t (S m).env) ((a.put x.dst v').tmps.getD t Go.undef):=by
 intro t;have wK:=hp.lt
 by_cases hd:x.dst=al4 t
 · refine ⟨i+1,wK,fun j y hy Pk=>?_,?_⟩
   · rcases UV j i with h|h|h
     · exact ⟨fun _=>by omega,fun _=> .inl (hp.pre j (cP hy) (ho.E' j i t y x h hy hx Pk (.inr hd)))⟩
     · subst h;exact ⟨fun _=>by omega,fun _=> .inr rfl⟩
     refine ⟨fun Lb=>?_,fun h'=>by omega⟩
     rcases Lb with Lb|Lb
     · exact absurd Lb (hp.yq (cP hy) (ho.E' i j t x y h hx hy hd (.inr Pk)))
     omega
   rw [hS]
   simp only [hd,jb,rT,if_true,Act.put];have:=tO t hd;simp [hv.M7,this,pg]
 obtain ⟨m,hm,h1,h2⟩:=hv.tm t
 refine ⟨m,hm,fun j y hy Pk=>?_,?_⟩
 · have dW:j≠i:=by intro e;subst e;rw [hx] at hy;injection hy with hy;subst hy;exact hd Pk
   have:=h1 j y hy Pk;exact ⟨fun Lb=>this.1 (Lb.resolve_right dW),fun h=> .inl (this.2 h)⟩
 have:=h2.mono hi hl
 cases hxd:x.dst with
 |none=>simpa [Act.put] using this
 |some d=>
  have dW:d≠t:=fun e=>hd (by rw [hxd,e])
  simpa [Act.put,ad9,dW] using this
theorem put_defers (a:Act) (d:Option Nat) (v:Value):(a.put d v).defers=a.defers:=by cases d<;>rfl
theorem Lc (a:Act) (d:Option Nat) (v:Value):(a.put d v).tmps.size=a.tmps.size:=by cases d<;>simp [Act.put]
theorem Inv.Tb (hr:yp F rec ops S X) (ho:Ord ops S X xY) (hv:Inv ops S X im0 loc0 w0 nt done im loc a w) (hp:Place ops xY done i) {x:bY} (hx:ops[i]? =al4 x) {v:PV} {s:cK} {z:List Nat}
 (hX:X i=al4 (.shr v s z)) (hS:S (i+1)=(XR.shr v s z).next x.dst (S i)) {v':Value} {eN:Im} {bz:Loc} {w':World} (hf:vN im loc (S i).aD w v s z eN bz w' v')
 (tO: ∀d,x.dst=al4 d->d<nt):Inv ops S X im0 loc0 w0 nt (plus done i) eN bz (a.put x.dst v') w':=by
 have wK:=hp.lt;have qA:(S (i+1)).aD=s:=by rw [hS];rfl
 have aeT: ∀t li,loc t=al4 li-> ∀k,(S i).aD[t]? =al4 k->BC S X (al3 ops) done t k:=by intro t li hl k hs;obtain ⟨k1,DK,_⟩:=hv.tok t li hl;have e1:=hv.cur hr ho hp hl (.inr (HZ hX t)) DK;rw [hs] at e1;injection e1 with e1;subst e1;exact DK
 have WB: ∀t k,s[t]? =al4 k->BC S X (al3 ops) (plus done i) t k:=by
  intro t k hs;refine ⟨i+1,wK,fun j hj Pm=>?_,fun c hc h1 h2=>?_,by rw [qA];exact hs⟩
  · rcases UV j i with h|h|h
    · exact ⟨fun _=>by omega,fun _=> .inl (hp.pre j hj (ho.KK j i h wK (.inr ⟨wL Pm,⟨v,s,z,hX⟩⟩)))⟩
    · subst h;exact ⟨fun _=>by omega,fun _=> .inr rfl⟩
    refine ⟨fun hd=>?_,fun h'=>by omega⟩
    rcases hd with hd|hd
    · exact absurd hd (hp.yq hj (ho.KK i j h hj (.inl ⟨⟨v,s,z,hX⟩,wL Pm⟩)))
    omega
  rcases acl c (i+1) with h|h
  · exact h
  have:=hr.iN (show i+1<=c by omega) (by omega)
  have:=cP hs;rw [qA] at*;omega
 have Ju: ∀t li,bz t=al4 li-> ∀k,BC S X (al3 ops) (plus done i) t k->s[t]? =al4 k:=by intro t li hl k hc;obtain ⟨k1,h1,_⟩:=hf.sr.dw t li hl;have:=hc.unique hr (WB t k1 h1);subst this;exact h1
 refine {
  tm:=Inv.Ta ho hp hx hv hf.gX hf.eh (by rw [hS];rfl) hf.vr tO
  bL:=hf.sr.bL
  tok:=fun t li hl=>by obtain ⟨k,h1,h2⟩:=hf.sr.dw t li hl;exact ⟨k,WB t k h1,h2⟩
  jc:=fun t u li lj k k' hl mU hc CO hs vJ hb=>hf.sr.jc t u li lj k k' hl mU (Ju t li hl k hc) (Ju u lj mU k' CO) hs vJ hb
  free:=fun t li k hl hc hs h0 sR=>by refine hf.sr.free t li k hl (Ju t li hl k hc) hs (jV.2 ?_);have:=sR i wK (.inr rfl);unfold FR at this;rw [hX] at this;exact this
  fresh:=fun j hj Hk t h1 h2=>?_
  gX:=hv.gX.trans hf.gX
  eh:=hv.eh.trans hf.eh
  os:=hf.os.trans hv.os
  tape:=hf.tape.trans hv.tape
  output:=hf.output.trans hv.output
  size:=ad5 hv.size hf.size
  frame:=fun b hb hh=>?_
  ew:=fun b o hb=>?_
  oq:=fun t li hl=>?_
  own:=fun t li k hl hc hs=>?_
  defers:=by rw [put_defers];exact hv.defers
  M7:=by rw [Lc];exact hv.M7}
 · have WA:j≠i:=fun e=>Hk (.inr e)
   have aeR: ¬done j:=fun h=>Hk (.inl h)
   cases hl:bz t with
   |none=>rfl
   |some li=>
    exfalso;obtain ⟨k,hk,_⟩:=hf.sr.dw t li hl;have dV:=cP hk;rcases hf.oq t li hl with h|h
    · rw [hv.fresh j hj aeR t h1 h2] at h;cases h
    rcases aig WA with h'|h'
    · have:=hr.iN (show j+1<=i by omega) (by omega);omega
    have:=hr.iN (show i+1<=j by omega) (by omega)
    rw [qA] at this;omega
 · rw [hf.frame b (adJ hb hv.size) fun t li k hl hs my Sq=>?_]
   · exact hv.frame b hb hh
   rcases hv.own t li k hl (aeT t li hl k hs) my with h|⟨u,lu,ku,g1,g2,g3,g4⟩
   · omega
   exact hh u lu ku g1 g2 g3 (by omega)
 · rcases hf.ew b o hb with h|h|⟨t,li,k,h1,h2,h3,h4⟩
   · exact hv.ew b o h
   · exact .inr (.inl (ad5 hv.size h))
   rcases hv.own t li k h1 (aeT t li h1 k h2) h3 with h|⟨u,lu,ku,g1,g2,g3,g4⟩
   · exact .inr (.inl (by omega))
   exact .inr (.inr ⟨u,lu,ku,g1,g2,g3,by omega⟩)
 · rcases hf.oq t li hl with h|h
   · exact hv.oq t li h
   exact .inr (ad5 (hr.iN (adA _) (by omega)) h)
 rcases hf.own t li k hl (Ju t li hl k hc) hs with h|⟨u,lu,ku,h1,h2,h3,h4⟩
 · exact .inl (ad5 hv.size h)
 rcases hv.own u lu ku h1 (aeT u lu h1 ku h2) h3 with h|⟨u',lu',ku',g1,g2,g3,g4⟩
 · exact .inl (by omega)
 exact .inr ⟨u',lu',ku',g1,g2,g3,by omega⟩
theorem Inv.step_skip (_hr:yp F rec ops S X) (ho:Ord ops S X xY) (hv:Inv ops S X im0 loc0 w0 nt done im loc a w) (hp:Place ops xY done i) {x:bY} (hx:ops[i]? =al4 x)
 (hX:X i=al5) (hS:S (i+1)={S i with env:=jb x.dst .jR (S i).env}) (tO: ∀d,x.dst=al4 d->d<nt):Inv ops S X im0 loc0 w0 nt (plus done i) im loc (a.put x.dst Go.undef) w:=by
 have wK:=hp.lt;have hnW: ∀t,¬W X i t:=fun t h=>by unfold W at h;rw [hX] at h;exact h
 have qA:(S (i+1)).aD=(S i).aD:=by rw [hS]
 have WB: ∀t k,BC S X (al3 ops) done t k->BC S X (al3 ops) (plus done i) t k:=by
  intro t k ⟨m,hm,h1,h2,h3⟩;refine ⟨m,hm,fun j hj Pm=>?_,h2,h3⟩;have dW:j≠i:=fun e=>hnW t (e▸Pm)
  have:=h1 j hj Pm;exact ⟨fun hd=>this.1 (hd.resolve_right dW),fun h=> .inl (this.2 h)⟩
 have Ju: ∀t k,BC S X (al3 ops) (plus done i) t k->BC S X (al3 ops) done t k:=by
  intro t k ⟨m,hm,h1,h2,h3⟩;refine ⟨m,hm,fun j hj Pm=>?_,h2,h3⟩;have dW:j≠i:=fun e=>hnW t (e▸Pm)
  have:=h1 j hj Pm;exact ⟨fun hd=>this.1 (.inl hd),fun h=>(this.2 h).resolve_right dW⟩
 refine {
  tm:=Inv.Ta ho hp hx hv (.refl _) (.refl _) (by rw [hS]) .jR tO
  bL:=hv.bL
  tok:=fun t li hl=>let ⟨k,h1,h2⟩:=hv.tok t li hl;⟨k,WB t k h1,h2⟩
  jc:=fun t u li lj k k' hl mU hc CO hs vJ hb=>hv.jc t u li lj k k' hl mU (Ju t k hc) (Ju u k' CO) hs vJ hb
  free:=fun t li k hl hc hs h0 sR=>hv.free t li k hl (Ju t k hc) hs h0 fun j hj hd=>sR j hj (.inl hd)
  fresh:=fun j hj Hk t h1 h2=>hv.fresh j hj (fun h=>Hk (.inl h)) t h1 h2
  gX:=hv.gX
  eh:=hv.eh
  os:=hv.os
  tape:=hv.tape
  output:=hv.output
  size:=hv.size
  frame:=hv.frame
  ew:=hv.ew
  oq:=hv.oq
  own:=fun t li k hl hc hs=>hv.own t li k hl (Ju t k hc) hs
  defers:=by rw [put_defers];exact hv.defers
  M7:=by rw [Lc];exact hv.M7}
theorem Inv.start {st:St} (h0:S 0=st) (kX:SR im0 loc0 st.aD st.fz w0) (her:ER im0 loc0 st.env a.tmps) (hd:a.defers=[]) (hn:a.tmps.size=nt) (hr:yp F rec ops S X):
 Inv ops S X im0 loc0 w0 nt (fun _=>False) im0 loc0 a w0:=by
 subst h0;have dV: ∀t li,loc0 t=al4 li->t<(S 0).aD.length:=fun t li hl=>let ⟨k,h,_⟩:=kX.dw t li hl;cP h
 have cur: ∀t li k,loc0 t=al4 li->BC S X (al3 ops) (fun _=>False) t k->(S 0).aD[t]? =al4 k:=by intro t li k hl ⟨m,hm,h1,h2,h3⟩;rw [<- hr.zi (adA m) hm (fun j _ hj hW=>(h1 j (by omega) hW).2 hj) (dV t li hl)];exact h3
 exact {
  tm:=fun t=>⟨0,adA _,fun j y _ _=>⟨fun h=>h.elim,fun h=>by omega⟩,her t⟩
  bL:=kX.bL
  tok:=fun t li hl=>by obtain ⟨k,h1,h2⟩:=kX.dw t li hl;refine ⟨k,⟨0,adA _,fun j _ _=>⟨fun h=>h.elim,fun h=>by omega⟩,fun c hc h3 h4=>?_,h1⟩,h2⟩;have:=dV t li hl;have:=hr.iN (adA c) (by omega);omega
  jc:=fun t u li lj k k' hl mU hc CO=>kX.jc t u li lj k k' hl mU (cur t li k hl hc) (cur u lj k' mU CO)
  free:=fun t li k hl hc hs hz _=>kX.free t li k hl (cur t li k hl hc) hs (jV.2 hz)
  fresh:=fun j hj _ t h1 h2=>by
   cases hl:loc0 t with
   |none=>rfl
   |some li=>have:=dV t li hl;have:=hr.iN (adA j) (by omega);omega
  gX:= .refl _
  eh:= .refl _
  os:=rfl
  tape:= .refl _
  output:=rfl
  size:=EQ _
  frame:=fun _ _ _=>rfl
  ew:=fun _ _ h=> .inl h
  oq:=fun _ _ h=> .inl h
  own:=fun t li k hl hc hs=> .inr ⟨t,li,k,hl,cur t li k hl hc,hs,rfl⟩
  defers:=hd
  M7:=hn}
structure Kept (im0:Im) (loc0:Loc) (jw:cK) (w0:World) (st:St) (im:Im) (loc:Loc) (w:World):Prop where
 sr:SR im loc st.aD st.fz w
 gX:oA im0 im
 eh:mN loc0 loc
 os:w.os=w0.os
 tape:Tape w0 w
 output:w.output=w0.output
 size:w0.heap.size<=w.heap.size
 frame: ∀b,b<w0.heap.size->(∀t li k,loc0 t=al4 li->jw[t]? =al4 k->k.bS=al9->li.dw≠b)->w.heap[b]? =w0.heap[b]?
 ew: ∀b o,im b=al4 o->im0 b=al4 o\/w0.heap.size<=b\/ ∃t li k,loc0 t=al4 li/\jw[t]? =al4 k/\k.bS=al9/\li.dw=b
 oq: ∀t li,loc t=al4 li->loc0 t=al4 li\/al3 jw<=t
 own: ∀t li k,loc t=al4 li->st.aD[t]? =al4 k->k.bS=al9->(w0.heap.size<=li.dw\/ ∃u lu ku,loc0 u=al4 lu/\jw[u]? =al4 ku/\ku.bS=al9/\lu.dw=li.dw)
theorem Inv.finish (hr : yp F rec ops S X) (hv : Inv ops S X im0 loc0 w0 nt done im loc a w) (hd : ∀ j, j < (al3 ops) -> done j) :
    Kept im0 loc0 (S 0).aD w0 (S (al3 ops)) im loc w /\ ER im loc (S (al3 ops)).env a.tmps /\ a.defers = [] /\ a.tmps.size = nt := by
  have cur : ∀ t k, BC S X (al3 ops) done t k -> (S (al3 ops)).aD[t]? = al4 k := by
    intro t k ⟨m, hm, h1, h2, h3⟩
    rw [hr.zi hm (EQ _) (fun j h4 h5 hW => by have := (h1 j h5 hW).1 (hd j h5); omega) (cP h3)]
    exact h3
  have WC : ∀ t li k, loc t = al4 li -> (S (al3 ops)).aD[t]? = al4 k -> BC S X (al3 ops) done t k := by
    intro t li k hl hs
    obtain ⟨k1, hc, _⟩ := hv.tok t li hl
    have := cur t k1 hc
    rw [hs] at this; injection this with this; subst this; exact hc
  refine ⟨{
    sr := { bL := hv.bL
            dw := fun t li hl => let ⟨k, h1, h2⟩ := hv.tok t li hl; ⟨k, cur t k h1, h2⟩
            jc := fun t u li lj k k' hl mU hs vJ => hv.jc t u li lj k k' hl mU (WC t li k hl hs) (WC u lj k' mU vJ)
            free := fun t li k hl hs my hz => by
              have hz := jV.1 hz
              refine hv.free t li k hl (WC t li k hl hs) my (fun h => hz (hr.Ew (adA _) (EQ _) t h)) fun j hj _ hf => ?_
              exact hz (hr.Ew (show j + 1 <= (al3 ops) from hj) (EQ _) t (hr.adR hj hf)) }
    gX := hv.gX, eh := hv.eh, os := hv.os, tape := hv.tape, output := hv.output, size := hv.size, frame := hv.frame, ew := hv.ew, oq := hv.oq
    own := fun t li k hl hs => hv.own t li k hl (WC t li k hl hs) }, fun t => ?_, hv.defers, hv.M7⟩
  obtain ⟨m, hm, h1, h2⟩ := hv.tm t
  rw [hr.Nt hm (EQ _) fun j hj h3 h4 tO => ?_]
  · exact h2
  have := (h1 j _ (rc hj) tO).1 (hd j hj); omega
end
end Go.Vm
/- One operation of a region, in the model. -/
namespace Go.Vm
theorem CX {P:Program} {o:Oper} {a:Act} {w:World} {f:FuncId} {us:Array Value} {R:Value->World->Prop} {next:Act->World->Prop} {Q:Exit->Act->World->Prop}
 (h:(execOp a.eval o).run P w=(callFunc f us).run P w) (hc:uX P f us w R) (hR: ∀v w',R v w'->next (a.put o.dst v) w'):o.wp P a w next Q:=by
 unfold Oper.wp;rw [h];rcases hc with ⟨v,w',h1,h2⟩|⟨h1,h2⟩
 · rw [h1,Oper.upon_value];exact hR v w' h2
 rw [h1,Oper.upon_enter]
 refine h2.mono fun e w' ⟨v,he,hv⟩=>?_
 subst he;exact hR v w' hv
theorem Nv {im:Im} {loc:Loc} {e:Env} {a:Act} (x:fS) (h: ∀t,x= .t t->VR im loc (lk t e) (a.tmps.getD t Go.undef)) (o:Operand) (hc:bH x o=al9):VR im loc (x.ev e) (a.eval o):=by
 unfold bH at hc;split at hc
 · rename_i n m
   have:n=m:=by simpa using hc
   subst this;exact h n rfl
 · exact Jc hc
 · rename_i f g
   have:f=g:=by simpa using hc
   subst this;exact .eO f [] [] [] [] .nil .nil
 · exact .undef _
 cases hc
section
variable {P : Program} {F : nv} {rec : Task -> Option Out} {ops : List bY} {S : Nat -> St} {X : Nat -> Option XR} {xY : Nat -> Nat -> Prop} {im0 : Im} {loc0 : Loc} {w0 : World} {nt : Nat}
  {done : Nat -> Prop} {im : Im} {loc : Loc} {a : Act} {w : World} {i : Nat} {prims : FuncId -> Bool} {jj : Array Oper}
theorem VR.WD {v:Value} (h:VR im loc .jR v):v=Go.undef:=by cases h;rfl
theorem wM {r:ov} {d:Option Nat} {st:St}:((XR.loc r).next d st).aD.length=al3 st.aD+(al3 r.news):=by simp [XR.next,rR,fW]
theorem H3 {x:bY} {o:Oper} {e:Env} {b:Bool} (hc:vP jj x.guard o.guard=al9) (hs: ∀s c,x.guard=al4 (s,c)->VR im loc (lk s e) (a.tmps.getD s Go.undef)) (h:wanted x.guard e=al4 b):
 Region.wanted o (yielded jj a.tmps)=b:=by
 unfold Region.wanted;cases hg:x.guard with
 |none=>
  rw [hg] at hc h;cases ho:o.guard with
  |none=>simp [wanted] at h;subst h;rfl
  |some q=>rw [ho] at hc;simp [vP] at hc
 |some q=>
  obtain ⟨s,c⟩:=q;rw [hg] at hc h;cases ho:o.guard with
  |none=>rw [ho] at hc;simp [vP] at hc
  |some q'=>
   obtain ⟨j,c'⟩:=q';rw [ho] at hc;simp only [vP,pp,beq_iff_eq] at hc;obtain ⟨rfl,hd⟩:=hc;have hv:=hs s c hg;dsimp only;unfold yielded;rw [hd];simp only [wanted] at h;simp only [Option.bind_some];split at h
   · rename_i b' hl
     rw [hl] at hv;have:=hv.jU;have ht:a.tmps[s]? =al4 (.bool b'):=by
      simp only [adc] at this;cases hq:a.tmps[s]? with
      |none=>rw [hq] at this;simp [Go.undef] at this
      |some u=>rw [hq] at this;exact congrArg al4 this
     rw [ht];rw [ut] at h;rw [<- h];cases b'<;>cases c<;>rfl
   · rename_i hl
     rw [hl] at hv;have:a.tmps.getD s Go.undef=Go.undef:=hv.WD;injection h with h;subst h;have ht: ∀b',a.tmps[s]?≠al4 (.bool b'):=by intro b' hq;simp only [adc,hq,Option.getD_some,Go.undef] at this;cases this
     split
     · rename_i b' hq
       exact absurd hq (ht b')
     rfl
   cases h
structure Jv (P:Program) (F:nv) (rec:Task->Option Out):Prop where
 func:CT P rec
 kG:zh P F
theorem Inv.wpOp (hE:Jv P F rec) (hr:yp F rec ops S X) (ho:Ord ops S X xY) (hv:Inv ops S X im0 loc0 w0 nt done im loc a w) (hp:Place ops xY done i) {x:bY} {o:Oper} (hx:ops[i]? =al4 x) (hmo:jj[i]? =al4 o)
 (hc:rV P prims nt jj x o=al9) {Q:Exit->Act->World->Prop} {K:Act->World->Prop}
 (hK: ∀eN bz a' w',Inv ops S X im0 loc0 w0 nt (plus done i) eN bz a' w'->K a' w'):Go.wpOp P jj Q i K a w:=by
 unfold rV at hc;simp only [pp,beq_iff_eq] at hc;obtain ⟨⟨⟨tO,hnt⟩,hg⟩,fP⟩:=hc;have hd: ∀d,x.dst=al4 d->d<nt:=by intro d h;rw [h] at hnt;simpa using hnt
 have adS: ∀t,t∈aB x->VR im loc (lk t (S i).env) (a.tmps.getD t Go.undef):=fun t ht=>hv.slot hr ho hp hx ht
 have QS: ∀y∈x.op.fH,∀o',bH y o'=al9->VR im loc (y.ev (S i).env) (a.eval o'):=by intro y hy o' hco;refine Nv y (fun t ht=>adS t ?_) o' hco;subst ht;exact aeU _ (List.mem_filterMap.2 ⟨.t t,hy,rfl⟩)
 have hgs: ∀s c,x.guard=al4 (s,c)->VR im loc (lk s (S i).env) (a.tmps.getD s Go.undef):=by intro s c h;refine adS s (aeK _ ?_);rw [h];simp
 unfold Go.wpOp;simp only [hmo];rcases hr.steps i x hx with ⟨hw,xr,hU,Ax,hX,hS⟩|⟨hw,hX,hS⟩
 · rw [H3 hg hgs hw]
   simp only [if_true];left;have Fc: ∀{own:Bool} {f:FuncId} {args:List PV} {us:List Value} {r:ov},xr= .loc r->dF F rec own f args (S i).aD (S i).fz=al4 r->fx im loc args us->
    (execOp a.eval o).run P w=(callFunc f ⟨us⟩).run P w->o.wp P a w K Q:=by
    intro own f args us r hxr hcp x4 cB;subst hxr;have hk:=hv.known hr ho hp hX Ax (by rw [hS];exact wM);refine CX cB (Jp hE.func hE.kG hcp x4 hk) fun v' w' ⟨eN,bz,pg,xX⟩=>?_
    exact hK _ _ _ _ (tO▸hv.BD hr ho hp hx hX Ax hS pg xX hd)
   have Ld: ∀{f:FuncId} {args:List PV} {us:List Value},gm rec f args (S i).aD (S i).fz=al4 xr->fx im loc args us->
    (execOp a.eval o).run P w=(callFunc f ⟨us⟩).run P w->o.wp P a w K Q:=by
    intro f args us nA x4 cB;unfold gm at nA;split at nA
    · rename_i v s z EZ
      split at nA
      · injection nA with nA;subst nA
        refine CX cB (hE.func f args _ _ v s z EZ im loc w us (hv.sr hr ho hp hX) x4) fun v' w' ⟨eN,bz,hf⟩=>?_
        exact hK _ _ _ _ (tO▸hv.Tb hr ho hp hx hX hS hf hd)
      cases nA
    cases nA
   have aeV: ∀{r:ov},xr= .loc r->bI (S i).env (S i).aD (S i).fz x.op=al4 r->o.wp P a w K Q:=by
    intro r hxr he;subst hxr;have hk:=hv.known hr ho hp hX Ax (by rw [hS];exact wM);obtain ⟨nx,w',bz,cB,hnx,xX⟩:=SP fP QS he hk;unfold Oper.wp;rw [cB];rcases hnx with ⟨rfl,hu⟩|⟨v,rfl,pg⟩
    · rw [Oper.upon_skip]
      exact hK _ _ _ _ (tO▸hv.BD hr ho hp hx hX Ax hS (by rw [hu];exact .undef _) xX hd)
    rw [Oper.upon_value]
    exact hK _ _ _ _ (tO▸hv.BD hr ho hp hx hX Ax hS pg xX hd)
   cases V':x.op with
   |call m f args=>
    rw [V'] at hU fP QS;have Tc: ∃as Wa,o.op= .call {callee:= .value (.func f),args:=as,argTypes:=Wa}/\fy args as.toList=al9:=by
     cases Sr:o.op with
     |call c=>
      obtain ⟨callee,as,Wa⟩:=c;rw [Sr] at fP;cases callee with
      |value g=>
       cases g with
       |func g=>simp only [xJ,pp,beq_iff_eq] at fP;obtain ⟨⟨rfl,_⟩,h⟩:=fP;exact ⟨as,Wa,rfl,h⟩
       |_=>simp [xJ] at fP
      |_=>simp [xJ] at fP
     |_=>rw [Sr] at fP;simp [xJ] at fP
    obtain ⟨as,Wa,Sr,hco⟩:=Tc;have vM:fx im loc (EH (S i).env args) (as.toList.map a.eval):=nR (fun y hy=>QS y (by simpa [lA.fH] using hy)) hco;have cB:(execOp a.eval o).run P w=(callFunc f ⟨as.toList.map a.eval⟩).run P w:=by
     have:(⟨as.toList.map a.eval⟩:Array Value)=as.map a.eval:=by apply akT;simp
     rw [this];simp [execOp,Sr,resolve,Act.eval,Deferred.ofValue,invoke]
    cases m with
    |V6=>simp only [xH,Do] at hU;obtain ⟨r,Po,Pp⟩:=hU;exact Fc Pp.symm Po vM cB
    |own=>simp only [xH,Do] at hU;obtain ⟨r,Po,Pp⟩:=hU;exact Fc Pp.symm Po vM cB
    |shr=>exact Ld hU vM cB
    |fp=>
     simp only [xH,Do] at hU;obtain ⟨r,Po,Pp⟩:=hU;subst Pp;have hk:=hv.known hr ho hp hX Ax (by rw [hS];exact wM);refine CX cB (Nq hE.func Po vM hk) fun v' w' ⟨eN,bz,pg,xX⟩=>?_
     exact hK _ _ _ _ (tO▸hv.BD hr ho hp hx hX Ax hS pg xX hd)
   |xF y args=>
    rw [V'] at hU fP QS;have Tc: ∃t as Wa,o.op= .call {callee:= .value (.tmp t),args:=as,argTypes:=Wa}/\bH y (.tmp t)=al9/\fy args as.toList=al9:=by
     cases Sr:o.op with
     |call c=>
      obtain ⟨callee,as,Wa⟩:=c;rw [Sr] at fP;cases callee with
      |value g=>
       cases g with
       |tmp g=>simp only [xJ,pp] at fP;exact ⟨g,as,Wa,rfl,fP.1,fP.2⟩
       |_=>simp [xJ] at fP
      |_=>simp [xJ] at fP
     |_=>rw [Sr] at fP;simp [xJ] at fP
    obtain ⟨t,as,Wa,Sr,hcy,hco⟩:=Tc;have vM:fx im loc (EH (S i).env args) (as.toList.map a.eval):=nR (fun y hy=>QS y (by simp [lA.fH,hy])) hco;have hy:=QS y (by simp [lA.fH]) (.tmp t) hcy;simp only [xH] at hU;split at hU
    · rename_i f p q Td
      rw [Td] at hy;generalize hgv:a.eval (.tmp t)=gv at hy;cases hy with
      |eO _ _ _ us vs h1 h2=>
      have lF:=(h1.append vM).append h2;have cB:(execOp a.eval o).run P w=(callFunc f ⟨us++as.toList.map a.eval++vs⟩).run P w:=by
       have:(⟨us++as.toList.map a.eval++vs⟩:Array Value)=(⟨us⟩++as.map a.eval)++⟨vs⟩:=by apply akT;simp
       rw [this];simp [execOp,Sr,resolve,hgv,Deferred.ofValue,invoke]
      split at hU
      · exact Ld hU lF cB
      rw [Do] at hU
      obtain ⟨r,Po,Pp⟩:=hU;exact Fc Pp.symm Po lF cB
    cases hU
   |_=>rw [V'] at hU;simp only [xH,Do] at hU;obtain ⟨r,Po,Pp⟩:=hU;exact aeV Pp.symm (by rw [V'];exact Po)
 rw [H3 hg hgs hw]
 simp only [NE,if_false];exact hK _ _ _ _ (tO▸hv.step_skip hr ho hp hx hX hS hd)
end
end Go.Vm
/- A region, in the order of the text or in a drawn one. -/
namespace Go.Vm
def vQ (P:Program) (prims:FuncId->Bool) (nt:Nat) (jj:Array Oper):List bY->List Oper->Bool
 | [],[]=>al9
 |x::xs,o::os=>rV P prims nt jj x o&&vQ P prims nt jj xs os
 |_,_=>ala
theorem BE {P:Program} {prims:FuncId->Bool} {nt:Nat} {jj:Array Oper}: ∀{xs:List bY} {os:List Oper},vQ P prims nt jj xs os=al9->
 (al3 xs)=al3 os/\ ∀(i:Nat) (x:bY) (o:Oper),xs[i]? =al4 x->os[i]? =al4 o->rV P prims nt jj x o=al9
 | [],[],_=>⟨rfl,fun i x o h=>by simp at h⟩
 |x::xs,o::os,h=>by
  simp only [vQ,pp] at h;obtain ⟨h1,h2⟩:=BE h.2;refine ⟨by simp [h1],fun i y p hy hp=>?_⟩;cases i with
  |zero=>simp at hy hp;subst hy hp;exact h.1
  |succ i=>exact h2 i y p (by simpa using hy) (by simpa using hp)
 | [],_::_,h=>by simp [vQ] at h
 |_::_,[],h=>by simp [vQ] at h
def bit (m i:Nat):Bool:=Nat.testBit m i
def nT (jH:List Nat) (j:Nat):List Edge->Option Nat
 | []=>al4 0
 |e::es=>match nT jH j es with
  |some m=>if Region.binds .any e then (if adQ e.on j then al4 (m|||((jH.getD e.on 0)|||(1<<<e.on))) else al5) else al4 m
  |none=>al5
def vR (jH:List Nat):Nat->List Nat->List Oper->Bool
 |_,[],[]=>al9
 |j,m::ms,o::os=>(match nT jH j o.after.toList with|some m'=>m==m'|none=>ala)&&vR jH (j+1) ms os
 |_,_,_=>ala
def vS (i : Nat) (x : bY) (ux : List Nat) : List bY -> List Nat -> Bool
  | [], _ => al9
  | y :: ys, m :: ms => (bit m i || ((match x.dst with
      | some d => !has (aB y) d && (match y.dst with | some d' => !(v6 d d') | none => al9)
      | none => al9) && (match y.dst with | some d => !has ux d | none => al9))) && vS i x ux ys ms
  | _ :: _, [] => ala
def vT:Nat->List bY->List Nat->Bool
 |_,[],_=>al9
 |i,x::xs,_::ms=>vS i x (aB x) xs ms&&vT (i+1) xs ms
 |_,_::_,[]=>ala
def CY (P:Program) (prims:FuncId->Bool) (nt:Nat) (draw:Option (List Nat)) (aeW:List bY) (jj:Array Oper) (flag:Bool):Bool:=
 vQ P prims nt jj aeW jj.toList&&match draw with
 |none=>!flag
 |some bf=>flag&&v6 (al3 bf) (al3 aeW)&&vR bf 0 bf jj.toList&&vT 0 aeW bf
section
variable {P : Program} {F : nv} {rec : Task -> Option Out} {ops : List bY} {S : Nat -> St} {X : Nat -> Option XR} {xY : Nat -> Nat -> Prop} {im0 : Im} {loc0 : Loc} {w0 : World} {nt : Nat}
  {done : Nat -> Prop} {im : Im} {loc : Loc} {a : Act} {w : World} {i : Nat} {prims : FuncId -> Bool} {jj : Array Oper}
theorem Ord.text:Ord ops S X (· < ·) where
 E':=fun _ _ _ _ _ h _ _ _ _=>h
 S7:=fun _ _ _ _ _ h _ _ _ _=>h
 Nu:=fun _ _ _ h _ _ _=>h
 aeN:=fun _ _ _ h _ _ _=>h
 aeO:=fun _ _ _ h _ _ _ _ _ _=>h
 KK:=fun _ _ h _ _=>h
 cl:=fun _ _ _ _ _=> .inr fun _ h _=>h
theorem Fe (hE:Jv P F rec) (hr:yp F rec ops S X) (hc: ∀(i:Nat) (x:bY) (o:Oper),ops[i]? =al4 x->jj[i]? =al4 o->rV P prims nt jj x o=al9) (c9:(al3 ops)=jj.size)
 {Q:Exit->Act->World->Prop} (hQ: ∀im loc a w,Inv ops S X im0 loc0 w0 nt (fun i=>i<al3 ops) im loc a w->Q .normal a w):
 ∀(d n:Nat) (im:Im) (loc:Loc) (a:Act) (w:World),n+d=al3 ops->Inv ops S X im0 loc0 w0 nt (fun i=>i<n) im loc a w->wpOps P jj Q (List.range' n d) a w
 |0,n,im,loc,a,w,hn,hv=>by
  have:n=(al3 ops):=by omega
  subst this;exact hQ im loc a w hv
 |d+1,n,im,loc,a,w,hn,hv=>by
  rw [List.range'_succ,wpOps_cons];have hx:=rc (show n<(al3 ops) by omega);have ho:=aem (show n<jj.size by omega);refine Inv.wpOp hE hr Ord.text hv {lt:=by omega,nd:=by omega,pre:=fun j _ h=>h,eO:=fun k _ h1 j _ h2=>by omega} hx ho (hc n _ _ hx ho) fun eN bz a' w' h'=>?_
  refine Fe hE hr hc c9 hQ d (n+1) eN bz a' w' (by omega) ?_;have e:plus (fun i=>i<n) n=fun i=>i<n+1:=by
   funext j;unfold plus;apply propext;omega
  rw [e] at h';exact h'
def WE (jH:List Nat) (i j:Nat):Prop:=bit (jH.getD j 0) i=al9
theorem wN {jH:List Nat} {j:Nat}: ∀{es:List Edge} {m:Nat},nT jH j es=al4 m->(∀e∈es,Region.binds .any e=al9->e.on<j)/\
 ∀i,bit m i=al9-> ∃e∈es,Region.binds .any e=al9/\(e.on=i\/bit (jH.getD e.on 0) i=al9)
 | [],m,h=>by simp only [nT,ut] at h;subst h;exact ⟨fun e h=>(by cases h),fun i h=>by simp [bit] at h⟩
 |e::es,m,h=>by
  simp only [nT] at h;split at h
  · rename_i m' CW
    obtain ⟨h1,h2⟩:=wN CW;split at h
    · rename_i hb
      split at h
      · rename_i dV
        injection h with h;subst h;refine ⟨fun e' Cz Bl=>?_,fun i hi=>?_⟩
        · rcases adP.1 Cz with rfl|Cz
          · simpa using dV
          exact h1 e' Cz Bl
        simp only [bit,Nat.testBit_or,aeF] at hi
        rcases hi with hi|hi|hi
        · obtain ⟨e',Cz,h3⟩:=h2 i hi
          exact ⟨e',ae7 _ Cz,h3⟩
        · exact ⟨e,by simp,hb,.inr hi⟩
        refine ⟨e,by simp,hb,.inl ?_⟩
        rw [Nat.one_shiftLeft,Nat.testBit_two_pow] at hi;simpa using hi
      cases h
    rename_i hb
    injection h with h;subst h;refine ⟨fun e' Cz Bl=>?_,fun i hi=>?_⟩
    · rcases adP.1 Cz with rfl|Cz
      · exact absurd Bl hb
      exact h1 e' Cz Bl
    obtain ⟨e',Cz,h3⟩:=h2 i hi
    exact ⟨e',ae7 _ Cz,h3⟩
  cases h
theorem DN {jH:List Nat}: ∀{j:Nat} {ms:List Nat} {os:List Oper},vR jH j ms os=al9->al3 ms=al3 os/\
 ∀(k:Nat) (m:Nat) (o:Oper),ms[k]? =al4 m->os[k]? =al4 o->nT jH (j+k) o.after.toList=al4 m
 |j,[],[],_=>⟨rfl,fun k m o h=>by simp at h⟩
 |j,m::ms,o::os,h=>by
  simp only [vR,pp] at h;obtain ⟨h1,h2⟩:=h;obtain ⟨h3,h4⟩:=DN h2;refine ⟨by simp [h3],fun k m' o' hm ho=>?_⟩;cases k with
  |zero=>
   simp at hm ho;subst hm ho;split at h1
   · rename_i m2 SQ
     have:m=m2:=by simpa using h1
     subst this;exact SQ
   cases h1
  |succ k=>have:=h4 k m' o' (by simpa using hm) (by simpa using ho);rw [show j+(k+1)=j+1+k by omega];exact this
 |j,[],_::_,h=>by simp [vR] at h
 |j,_::_,[],h=>by simp [vR] at h
theorem BF {i:Nat} {x:bY} {ux:List Nat}: ∀{ys:List bY} {ms:List Nat},vS i x ux ys ms=al9-> ∀(k:Nat) (y:bY),ys[k]? =al4 y->
 bit (ms.getD k 0) i=al9\/((∀d,x.dst=al4 d->d∉aB y/\y.dst≠al4 d)/\ ∀d,y.dst=al4 d->d∉ux)
 | [],_,_,k,y,h=>by simp at h
 |z::ys,[],h,k,y,hy=>by simp [vS] at h
 |z::ys,m::ms,h,k,y,hy=>by
  simp only [vS,pp,aeF] at h;obtain ⟨h1,h2⟩:=h;cases k with
  |succ k=>simpa using BF h2 k y (by simpa using hy)
  |zero=>
   simp at hy;subst hy;rcases h1 with h1|⟨h1,h3⟩
   · exact .inl (by simpa using h1)
   refine .inr ⟨fun d hd=>?_,fun d hd=>?_⟩
   · rw [hd] at h1
     simp only [pp,PP] at h1;refine ⟨jV.1 h1.1,fun hz=>?_⟩;rw [hz] at h1;simp at h1
   rw [hd] at h3
   simp only [PP] at h3;exact jV.1 h3
theorem yr: ∀{i0:Nat} {xs:List bY} {ms:List Nat},vT i0 xs ms=al9-> ∀(i j:Nat) (x y:bY),i<j->xs[i]? =al4 x->xs[j]? =al4 y->
 bit (ms.getD j 0) (i0+i)=al9\/((∀d,x.dst=al4 d->d∉aB y/\y.dst≠al4 d)/\ ∀d,y.dst=al4 d->d∉aB x)
 |i0,[],_,_,i,j,x,y,_,hx,_=>by simp at hx
 |i0,z::xs,[],h,i,j,x,y,_,hx,_=>by simp [vT] at h
 |i0,z::xs,m::ms,h,i,j,x,y,lL,hx,hy=>by
  simp only [vT,pp] at h;obtain ⟨h1,h2⟩:=h;cases j with
  |zero=>omega
  |succ j=>
   cases i with
   |zero=>simp at hx;subst hx;simpa using BF h1 j y (by simpa using hy)
   |succ i=>have:=yr h2 i j x y (by omega) (by simpa using hx) (by simpa using hy);rw [show i0+(i+1)=i0+1+i by omega];simpa using this
theorem H4 {i:Nat} {t:Tr}: ∀{l:List (Tr×Nat)},I8 i t l=al9-> ∀(k:Nat) (b:Tr) (m:Nat),l[k]? =al4 (b,m)->t.vE b=al9->bit m i=al9
 | [],_,k,b,m,h,_=>by simp at h
 |(b',m')::r,h,k,b,m,hk,hc=>by
  simp only [I8,pp,aeF,PP] at h;cases k with
  |zero=>
   simp at hk;obtain ⟨rfl,rfl⟩:=hk;rcases h.1 with h1|h1
   · rw [hc] at h1;cases h1
   exact h1
  |succ k=>exact H4 h.2 k b m (by simpa using hk) hc
theorem Ff: ∀{i0:Nat} {l:List (Tr×Nat)},rS i0 l=al9->(∀(i:Nat) (t:Tr) (m:Nat),l[i]? =al4 (t,m)->t.cl=al9)/\
 ∀(i j:Nat) (t b:Tr) (m m':Nat),i<j->l[i]? =al4 (t,m)->l[j]? =al4 (b,m')->t.vE b=al9->bit m' (i0+i)=al9
 |_,[],_=>⟨fun i t m h=>by simp at h,fun i j t b m m' _ h=>by simp at h⟩
 |i0,(t0,m0)::r,h=>by
  simp only [rS,pp] at h;obtain ⟨⟨h1,h2⟩,h3⟩:=h;obtain ⟨h4,h5⟩:=Ff h3;refine ⟨fun i t m hi=>?_,fun i j t b m m' lL hi hj hc=>?_⟩
  · cases i with
    |zero=>simp at hi;obtain ⟨rfl,rfl⟩:=hi;exact h1
    |succ i=>exact h4 i t m (by simpa using hi)
  cases j with
  |zero=>omega
  |succ j=>
   cases i with
   |zero=>simp at hi;obtain ⟨rfl,rfl⟩:=hi;exact H4 h2 j b m' (by simpa using hj) hc
   |succ i=>rw [show i0+(i+1)=i0+1+i by omega];exact h5 i j t b m m' (by omega) (by simpa using hi) (by simpa using hj) hc
theorem Fg {l m:List Nat} {t:Nat} (h1:t∈l) (h2:t∈m):meets l m=al9:=by unfold meets;rw [ak2];exact ⟨t,h1,pX.2 h2⟩
theorem Ord.drawn (hr : yp F rec ops S X) {jH : List Nat} (KB : (al3 jH) = (al3 ops)) (hs : vT 0 ops jH = al9) (ho : rS 0 ((zY S X (al3 ops)).zip jH) = al9) : Ord ops S X (WE jH) := by
  obtain ⟨zV, hcz⟩ := Ff ho
  have Ee : ∀ i, i < (al3 ops) -> ((zY S X (al3 ops)).zip jH)[i]? = al4 (zR (X i) (S i), jH.getD i 0) := by
    intro i hi
    rw [List.getElem?_zip_eq_some]
    refine ⟨?_, ?_⟩
    · unfold zY; simp [hi]
    rw [aej, rc (by omega)]; rfl
  have vE : ∀ i j, i < j -> j < (al3 ops) -> (zR (X i) (S i)).vE (zR (X j) (S j)) = al9 -> WE jH i j := by
    intro i j lL hj hc
    have := hcz i j _ _ _ _ lL (Ee i (by omega)) (Ee j hj) hc
    unfold WE; simpa using this
  have tch : ∀ j, ik X j -> (zR (X j) (S j)).ik = al9 := by
    intro j h
    unfold ik at h
    unfold zR
    cases hX : X j with
    | none => rw [hX] at h; exact h.elim
    | some x =>
      rw [hX] at h
      cases x with
      | shr v s z => rfl
      | loc r =>
        simp only [XR.tr, Tr.ik, Bool.or_false]
        rcases h with h | h | h | h
        · cases Hq : r.rd with
          | nil => exact absurd Hq h
          | cons _ _ => simp
        · cases Hq : r.fr with
          | nil => exact absurd Hq h
          | cons _ _ => simp
        · cases Hq : r.wr with
          | nil => exact absurd Hq h
          | cons _ _ => simp
        cases Hq : r.news with
        | nil => exact absurd Hq h
        | cons _ _ => simp
  have brr : ∀ j, rI X j -> (zR (X j) (S j)).KK = al9 := by
    rintro j ⟨v, s, z, h⟩; rw [h]; rfl
  have tW : ∀ j t, W X j t -> ik X j := fun j t h => wL h
  have tA : ∀ j t, A X j t -> ik X j := by
    intro j t h
    unfold A at h; unfold ik
    cases hX : X j with
    | none => rw [hX] at h; exact h.elim
    | some x =>
      rw [hX] at h
      cases x with
      | shr v s z => exact h.elim
      | loc r =>
        rcases h with h | h
        · exact .inl (by intro e; rw [e] at h; cases h)
        exact .inr (.inl (by intro e; rw [e] at h; cases h))
  have KK : ∀ i j, i < j -> j < (al3 ops) -> (rI X i /\ ik X j \/ ik X i /\ rI X j) -> WE jH i j := by
    intro i j lL hj h
    refine vE i j lL hj ?_
    unfold Tr.vE
    rcases h with ⟨h1, h2⟩ | ⟨h1, h2⟩
    · rw [brr i h1, tch j h2]; simp
    rw [brr j h2, tch i h1]; simp
  have wrT : ∀ j t, W X j t -> ¬ rI X j -> t ∈ (zR (X j) (S j)).wr := by
    intro j t h hn
    unfold W at h
    cases hX : X j with
    | none => rw [hX] at h; exact h.elim
    | some x =>
      rw [hX] at h
      cases x with
      | shr v s z => exact absurd ⟨v, s, z, hX⟩ hn
      | loc r =>
        obtain ⟨k, hk⟩ := h
        exact List.mem_map.2 ⟨(t, k), hk, rfl⟩
  have rdT : ∀ j t, A X j t -> t ∈ (zR (X j) (S j)).rd := by
    intro j t h
    unfold A at h
    cases hX : X j with
    | none => rw [hX] at h; exact h.elim
    | some x =>
      rw [hX] at h
      cases x with
      | shr v s z => exact h.elim
      | loc r => exact ad6.2 h
  exact {
    E' := fun i j t x y lL hx hy hd hu => by
      rcases yr hs i j x y lL hx hy with h | ⟨h, _⟩
      · unfold WE; simpa using h
      rcases hu with hu | hu
      · exact absurd hu (h t hd).1
      exact absurd hu (h t hd).2
    S7 := fun i j t x y lL hx hy hd hu => by
      rcases yr hs i j x y lL hx hy with h | ⟨_, h⟩
      · unfold WE; simpa using h
      exact absurd hu (h t hd)
    Nu := fun i j t lL hj hW hAW => by
      by_cases hi : rI X i
      · exact KK i j lL hj (.inl ⟨hi, hAW.elim (tA j t) (tW j t)⟩)
      by_cases QQ : rI X j
      · exact KK i j lL hj (.inr ⟨tW i t hW, QQ⟩)
      refine vE i j lL hj ?_
      unfold Tr.vE
      rcases hAW with h | h
      · rw [Fg (wrT i t hW hi) (rdT j t h)]; simp
      rw [Fg (wrT i t hW hi) (wrT j t h QQ)]; simp
    aeN := fun i j t lL hj hA hW => by
      by_cases QQ : rI X j
      · exact KK i j lL hj (.inr ⟨tA i t hA, QQ⟩)
      refine vE i j lL hj ?_
      unfold Tr.vE
      rw [Fg (rdT i t hA) (wrT j t hW QQ)]; simp
    aeO := fun i j t lL hj Wx h1 h2 QQ hW => by
      refine vE i j lL hj ?_
      unfold Tr.vE
      have : ((zR (X j) (S j)).wr.any fun t => ady (zR (X i) (S i)).lo t && adQ t (zR (X i) (S i)).hi) = al9 := by
        rw [ak2]
        refine ⟨t, wrT j t hW QQ, ?_⟩
        rcases hr.steps i _ (rc (show i < (al3 ops) by omega)) with ⟨_, x, hx, _, hX, hn⟩ | ⟨_, hX, hn⟩
        · cases x with
          | shr v s z => exact absurd ⟨v, s, z, hX⟩ Wx
          | loc r =>
            rw [hn, wM] at h2
            rw [hX]
            simp only [zR, XR.tr, pp, adN]
            exact ⟨h1, by simpa using h2⟩
        rw [hn] at h2; dsimp only at h2; omega
      rw [this]; simp
    KK := KK
    cl := fun i t hi Wx hAW => by
      left
      have hc := zV i _ _ (Ee i hi)
      cases hX : X i with
      | none => rcases hAW with h | h
                · unfold A at h; rw [hX] at h; exact h.elim
                unfold W at h; rw [hX] at h; exact h.elim
      | some x =>
        cases x with
        | shr v s z => exact absurd ⟨v, s, z, hX⟩ Wx
        | loc r =>
          have hb : ∀ u v : Nat, adQ u v = al9 -> u < v := fun u v h => by simpa using h
          rw [hX] at hc
          simp only [zR, XR.tr, pp, adz] at hc
          rcases hAW with h | h
          · unfold A at h; rw [hX] at h
            exact hb _ _ (hc.1 t (ad6.2 h))
          unfold W at h; rw [hX] at h
          obtain ⟨k, hk⟩ := h
          exact hb _ _ (hc.2 (t, k) hk) }
end
end Go.Vm
/- A region: the theorem. -/
namespace Go.Vm
section
variable {P : Program} {F : nv} {rec : Task -> Option Out} {ops : List bY} {S : Nat -> St} {X : Nat -> Option XR} {im0 : Im} {loc0 : Loc} {w0 : World} {nt : Nat}
  {im : Im} {loc : Loc} {a : Act} {w : World} {i : Nat} {prims : FuncId -> Bool} {jj : Array Oper} {jH : List Nat}
def kI (l:Array Bool) (i:Nat):Prop:=l.getD i ala=al9
theorem Lf (hE:Jv P F rec) (hr:yp F rec ops S X) (ho:Ord ops S X (WE jH)) (hc: ∀(i:Nat) (x:bY) (o:Oper),ops[i]? =al4 x->jj[i]? =al4 o->rV P prims nt jj x o=al9) (c9:(al3 ops)=jj.size)
 (hm: ∀(k:Nat) (o:Oper),jj[k]? =al4 o->nT jH k o.after.toList=al4 (jH.getD k 0))
 {Q:Exit->Act->World->Prop} (hQ: ∀im loc a w (done:Nat->Prop),(∀i,i<al3 ops->done i)->Inv ops S X im0 loc0 w0 nt done im loc a w->Q .normal a w):
 ∀(AJ:Nat) (l:Array Bool) (im:Im) (loc:Loc) (a:Act) (w:World),l.size=al3 ops->AJ+l.toList.count al9=al3 ops->(∀k j,kI l k->WE jH j k->kI l j)->
  Inv ops S X im0 loc0 w0 nt (kI l) im loc a w->wpAny P .any jj Q AJ l a w:=by
 have full: ∀l:Array Bool,l.size=al3 ops->Region.ready .any jj l=[]-> ∀i,i<al3 ops->kI l i:=by
  intro l hl Hv i
  induction i using Nat.strongRecOn with
  |_ i ih=>
   intro hi
   by_cases h:kI l i
   · exact h
   exfalso
   have zQ:i∈Region.ready .any jj l:=by
    rw [mem_ready];have ho:=aem (show i<jj.size by omega);refine ⟨?_,_,ho,fun e he hb=>?_⟩
    · unfold kI at h
      have dV:i<l.size:=by omega
      simp [dV] at h ⊢;exact h
    have:=(wN (hm i _ ho)).1 e (by simpa using he) hb
    exact ih e.on this (by omega)
   rw [Hv] at zQ;cases zQ
 intro AJ
 induction AJ with
 |zero=>
  intro l im loc a w hl amI WG hv;have rU: ∀b∈l.toList,al9=b:=by
   have:l.toList.count al9=(al3 l.toList):=by simp only [Array.length_toList];omega
   exact List.count_eq_length.1 this
  have Pq: ∀i,i<al3 ops->kI l i:=by
   intro i hi;have dV:i<l.size:=by omega
   have:=rU (l[i]) (by simp);unfold kI;simp [dV,<- this]
  refine ⟨?_,hQ im loc a w _ Pq hv⟩;cases Hq:Region.ready .any jj l with
  |nil=>rfl
  |cons x xs=>
   exfalso;have zQ:x∈Region.ready .any jj l:=by rw [Hq];simp
   obtain ⟨h0,o,hox,_⟩:=mem_ready.1 zQ;have dV:=(M2.1 hox).1;have:=Pq x (by omega);unfold kI at this;have Lg:x<l.size:=by omega
   simp [Lg] at this h0;rw [this] at h0;cases h0
 |succ AJ ih=>
  intro l im loc a w hl amI WG hv;refine ⟨fun Hv=>hQ im loc a w _ (full l hl Hv) hv,fun i hi=>?_⟩;obtain ⟨h0,o,hox,rU⟩:=mem_ready.1 hi;have dV:=(M2.1 hox).1;have Lg:i<l.size:=by omega
  have hx:=rc (show i<(al3 ops) by omega);have amJ: ∀j,WE jH j i->kI l j:=by
   intro j hj;obtain ⟨e,he,hb,h⟩:=(wN (hm i o hox)).2 j hj;have lP:kI l e.on:=rU e (by simpa using he) hb;rcases h with rfl|h
   · exact lP
   exact WG _ _ lP h
  have Hk: ¬kI l i:=by unfold kI;simp [Lg] at h0 ⊢;exact h0
  refine Inv.wpOp hE hr ho hv {lt:=by omega,nd:=Hk,pre:=fun j _ h=>amJ j h,eO:=fun k _ h1 j _ h2=>WG k j h1 h2} hx hox (hc i _ _ hx hox) fun eN bz a' w' h'=>?_
  have e:plus (kI l) i=kI (l.setIfInBounds i al9):=by
   funext j
   apply propext;unfold plus kI
   by_cases lL:i=j
   · subst lL;simp [Lg]
   simp only [getD_set_ne ala lL]
   exact ⟨fun h=>h.elim id fun h=>absurd h.symm lL,.inl⟩
  rw [e] at h';refine ih _ eN bz a' w' (by simpa using hl) ?_ ?_ h'
  · rw [Array.toList_setIfInBounds,List.count_set (by simpa using Lg)]
    have:l.toList[i]=ala:=by simp [Lg] at h0;simpa using h0
    rw [this];simp only [Array.count_toList] at amI ⊢;simp;omega
  intro k j hk hj
  rw [<- e] at hk ⊢;rcases hk with hk|rfl
  · exact .inl (WG k j hk hj)
  exact .inl (amJ j hj)
theorem ER.gj {st:Env} {gj:List Nat} (h:ER im loc st a.tmps):ER im loc (gj.map fun s=>(s,lk s st)) a.tmps:=by
 intro t;have:lk t (gj.map fun s=>(s,lk s st))=lk t st\/lk t (gj.map fun s=>(s,lk s st))= .undef:=by
  induction gj with
  |nil=>exact .inr rfl
  |cons s r ih=>
   simp only [List.map_cons,rT];split
   · rename_i e;subst e;exact .inl rfl
   exact ih
 rcases this with h'|h'
 · rw [h'];exact h t
 rw [h'];exact .undef _
structure xL (im:Im) (loc:Loc) (nt:Nat) (st:St) (a:Act):Prop where
 env:ER im loc st.env a.tmps
 defers:a.defers=[]
 M7:a.tmps.size=nt
theorem Kept.world {jw : cK} {st : St} {w1 : World} (h : Kept im0 loc0 jw w1 st im loc w) (hh : w1.heap = w0.heap) (ho : w1.os = w0.os) (ht : Tape w0 w1) (hp : w1.output = w0.output) : Kept im0 loc0 jw w0 st im loc w :=
  { sr := h.sr, gX := h.gX, eh := h.eh, os := h.os.trans ho, tape := h.tape.trans ht, output := h.output.trans hp, size := by have := h.size; rw [hh] at this; exact this
    frame := by have := h.frame; rw [hh] at this; exact this
    ew := by have := h.ew; rw [hh] at this; exact this
    oq := h.oq
    own := by have := h.own; rw [hh] at this; exact this }
theorem SR.world {aD:cK} {fz:List Nat} {w1:World} (h:SR im loc aD fz w) (hh:w1.heap=w.heap):SR im loc aD fz w1 where
 bL:=by rw [hh];exact h.bL
 dw:=fun t li hl=>let ⟨k,h1,h2⟩:=h.dw t li hl;⟨k,h1,h2.mono (.refl _) (.refl _) (by rw [hh])⟩
 jc:=h.jc
 free:=h.free
theorem Nw (hE:Jv P F rec) (qB:P.follows .mixedOrders=al9) {draw:Option (List Nat)} {gj:List Nat} {id:Nat} {flag:Bool} {st la:St}
 (hc:CY P prims nt draw ops jj flag=al9) (hU:lN F rec draw ops gj st=al4 la) (kX:SR im0 loc0 st.aD st.fz w0) (ha:xL im0 loc0 nt st a) {Q:Exit->Act->World->Prop}
 (hQ: ∀im loc a' w',Kept im0 loc0 st.aD w0 la im loc w'->xL im loc nt la a'->Q .normal a' w'):(Code.region id jj flag).wp P Q a w0:=by
 unfold CY at hc;simp only [pp] at hc;obtain ⟨QT,hd⟩:=hc;obtain ⟨c9,WH⟩:=BE QT;have c9:(al3 ops)=jj.size:=by simpa using c9
 have WH: ∀(i:Nat) (x:bY) (o:Oper),ops[i]? =al4 x->jj[i]? =al4 o->rV P prims nt jj x o=al9:=fun i x o hx ho=>WH i x o hx (by simpa using ho)
 unfold lN at hU;cases he:mV F rec ops st [] with
 |none=>rw [he] at hU;cases hU
 |some q=>
  obtain ⟨oo,tr⟩:=q;rw [he] at hU;dsimp only at hU;obtain ⟨S,X,h0,hn,hr,htr⟩:=CV ops st [] oo tr he;have fin: ∀(w1:World),w1.heap=w0.heap->w1.os=w0.os->Tape w0 w1->w1.output=w0.output->la={oo with env:=gj.map fun s=>(s,lk s oo.env)}-> ∀im loc a' w' (done:Nat->Prop),(∀i,i<al3 ops->done i)->
   Inv ops S X im0 loc0 w1 nt done im loc a' w'->Q .normal a' w':=by
   intro w1 q1 q2 q3 q4 cy im loc a' w' done hdn hv;obtain ⟨hk,her,hdf,hns⟩:=hv.finish hr hdn;rw [hn] at hk her;rw [h0] at hk;subst cy;have hk:=hk.world q1 q2 q3 q4;exact hQ im loc a' w' {sr:=hk.sr,gX:=hk.gX,eh:=hk.eh,os:=hk.os,tape:=hk.tape,output:=hk.output,size:=hk.size,frame:=hk.frame,ew:=hk.ew,oq:=hk.oq,own:=hk.own} ⟨her.gj,hdf,hns⟩
  cases draw with
  |none=>
   dsimp only at hd hU;have:flag=ala:=by simpa using hd
   subst this;injection hU with hU;refine wp_region ?_;rw [List.range_eq_range'];refine Fe hE hr WH c9 (fun im loc a w hv=>fin w0 rfl rfl (.refl _) rfl hU.symm im loc a w _ (fun i h=>h) hv) jj.size 0 im0 loc0 a w0 (by omega) ?_;have:=Inv.start (ops:=ops) (X:=X) (w0:=w0) h0 kX ha.env ha.defers ha.M7 hr;have e:(fun _:Nat=>False)=fun i=>i<0:=by funext i;apply propext;exact ⟨fun h=>h.elim,fun h=>by omega⟩
   rw [e] at this;exact this
  |some bf=>
   dsimp only at hd hU;simp only [pp] at hd;obtain ⟨⟨⟨rfl,hbl⟩,hmk⟩,V9⟩:=hd;have hbl:(al3 bf)=(al3 ops):=by simpa using hbl
   split at hU
   · rename_i Sr
     injection hU with hU;have aqV:tr.reverse=zY S X (al3 ops):=by rw [htr];simp
     rw [aqV] at Sr;obtain ⟨_,hmk⟩:=DN hmk;refine wp_region_any qB ?_;refine Lf (w0:={w0 with drawn:=w0.drawn+1}) (im0:=im0) (loc0:=loc0) hE hr (Ord.drawn hr hbl V9 Sr) WH c9 ?_ (fun im loc a w done hdn hv=>fin {w0 with drawn:=w0.drawn+1} rfl rfl ⟨rfl,Nat.le_succ _⟩ rfl hU.symm im loc a w done hdn hv) jj.size _ im0 loc0 a _ (by simp [c9]) ?_ ?_ ?_
     · intro k o ho
       have dV:=(M2.1 ho).1;have hk:bf[k]? =al4 (bf.getD k 0):=by rw [aej,rc (by omega)];rfl
       simpa using hmk k _ o hk (by simpa using ho)
     · simp [c9,List.count_replicate]
     · intro k j h
       unfold kI at h
       by_cases hk:k<jj.size<;>simp [hk] at h
     have:=Inv.start (ops:=ops) (X:=X) (w0:={w0 with drawn:=w0.drawn+1}) h0 (kX.world rfl) ha.env ha.defers ha.M7 hr
     have e:(fun _:Nat=>False)=kI (adI jj.size ala):=by
      funext i;apply propext
      unfold kI
      by_cases hk:i<jj.size<;>simp [hk]
     rw [e] at this;exact this
   cases hU
end
end Go.Vm
/- What a function keeps from its beginning on; the head of a loop. -/
namespace Go.Vm
theorem Kept.trans {im0 Et Eu:Im} {loc0 dB rq:Loc} {jw:cK} {w0 w1 w2:World} {oo Ec:St} (h1:Kept im0 loc0 jw w0 oo Et dB w1) (h2:Kept Et dB oo.aD w1 Ec Eu rq w2) (hl:(al3 jw)<=al3 oo.aD):
 Kept im0 loc0 jw w0 Ec Eu rq w2 where
 sr:=h2.sr
 gX:=h1.gX.trans h2.gX
 eh:=h1.eh.trans h2.eh
 os:=h2.os.trans h1.os
 tape:=h2.tape.trans h1.tape
 output:=h2.output.trans h1.output
 size:=ad5 h1.size h2.size
 frame:=fun b hb hh=>by
  rw [h2.frame b (adJ hb h1.size) fun t li k hl hs my Sq=>?_]
  · exact h1.frame b hb hh
  rcases h1.own t li k hl hs my with h|⟨u,lu,ku,g1,g2,g3,g4⟩
  · omega
  exact hh u lu ku g1 g2 g3 (by omega)
 ew:=fun b o hb=>by
  rcases h2.ew b o hb with h|h|⟨t,li,k,g1,g2,g3,g4⟩
  · exact h1.ew b o h
  · exact .inr (.inl (ad5 h1.size h))
  rcases h1.own t li k g1 g2 g3 with h|⟨u,lu,ku,k1,k2,k3,k4⟩
  · exact .inr (.inl (by omega))
  exact .inr (.inr ⟨u,lu,ku,k1,k2,k3,by omega⟩)
 oq:=fun t li h=>by
  rcases h2.oq t li h with h|h
  · exact h1.oq t li h
  exact .inr (ad5 hl h)
 own:=fun t li k hl hs my=>by
  rcases h2.own t li k hl hs my with h|⟨u,lu,ku,g1,g2,g3,g4⟩
  · exact .inl (ad5 h1.size h)
  rcases h1.own u lu ku g1 g2 g3 with h|⟨u',lu',ku',k1,k2,k3,k4⟩
  · exact .inl (by omega)
  exact .inr ⟨u',lu',ku',k1,k2,k3,by omega⟩
structure zZ (im0:Im) (loc0:Loc) (jw:cK) (w0:World) (st:St) (im:Im) (loc:Loc) (w:World):Prop where
 kept:Kept im0 loc0 jw w0 st im loc w
 kn:st.kn=al3 jw
 len:(al3 jw)<=al3 st.aD
 dom: ∀t li,loc0 t=al4 li->t<al3 jw
theorem Fh {F:nv} {rec:Task->Option Out}: ∀(ops:List bY) (st:St) (tr:List Tr) (la:St) (QR:List Tr),mV F rec ops st tr=al4 (la,QR)->la.kn=st.kn
 | [],st,tr,la,QR,h=>by simp only [mV,ut,If] at h;rw [h.1]
 |o::l,st,tr,la,QR,h=>by
  simp only [mV] at h;split at h
  · split at h
    · rename_i x hx
      split at h
      · have:=Fh l _ _ la QR h
        rw [this];cases x<;>rfl
      cases h
    cases h
  · have:=Fh l _ _ la QR h
    exact this
  cases h
theorem Jw {F:nv} {rec:Task->Option Out} {draw:Option (List Nat)} {ops:List bY} {gj:List Nat} {st la:St} (h:lN F rec draw ops gj st=al4 la):la.kn=st.kn/\al3 st.aD<=(al3 la.aD):=by
 unfold lN at h;cases he:mV F rec ops st [] with
 |none=>rw [he] at h;cases h
 |some q=>
  obtain ⟨oo,tr⟩:=q;rw [he] at h;dsimp only at h;obtain ⟨S,X,h0,hn,hr,_⟩:=CV ops st [] oo tr he;have h1:=Fh ops st [] oo tr he;have h2:=hr.iN (adA (al3 ops)) (EQ _);rw [h0,hn] at h2;cases draw with
  |none=>dsimp only at h;injection h with h;subst h;exact ⟨h1,h2⟩
  |some bf=>
   dsimp only at h;split at h
   · injection h with h;subst h;exact ⟨h1,h2⟩
   cases h
section
variable {im : Im} {loc dB : Loc} {m : List Nat}
theorem Lh {fz:List Nat}: ∀{l:List Nat} {i0 u t:Nat},l[u]? =al4 t->(i0+u)∉yb fz i0 l->t∉fz
 | [],i0,u,t,h,_=>by simp at h
 |s::r,i0,u,t,h,hn=>by
  simp only [yb] at hn;cases u with
  |zero=>simp at h;subst h;intro hf;rw [ls (pX.2 hf)] at hn;exact hn (by simp)
  |succ u=>
   refine Lh (l:=r) (i0:=i0+1) (u:=u) (by simpa using h) fun zQ=>?_
   rw [show i0+(u+1)=i0+1+u by omega] at hn;split at hn
   · exact hn (ae7 _ zQ)
   exact hn zQ
theorem Fi {aD:cK}: ∀{n:Nat} {ts seen:List Nat} {m:List Nat},reach aD n ts seen=al4 m->(∃l,m=seen++l)/\(seen.Nodup->m.Nodup)
 |_,[],seen,m,h=>by
  have h:al4 seen=al4 m:=by rw [<- h];unfold reach;cases ‹Nat› <;>rfl
  injection h with h;subst h;exact ⟨⟨[],by simp⟩,id⟩
 |0,_::_,seen,m,h=>by simp [reach] at h
 |n+1,t::ts,seen,m,h=>by
  simp only [reach] at h;split at h
  · exact Fi h
  rename_i hn
  split at h
  · obtain ⟨⟨l,hl⟩,h2⟩:=Fi h
    refine ⟨⟨t::l,by rw [hl];simp⟩,fun hd=>h2 ?_⟩;rw [aji];refine ⟨hd,by simp,fun a ha b hb=>?_⟩;have:b=t:=by simpa using hb
    subst this;intro e;subst e;exact hn (pX.2 ha)
  cases h
theorem Li: ∀{n i:Nat},i<n->(vD n)[i]? =al4 i
 |n+1,i,h=>by
  have hl: ∀n,(vD n).length=n:=by
   intro n;induction n with
   |zero=>rfl
   |succ n ih=>simp [vD,ih]
  simp only [vD];rcases acl i n with h'|h'
  · rw [AC (by rw [hl];exact h')];exact Li h'
  rw [IR (by rw [hl];exact h'),hl]
  have:i=n:=by omega
  subst this;simp
theorem Lj: ∀{n i:Nat},i∈vD n->i<n
 |n+1,i,h=>by
  simp only [vD,ad6,adC] at h;rcases h with h|h
  · have:=Lj h;omega
  omega
theorem Fj: ∀n,(vD n).Nodup
 |0=>by simp [vD]
 |n+1=>by
  simp only [vD];rw [aji];refine ⟨Fj n,by simp,fun a ha b hb=>?_⟩;have:=Lj ha;have:b=n:=by simpa using hb
  omega
end
end Go.Vm
/- The head of a loop. -/
namespace Go.Vm
def QU (s2:cK):Prop:= ∀(j:Nat) (k:ky),s2[j]? =al4 k-> ∃e,k= .arr e []
theorem VR.HQ {im:Im} {loc:Loc} {x:PV} {u:Value} (h:VR im loc x u): ∀k:Option Nat,VR im loc (HQ k x) u
 |none=>h
 |some _=>by
  cases h with
  |own t esz off len cap ex li a dd hl he hn hc hx hk h=>exact .own t esz off len cap ala li a dd hl he hn hc hx (fun h=>by cases h) h
  |undef=>exact .undef _
  |jR=>exact .jR
  |int k n=>exact .int k n
  |bool b=>exact .bool b
  |str s=>exact .str s
  |agg cs vs h=>exact .agg cs vs h
  |cj cs vs h=>exact .cj cs vs h
  |sl e c r a cap h1 h2 h3=>exact .sl e c r a cap h1 h2 h3
  |ptr t e r o li h1 h2 h3=>exact .ptr t e r o li h1 h2 h3
  |bO cs off b o vs h hv=>exact .bO cs off b o vs h hv
  |mp t li hl=>exact .mp t li hl
  |eO fn a b as bs ha hb=>exact .eO fn a b as bs ha hb
  |eg=>exact .eg
theorem AL {im:Im} {loc dB:Loc} {m:List Nat} {e:Env} {tmps:Array Value} (hm:Ren m loc dB) (he:ER im loc e tmps): ∀{live:List (Nat×Option Nat)} {nx:Nat} {e1:Env} {s2:cK},rO e m nx live=al4 (e1,s2)->
 QU s2/\((∀(j:Nat) (esz:Nat),s2[j]? =al4 (.arr esz [])->dB (nx+j)=al4 ⟨0,0,esz,0,0⟩)->ER im dB e1 tmps)
 | [],nx,e1,s2,h=>by simp only [rO,ut,If] at h;obtain ⟨rfl,rfl⟩:=h;exact ⟨fun j k h=>by simp at h,fun _ t=> .undef _⟩
 |(s,k)::r,nx,e1,s2,h=>by
  have hs:=he s;simp only [rO] at h;split at h
  · rename_i esz e' vU
    rw [Do] at h;obtain ⟨⟨e2,s3⟩,h1,h2⟩:=h;simp only [If] at h2;obtain ⟨rfl,rfl⟩:=h2;obtain ⟨g1,g2⟩:=AL hm he h1;refine ⟨fun j k hj=>?_,fun hl t=>?_⟩
    · cases j with
      |zero=>simp at hj;exact ⟨_,hj.symm⟩
      |succ j=>exact g1 j k (by simpa using hj)
    rw [rT]
    split
    · rename_i e;subst e
      rw [vU] at hs;generalize hg:tmps.getD s Go.undef=v at hs;cases hs with
      |sl _ _ _ a cap h1 h2 h3=>
      have:cap=0:=by simpa using h2 rfl
      subst this;exact .own nx esz 0 0 0 ala ⟨0,0,esz,0,0⟩ a 0 (by simpa using hl 0 esz rfl) rfl (EQ _) (EQ _) (EQ _) (fun h=>by cases h) (.inl rfl)
    refine g2 (fun j aqW hj=>?_) t
    have:=hl (j+1) aqW (by simpa using hj);rw [show nx+1+j=nx+(j+1) by omega];exact this
  split at h
  · rename_i v' p h1 h2
    injection h with h;simp only [If] at h;obtain ⟨rfl,rfl⟩:=h;obtain ⟨g1,g2⟩:=AL hm he (e1:=p.1) (s2:=p.2) h2;refine ⟨g1,fun hl t=>?_⟩;rw [rT];split
    · rename_i e;subst e
      exact (Sx hm hs h1).HQ _
    exact g2 hl t
  cases h
theorem fx.setAt {im:Im} {loc:Loc} {x:PV}: ∀{xs:List PV} {vs:List Value} {c:Nat} {y:PV},fx im loc xs vs->xs[c]? =al4 y->(∀v,VR im loc y v->VR im loc x v)->fx im loc (xs.set c x) vs
 | [],_,c,y,h,hc,_=>by simp at hc
 |z::zs,vs,c,y,h,hc,hx=>by
  cases h with
  |cons _ v _ us g1 g2=>
   cases c with
   |zero=>simp at hc;subst hc;exact .cons _ _ _ _ (hx v g1) g2
   |succ c=>exact .cons _ _ _ _ g1 (fx.setAt g2 (by simpa using hc) hx)
theorem Nx {im0 im:Im} {loc0 loc:Loc} {jw:cK} {w0 w:World} {nt:Nat} {st:St} {a:Act} (t c esz:Nat) (hk:zZ im0 loc0 jw w0 st im loc w) (ha:xL im loc nt st a):
 ∃dB,zZ im0 loc0 jw w0 (rQ st t c esz) im dB w/\xL im dB nt (rQ st t c esz) a:=by
 unfold rQ;split
 · rename_i cs hb
   split
   · rename_i e hc
     have sr:=hk.kept.sr;have amL: ∀u li,loc u=al4 li->u<(al3 st.aD):=fun u li h=>by obtain ⟨k,h1,_⟩:=sr.dw u li h;exact cP h1
     have hn:loc (al3 st.aD)=al5:=by
      cases h:loc (al3 st.aD) with
      |none=>rfl
      |some li=>exact absurd (amL _ _ h) (Nat.lt_irrefl _)
     let dB:Loc:=fun u=>if u=(al3 st.aD) then al4 ⟨0,0,esz,0,0⟩ else loc u
     have lP:mN loc dB:=fun u li h=>by have:=amL u li h;simp only [dB,show u≠(al3 st.aD) by omega,if_false];exact h
     have back: ∀u li,dB u=al4 li->u≠al3 st.aD->loc u=al4 li:=fun u li h hu=>by simpa only [dB,hu,if_false] using h
     have Ny:t<(al3 st.aD):=cP hb;have get: ∀u,u<al3 st.aD->(st.aD.set t (.box (cs.set c (.own (al3 st.aD) esz 0 0 0 ala)))++[.arr esz []])[u]? =if t=u then al4 (.box (cs.set c (.own (al3 st.aD) esz 0 0 0 ala))) else st.aD[u]?:=fun u hu=>by
      rw [AC (by simpa using hu),ajj];split
      · rename_i e;subst e;simp
      rfl
     have amM:(st.aD.set t (.box (cs.set c (.own (al3 st.aD) esz 0 0 0 ala)))++[.arr esz []])[al3 st.aD]? =al4 (.arr esz []):=by rw [IR (by simp)];simp
     have bS: ∀(u:Nat) (k:ky),(st.aD.set t (.box (cs.set c (.own (al3 st.aD) esz 0 0 0 ala)))++[.arr esz []])[u]? =al4 k->k.bS=al9->u≠al3 st.aD/\ ∃k0:ky,st.aD[u]? =al4 k0/\k0.bS=al9:=by
      intro u k hu hs;have dV:=cP hu;simp only [adF,akN,List.length_singleton] at dV;have dW:u≠(al3 st.aD):=by intro e;subst e;rw [amM] at hu;injection hu with hu;subst hu;cases hs
      refine ⟨dW,?_⟩;rw [get u (by omega)] at hu;split at hu
      · rename_i e;subst e;exact ⟨_,hb,rfl⟩
      exact ⟨k,hu,hs⟩
     refine ⟨dB,⟨⟨?_,hk.kept.gX,hk.kept.eh.trans lP,hk.kept.os,hk.kept.tape,hk.kept.output,hk.kept.size,hk.kept.frame,hk.kept.ew,fun u li h=>?_,fun u li k h hs my=>?_⟩,hk.kn,?_,hk.dom⟩,⟨ha.env.mono (oA.refl _) lP,ha.defers,ha.M7⟩⟩
     · refine {
        bL:=sr.bL
        dw:=fun u li hl=>?_
        jc:=fun u u' li lj k k' hl mU hs vJ my HY hbk=>?_
        free:=fun u li k hl hs my hz=>?_}
       · by_cases hu:u=al3 st.aD
         · subst hu
           simp only [dB,if_true] at hl;injection hl with hl;subst hl;exact ⟨_,amM,rfl,rfl,fun h=>absurd rfl h⟩
         have Kz:=back u li hl hu
         obtain ⟨k,h1,h2⟩:=sr.dw u li Kz;show∃k,(st.aD.set t (.box (cs.set c (.own (al3 st.aD) esz 0 0 0 ala)))++[.arr esz []])[u]? =al4 k/\BR im dB w li k;rw [get u (cP h1)];split
         · rename_i et;subst et
           rw [hb] at h1;injection h1 with h1;subst h1;obtain ⟨g1,g2,g3,vs,el,g4,g5,g6⟩:=h2;refine ⟨_,rfl,by simpa using g1,g2,g3,vs,el,g4,g5,(g6.mono (oA.refl _) lP).setAt hc fun v hv=>?_⟩;cases hv with
           |sl _ _ _ a' cap h1 h2 h3=>
           have:cap=0:=by simpa using h2 rfl
           subst this;exact .own _ esz 0 0 0 ala ⟨0,0,esz,0,0⟩ a' 0 (by simp only [dB,if_true]) rfl (EQ _) (EQ _) (EQ _) (fun h=>by cases h) (.inl rfl)
         exact ⟨k,h1,h2.mono (oA.refl _) lP rfl⟩
       · obtain ⟨n1,k0,g1,g2⟩:=bS u k hs my
         obtain ⟨n2,k0',g1',g2'⟩:=bS u' k' vJ HY;exact sr.jc u u' li lj k0 k0' (back _ _ hl n1) (back _ _ mU n2) g1 g1' g2 g2' hbk
       obtain ⟨n1,k0,g1,g2⟩:=bS u k hs my
       exact sr.free u li k0 (back _ _ hl n1) g1 g2 hz
     · by_cases hu:u=al3 st.aD
       · right;have:=hk.len;omega
       exact hk.kept.oq u li (back u li h hu)
     · obtain ⟨n1,k0,g1,g2⟩:=bS u k hs my
       exact hk.kept.own u li k0 (back _ _ h n1) g1 g2
     have:=hk.len
     show (al3 jw)<=(st.aD.set t (.box (cs.set c (.own (al3 st.aD) esz 0 0 0 ala)))++[ky.arr esz []]).length;simp only [adF,akN];omega
   exact ⟨loc,hk,ha⟩
 exact ⟨loc,hk,ha⟩
theorem qC {im0 im:Im} {loc0:Loc} {jw:cK} {w0 w:World} {nt:Nat} {a:Act}: ∀(live:List (Nat×Option Nat)) {st:St} {loc:Loc},zZ im0 loc0 jw w0 st im loc w->xL im loc nt st a->
 ∃dB,zZ im0 loc0 jw w0 (kV live st) im dB w/\xL im dB nt (kV live st) a
 | [],st,loc,hk,ha=>⟨loc,hk,ha⟩
 |(s,k)::r,st,loc,hk,ha=>by
  simp only [kV];split
  · split
    · split
      · rename_i t _
        obtain ⟨dB,h1,h2⟩:=Nx t _ _ hk ha;exact qC r h1 h2
      exact qC r hk ha
    exact qC r hk ha
  exact qC r hk ha
theorem Lk {im0 im:Im} {loc0 loc:Loc} {jw:cK} {w0 w:World} {nt:Nat} {live:List (Nat×Option Nat)} {st oo:St} {a:Act} (h:EJ live st=al4 oo) (hk:zZ im0 loc0 jw w0 st im loc w) (ha:xL im loc nt st a):
 ∃dB,zZ im0 loc0 jw w0 oo im dB w/\xL im dB nt oo a:=by
 unfold EJ at h;split at h
 · cases h
 rename_i m aeX
 split at h
 · rename_i s1 e1 s2 hs1 hlv
   injection h with h;subst h;refine (fun hh: ∃dB,zZ im0 loc0 jw w0 {env:=e1,aD:=s1++s2,fz:=yb st.fz 0 m,kn:=st.kn} im dB w/\xL im dB nt {env:=e1,aD:=s1++s2,fz:=yb st.fz 0 m,kn:=st.kn} a=>
    let ⟨_,g1,g2⟩:=hh;qC live g1 g2) ?_
   obtain ⟨⟨ml,KB⟩,Hk⟩:=Fi aeX;have Hk:=Hk (Fj _);obtain ⟨HU,Ee⟩:=CH hs1;have amN: ∀n,(vD n).length=n:=by
    intro n;induction n with
    |zero=>rfl
    |succ n ih=>simp [vD,ih]
   have hid: ∀t,t<st.kn->m[t]? =al4 t:=by intro t ht;rw [KB,AC (by rw [amN];exact ht)];exact Li ht
   have avn:st.kn<=(al3 m):=by rw [KB];simp [amN]
   let dB:Loc:=fun u=>if u<(al3 m) then (match m[u]? with|some t=>loc t|none=>al5) else match s2[u-(al3 m)]? with
    |some (.arr e [])=>al4 ⟨0,0,e,0,0⟩
    |_=>al5
   have E8:Ren m loc dB:=by intro u t hu;have:=cP hu;simp only [dB,this,if_true,hu]
   obtain ⟨aqX,her⟩:=AL E8 ha.env hlv;have old: ∀u li,dB u=al4 li->u<al3 m-> ∃t,m[u]? =al4 t/\loc t=al4 li:=by intro u li hl hu;have e:=rc hu;rw [E8 u _ e] at hl;exact ⟨_,e,hl⟩
   have amO: ∀u,u<al3 m->(s1++s2)[u]? =s1[u]?:=fun u hu=>AC (by rw [HU];exact hu)
   have amP: ∀u,¬u<al3 m->(s1++s2)[u]? =s2[u-(al3 m)]?:=fun u hu=>by rw [IR (by rw [HU];omega),HU]
   have zl: ∀(u:Nat) (k:ky),(s1++s2)[u]? =al4 k->k.bS=al9->u<(al3 m):=by
    intro u k hs my;rcases acl u (al3 m) with h|h
    · exact h
    rw [amP u (by omega)] at hs
    obtain ⟨e,rfl⟩:=aqX _ _ hs;cases my
   have back: ∀(u:Nat) (k:ky),(s1++s2)[u]? =al4 k-> ∀t,m[u]? =al4 t-> ∃k0:ky,st.aD[t]? =al4 k0/\k.bS=k0.bS:=by intro u k hs t ht;obtain ⟨k0,k',g1,g2,g3⟩:=Ee u t ht;rw [amO u (cP ht),g3] at hs;injection hs with hs;subst hs;exact ⟨k0,g1,Bq g2⟩
   have sr:=hk.kept.sr;have aeZ:SR im dB (s1++s2) (yb st.fz 0 m) w:=by
    refine {
     bL:=sr.bL
     dw:=fun u li hl=>?_
     jc:=fun u u' li lj k k' hl mU hs vJ my HY hb=>?_
     free:=fun u li k hl hs my hz=>?_}
    · by_cases hu:u<al3 m
      · obtain ⟨t,ht,dV⟩:=old u li hl hu
        obtain ⟨k0,h1,h2⟩:=sr.dw t li dV;obtain ⟨k1,k',g1,g2,g3⟩:=Ee u t ht;rw [h1] at g1;injection g1 with g1;subst g1;exact ⟨k',by rw [amO u hu];exact g3,HS E8 g2 h2⟩
      simp only [dB,hu,if_false] at hl
      split at hl
      · rename_i e he
        injection hl with hl;subst hl;exact ⟨.arr e [],by rw [amP u hu];exact he,rfl,rfl,fun h=>absurd rfl h⟩
      cases hl
    · have hu:=zl u k hs my
      have CB:=zl u' k' vJ HY;obtain ⟨t,ht,dV⟩:=old u li hl hu;obtain ⟨t',Pr,Lg⟩:=old u' lj mU CB;obtain ⟨k0,g1,g2⟩:=back u k hs t ht;obtain ⟨k0',g1',g2'⟩:=back u' k' vJ t' Pr;have:=sr.jc t t' li lj k0 k0' dV Lg g1 g1' (by rw [<- g2];exact my) (by rw [<- g2'];exact HY) hb;subst this;have pw:=ael.1 Hk;have e1:=(ww.1 ht).2;have e2:=(ww.1 Pr).2;rcases UV u u' with h|h|h
      · exact absurd (e1.trans e2.symm) (pw u u' hu CB h)
      · exact h
      exact absurd (e2.trans e1.symm) (pw u' u CB hu h)
    have hu:=zl u k hs my
    obtain ⟨t,ht,dV⟩:=old u li hl hu;obtain ⟨k0,g1,g2⟩:=back u k hs t ht;refine sr.free t li k0 dV g1 (by rw [<- g2];exact my) (jV.2 ?_);exact Lh (i0:=0) ht (by have:=jV.1 hz;simpa using this)
   refine ⟨dB,⟨⟨aeZ,hk.kept.gX,fun t li hl=>?_,hk.kept.os,hk.kept.tape,hk.kept.output,hk.kept.size,hk.kept.frame,hk.kept.ew,fun t li hl=>?_,fun u li k hl hs my=>?_⟩,hk.kn,?_,hk.dom⟩,
    ⟨her fun j esz hj=>?_,ha.defers,ha.M7⟩⟩
   · have h1:=hk.kept.eh t li hl
     have ht:t<st.kn:=by rw [hk.kn];exact hk.dom t li hl
     rw [E8 t t (hid t ht)];exact h1
   · rcases acl t st.kn with ht|ht
     · rw [E8 t t (hid t ht)] at hl
       exact hk.kept.oq t li hl
     right;rw [hk.kn] at ht;exact ht
   · have hu:=zl u k hs my
     obtain ⟨t,ht,dV⟩:=old u li hl hu;obtain ⟨k0,g1,g2⟩:=back u k hs t ht;exact hk.kept.own t li k0 dV g1 (by rw [<- g2];exact my)
   · rw [<- hk.kn]
     simp only [adF];omega
   simp only [dB,show¬al3 m+j<(al3 m) by omega,if_false,show (al3 m)+j-(al3 m)=j by omega,hj]
 exact (by cases h)
theorem WI {im0 im:Im} {loc0 loc:Loc} {jw:cK} {w0 w:World} {nt:Nat} {live:List (Nat×Option Nat)} {st oo:St} {a:Act} (h:norm live st=al4 oo) (hk:zZ im0 loc0 jw w0 st im loc w) (ha:xL im loc nt st a):
 ∃dB,zZ im0 loc0 jw w0 oo im dB w/\xL im dB nt oo a:=by
 unfold norm at h;cases h1:EJ live st with
 |none=>rw [h1] at h;cases h
 |some s=>
  rw [h1] at h;dsimp only at h;obtain ⟨dB,ij,ua⟩:=Lk h1 hk ha;split at h
  · exact Lk h ij ua
  injection h with h
  subst h;exact ⟨dB,ij,ua⟩
end Go.Vm
/- The code of a function; what it returns. -/
namespace Go.Vm
def gP (P:Program) (prims:FuncId->Bool) (nt:Nat):kz->Code->Bool
 | .skip,.skip=>al9
 | .region d ops _,.region _ jj flag=>CY P prims nt d ops jj flag
 | .seq a b,.seq c d=>gP P prims nt a c&&gP P prims nt b d
 | .cond c a b,.cond c' a' b'=>bH c c'&&gP P prims nt a a'&&gP P prims nt b b'
 | .block id b,.block id' b'=>id==id'&&gP P prims nt b b'
 | .loop _ b,.loop b'=>gP P prims nt b b'
 | .exit id,.exit id'=>id==id'
 | .ret,.ret=>al9
 |_,_=>ala
def iA.out:iA->Exit
 | .normal=> .normal
 | .exit id=> .exit id
 | .ret=> .ret
section
variable {P : Program} {F : nv} {rec : Task -> Option Out} {im0 : Im} {loc0 : Loc} {jw : cK} {w0 : World} {nt : Nat} {prims : FuncId -> Bool}
structure At (im0:Im) (loc0:Loc) (jw:cK) (w0:World) (nt:Nat) (st:St) (a:Act) (w:World):Prop where
 ex: ∃im loc,zZ im0 loc0 jw w0 st im loc w/\xL im loc nt st a
def CZ (P : Program) (prims : FuncId -> Bool) (rec : Task -> Option Out) : Prop :=
  ∀ (live : List (Nat × Option Nat)) (x : kz) (st : St) (e : iA) (la : St), rec (.loop live x st) = al4 (.code e la) ->
    ∀ (c : Code) (nt : Nat) (im0 : Im) (loc0 : Loc) (jw : cK) (w0 : World) (a : Act) (w : World), gP P prims nt x c = al9 -> At im0 loc0 jw w0 nt st a w ->
      ∀ (b : Frame) (k : List Item) (cs : List Frame), ∃ a' w', At im0 loc0 jw w0 nt la a' w' /\ Arrives P (lone (b.at a (.code c :: .inLoop c :: k)) cs w) b k cs e.out a' w'
theorem kY (hE:Jv P F rec) (hL:CZ P prims rec) (qB:P.follows .mixedOrders=al9): ∀(x:kz) (c:Code) (st:St) (e:iA) (la:St),gP P prims nt x c=al9->tN F rec x st=al4 (e,la)->
 ∀(a:Act) (w:World),At im0 loc0 jw w0 nt st a w-> ∀(Q:Exit->Act->World->Prop),(∀a' w',At im0 loc0 jw w0 nt la a' w'->Q e.out a' w')->c.wp P Q a w
 | .skip,c,st,e,la,hc,hU,a,w,ha,Q,hQ=>by
  cases c<;>simp only [gP,NE] at hc
  simp only [tN,ut,If] at hU;obtain ⟨rfl,rfl⟩:=hU;exact wp_skip (hQ _ _ ha)
 | .region d ops gj,c,st,e,la,hc,hU,a,w,ha,Q,hQ=>by
  cases c<;>simp only [gP,NE] at hc
  simp only [tN,Do] at hU;obtain ⟨oo,hU,h⟩:=hU;simp only [If] at h;obtain ⟨rfl,rfl⟩:=h;obtain ⟨im,loc,hk,Fk⟩:=ha.ex;refine Nw hE qB hc hU hk.kept.sr Fk fun eN bz a' w' Jx Fl=>hQ a' w' ⟨eN,bz,?_,Fl⟩
  obtain ⟨h1,h2⟩:=Jw hU;exact ⟨hk.kept.trans Jx hk.len,by rw [h1];exact hk.kn,ad5 hk.len h2,hk.dom⟩
 | .seq x y,c,st,e,la,hc,hU,a,w,ha,Q,hQ=>by
  cases c<;>simp only [gP,NE,pp] at hc
  obtain ⟨h1,h2⟩:=hc;simp only [tN] at hU;refine wp_seq ?_;cases hx:tN F rec x st with
  |none=>rw [hx] at hU;cases hU
  |some q=>
   obtain ⟨e1,oo⟩:=q;rw [hx] at hU;refine kY hE hL qB x _ st e1 oo h1 hx a w ha _ fun a' w' Fl=>?_
   cases e1 with
   |normal=>exact kY hE hL qB y _ oo e la h2 hU a' w' Fl Q hQ
   |exit id=>simp only [ut,If] at hU;obtain ⟨rfl,rfl⟩:=hU;exact hQ a' w' Fl
   |ret=>simp only [ut,If] at hU;obtain ⟨rfl,rfl⟩:=hU;exact hQ a' w' Fl
 | .cond cc x y,c,st,e,la,hc,hU,a,w,ha,Q,hQ=>by
  cases c<;>simp only [gP,NE,pp] at hc
  obtain ⟨⟨h0,h1⟩,h2⟩:=hc;obtain ⟨im,loc,hk,Fk⟩:=ha.ex;have hv:=Nv (a:=a) (e:=st.env) cc (fun t _=>Fk.env t) _ h0;simp only [tN] at hU;split at hU
  · rename_i hb
    rw [hb] at hv;exact wp_cond_true hv.jU (kY hE hL qB x _ st e la h1 hU a w ha Q hQ)
  · rename_i hb
    rw [hb] at hv;exact wp_cond_false hv.jU (kY hE hL qB y _ st e la h2 hU a w ha Q hQ)
  cases hU
 | .block id x,c,st,e,la,hc,hU,a,w,ha,Q,hQ=>by
  cases c<;>simp only [gP,NE,pp,beq_iff_eq] at hc
  obtain ⟨rfl,h1⟩:=hc;refine wp_block ?_;simp only [tN] at hU;cases hx:tN F rec x st with
  |none=>rw [hx] at hU;cases hU
  |some q=>
   obtain ⟨e1,oo⟩:=q;rw [hx] at hU;refine kY hE hL qB x _ st e1 oo h1 hx a w ha _ fun a' w' Fl=>?_
   cases e1 with
   |normal=>simp only [ut,If] at hU;obtain ⟨rfl,rfl⟩:=hU;exact hQ a' w' Fl
   |ret=>simp only [ut,If] at hU;obtain ⟨rfl,rfl⟩:=hU;exact hQ a' w' Fl
   |exit j=>
    dsimp only at hU;simp only [iA.out,Exit.inBlock];split at hU
    · rename_i hj
      have:j=id:=by simpa using hj
      simp only [ut,If] at hU;obtain ⟨rfl,rfl⟩:=hU;rw [ls this];exact hQ a' w' Fl
    rename_i hj
    have:j≠id:=by simpa using hj
    simp only [ut,If] at hU;obtain ⟨rfl,rfl⟩:=hU;rw [lw this];exact hQ a' w' Fl
 | .loop live x,c,st,e,la,hc,hU,a,w,ha,Q,hQ=>by
  cases c<;>simp only [gP,NE] at hc
  simp only [tN] at hU;split at hU
  · rename_i e1 oo hr
    simp only [ut,If] at hU;obtain ⟨rfl,rfl⟩:=hU;intro b k cs;obtain ⟨a',w',h1,h2⟩:=hL live x st _ _ hr _ nt im0 loc0 jw w0 a w hc ha b k cs;exact ⟨_,a',w',hQ a' w' h1,.of_steps (.one step_loop) h2⟩
  cases hU
 | .exit id,c,st,e,la,hc,hU,a,w,ha,Q,hQ=>by
  cases c<;>simp only [gP,NE,beq_iff_eq] at hc
  subst hc;simp only [tN,ut,If] at hU;obtain ⟨rfl,rfl⟩:=hU;exact wp_exit (hQ _ _ ha)
 | .ret,c,st,e,la,hc,hU,a,w,ha,Q,hQ=>by
  cases c<;>simp only [gP,NE] at hc
  simp only [tN,ut,If] at hU;obtain ⟨rfl,rfl⟩:=hU;exact wp_ret (hQ _ _ ha)
theorem QV (hE:Jv P F rec) (hL:CZ P prims rec) (qB:P.follows .mixedOrders=al9):CZ P prims (step F rec):=by
 intro live x st e la h c nt im0 loc0 jw w0 a w hc ha b k cs;simp only [step] at h;cases hn:norm live st with
 |none=>rw [hn] at h;cases h
 |some oo=>
  rw [hn] at h;dsimp only at h;obtain ⟨im,loc,hk,Fk⟩:=ha.ex;obtain ⟨dB,ij,ua⟩:=WI hn hk Fk;have dm:At im0 loc0 jw w0 nt oo a w:=⟨im,dB,ij,ua⟩;cases hx:tN F rec x oo with
  |none=>rw [hx] at h;cases h
  |some q=>
   obtain ⟨e1,Ec⟩:=q;rw [hx] at h;have hw:=kY hE hL qB x c oo e1 Ec hc hx a w dm (fun e' a' w'=>e'=e1.out/\At im0 loc0 jw w0 nt Ec a' w') fun a' w' h=>⟨rfl,h⟩
   obtain ⟨e',a1,w1,⟨rfl,hq⟩,Hw⟩:=hw b (.inLoop c::k) cs;cases e1 with
   |normal=>dsimp only at h;obtain ⟨a',w',h1,h2⟩:=hL live x Ec e la h c nt im0 loc0 jw w0 a1 w1 hc hq b k cs;exact ⟨a',w',h1,.of_steps (Steps.trans Hw (.one step_inLoop)) h2⟩
   |exit id=>simp only [ut,Out.code.injEq] at h;obtain ⟨rfl,rfl⟩:=h;exact ⟨a1,w1,hq,.pass (x:= .inLoop c) rfl (fun _ _=> .inl (by simp [iA.out])) Hw⟩
   |ret=>simp only [ut,Out.code.injEq] at h;obtain ⟨rfl,rfl⟩:=h;exact ⟨a1,w1,hq,.pass (x:= .inLoop c) rfl (fun _ _=> .inl (by simp [iA.out])) Hw⟩
def pA (P:Program):List RV->List ResultVar->Bool
 | [],[]=>al9
 | .tmp t::r,.tmp t'::s=>t==t'&&pA P r s
 | .cell t agg::r,.cell t' ty::s=>t==t'&&Bp P ty agg&&pA P r s
 |_,_=>ala
def Nz (tmps:Array Value):ResultVar->Sem Value
 | .tmp t=>pure (tmps.getD t undef)
 | .cell a t=>do loadVar t (<- asAddr (tmps.getD a undef))
theorem QW {im:Im} {loc:Loc} {aD:cK} {agg:Option Nat} {p:PV} {u:Value} {r:ov} (hp:VR im loc p u) (h:pj aD agg p=al4 r): ∃ad,u= .pointer (al4 ad):=by cases hp<;>first|(simp [pj] at h;done)|exact ⟨_,rfl⟩
theorem SR.known {im:Im} {loc:Loc} {aD:cK} {fz:List Nat} {w:World} (h:SR im loc aD fz w) {r:ov} (hn:r.news=[]) (hw:r.wr=[]):jG im loc aD w r where
 bL:=h.bL
 tok:=fun t _ li hl=>h.dw t li hl
 free:=fun t k hm=>by rw [hw] at hm;cases hm
 fresh:=fun j hj=>by rw [hn] at hj;simp at hj
 jc:=fun t u li lj k k' _ _=>h.jc t u li lj k k'
theorem NA {aD:cK} {agg:Option Nat} {p:PV} {r:ov} (h:pj aD agg p=al4 r):r.news=[]/\r.wr=[]:=by
 unfold pj at h;split at h
 · split at h
   · split at h
     · rw [Do] at h;obtain ⟨_,_,rfl⟩:=h;exact ⟨rfl,rfl⟩
     cases h
   · split at h
     · rw [Do] at h;obtain ⟨_,_,rfl⟩:=h;exact ⟨rfl,rfl⟩
     cases h
   cases h
 · rw [Do] at h;obtain ⟨_,_,rfl⟩:=h;exact ⟨rfl,rfl⟩
 cases h
theorem Te {im : Im} {loc : Loc} {st : St} {a : Act} {w : World} (kX : SR im loc st.aD st.fz w) (ha : ER im loc st.env a.tmps) : ∀ {rs : List RV} {vs : List PV} {os : List ResultVar}, pA P rs os = al9 -> oy st rs = al4 vs ->
    ∃ us, (os.mapM (Nz a.tmps)).run P w = .ok us w /\ fx im loc vs us
  | [], vs, os, hc, h => by
    cases os <;> simp only [pA, NE] at hc
    simp only [oy, ut] at h; subst h
    exact ⟨[], by simp, .nil⟩
  | r :: rs, vs, [], hc, h => by cases r <;> simp [pA] at hc
  | r :: rs, vs, o :: os, hc, h => by
    simp only [oy] at h
    split at h
    · rename_i v M5 h1 h2
      injection h with h; subst h
      have Bs : ∃ u, (Nz a.tmps o).run P w = .ok u w /\ VR im loc v u /\ pA P rs os = al9 := by
        cases r with
        | tmp t =>
          cases o with
          | tmp t' =>
            simp only [pA, pp, beq_iff_eq] at hc
            obtain ⟨rfl, hc⟩ := hc
            simp only [EM, ut] at h1; subst h1
            exact ⟨_, rfl, ha t, hc⟩
          | cell _ _ => simp [pA] at hc
        | cell t agg =>
          cases o with
          | tmp t' => simp [pA] at hc
          | cell t' ty =>
            simp only [pA, pp, beq_iff_eq] at hc
            obtain ⟨⟨rfl, hag⟩, hc⟩ := hc
            simp only [EM, Do] at h1
            obtain ⟨rr, h3, rfl⟩ := h1
            obtain ⟨g1, g2⟩ := NA h3
            obtain ⟨u, cB, pg, _⟩ := KQ (P := P) (ha t) hag h3 (kX.known g1 g2)
            obtain ⟨ad, had⟩ := QW (ha t) h3
            refine ⟨u, ?_, pg, hc⟩
            simp only [Nz, had, asAddr]
            rw [had] at cB
            simpa [Instr.loadAt, Instr.sureAddr] using cB
      obtain ⟨u, hu, pg, hc⟩ := Bs
      obtain ⟨us, x4, aqZ⟩ := Te kX ha hc h2
      refine ⟨u :: us, ?_, .cons _ _ _ _ pg aqZ⟩
      rw [List.mapM_cons]
      simp only [aei, hu, aet, x4, al1]
    cases h
theorem Fm {im:Im} {loc:Loc} {st:St} {a:Act} {w:World} {fn:Func} (kX:SR im loc st.aD st.fz w) (ha:ER im loc st.env a.tmps) {rs:List RV} {vs:List PV} (hc:pA P rs fn.results.toList=al9) (h:oy st rs=al4 vs):
 ∃u,(results fn a.tmps).run P w= .ok u w/\VR im loc (results1 vs) u:=by
 obtain ⟨us,h1,h2⟩:=Te (P:=P) kX ha hc h;have e:fn.results.mapM (Nz a.tmps)=List.toArray<$>fn.results.toList.mapM (Nz a.tmps):=Array.mapM_eq_mapM_toList;have h3:(fn.results.mapM (Nz a.tmps)).run P w= .ok us.toArray w:=by rw [e];rw [map_eq_pure_bind,aei,h1];rfl
 have BG:results fn a.tmps=(do let vs <- fn.results.mapM (Nz a.tmps);pure (if h:vs.size=1 then vs[0] else .tuple vs)):=by
  unfold results
  congr 1
 rw [BG];simp only [aei,h3,aet,al1];refine ⟨_,rfl,?_⟩;cases h2 with
 |nil=>exact .cj _ _ .nil
 |cons x u xs us g2 g3=>
  cases g3 with
  |nil=>exact g2
  |cons y v ys vs g4 g5=>exact .cj _ _ (.cons _ _ _ _ g2 (.cons _ _ _ _ g4 g5))
end
end Go.Vm
/- What the logical machine answers, the model answers. -/
namespace Go.Vm
def aq (P:Program) (prims:FuncId->Bool) (x:aF) (f:FuncId):Bool:=
 match P.funcs[f]? with
 |some fn=>!(fn.name== "runtime.NumGoroutine")&&ady x.DF fn.ntmps&&pA P x.res fn.results.toList&&(match fn.body with|some c=>gP P prims fn.ntmps x.code c|none=>ala)
 |none=>ala
section
variable {P : Program} {F : nv} {rec : Task -> Option Out} {prims : FuncId -> Bool}
def Ll (P:Program) (prims:FuncId->Bool) (F:nv):Prop:= ∀f x,F f=al4 (.code x)->aq P prims x f=al9
theorem Lm: ∀(args:List PV) (i t:Nat),lk t (vF i args)=if i<=t then (args[t-i]?).getD .undef else .undef
 | [],i,t=>by simp [vF,lk]
 |v::r,i,t=>by
  simp only [vF,rT];rw [Lm r (i+1) t]
  by_cases h:i=t
  · subst h;simp
  rw [lw h]
  by_cases h2:i<=t
  · rw [ls h2,ls (by omega)]
    have:t-i=(t- (i+1))+1:=by omega
    rw [this];simp
  rw [lw h2,lw (by omega)]
theorem H5 {im:Im} {loc:Loc} {args:List PV} {us:List Value} (h:fx im loc args us) (n:Nat):ER im loc (vF 0 args) ((⟨us⟩:Array Value)++adI n Go.undef):=by
 intro t;rw [Lm];simp only [adA,if_true,Nat.sub_zero];cases ha:args[t]? with
 |none=>exact .undef _
 |some x=>
  obtain ⟨v,hv,hr⟩:=h.get t x ha;have:((⟨us⟩:Array Value)++adI n Go.undef).getD t Go.undef=v:=by have dV:=cP hv;simp only [adc];rw [Array.getElem?_append_left (by simpa using dV)];simp [hv]
  rw [this];exact hr
theorem iO {f:FuncId} {fn:Func} {c:Code} {us:Array Value} {w:World} (hf:P.funcs[f]? =al4 fn) (hn:(fn.name== "runtime.NumGoroutine")=ala) (hb:fn.body=al4 c):(callFunc f us).run P w= .ok (.enter f us) w:=by
 unfold callFunc;have hn: ¬fn.name= "runtime.NumGoroutine" :=by simpa using hn
 simp [aei,hf,hn,hb]
theorem QX (hE:Jv P F rec) (hL:CZ P prims rec) (hT:Ll P prims F) (qB:P.follows .mixedOrders=al9):CT P (step F rec):=by
 intro f args aD fz v vO Jn h im loc w us kX x4;simp only [step] at h;split at h
 · rename_i x hF
   have hc:=hT f x hF;unfold aq at hc;cases hf:P.funcs[f]? with
   |none=>rw [hf] at hc;cases hc
   |some fn=>
    rw [hf] at hc;simp only [pp,PP] at hc;obtain ⟨⟨⟨qD,hna⟩,BG⟩,qE⟩:=hc;cases hb:fn.body with
    |none=>rw [hb] at qE;cases qE
    |some c=>
     rw [hb] at qE;dsimp only at qE;refine .inr ⟨iO hf qD hb,calls_of_wp hf hb ?_⟩;split at h
     · rename_i c9
       have c9:(al3 args)=x.DF:=by simpa using c9
       have hna:x.DF<=fn.ntmps:=by simpa using hna
       have awT:=x4.ny
       let st0:St:={env:=vF 0 args,aD,fz,kn:=al3 aD}
       let a0:Act:={tmps:=(⟨us⟩:Array Value)++adI (fn.ntmps- (⟨us⟩:Array Value).size) Go.undef,defers:=[]}
       have dm:At im loc aD w fn.ntmps st0 a0 w:=by
        refine ⟨im,loc,⟨⟨kX,.refl _,.refl _,rfl,.refl _,rfl,EQ _,fun _ _ _=>rfl,fun _ _ h=> .inl h,fun _ _ h=> .inl h,fun t li k hl hs my=> .inr ⟨t,li,k,hl,hs,my,rfl⟩⟩,rfl,EQ _,fun t li hl=>?_⟩,⟨H5 x4 _,rfl,?_⟩⟩
        · obtain ⟨k,hk,_⟩:=kX.dw t li hl
          exact cP hk
        simp only [a0,ak0,aeY]
        show (al3 us)+_=_;have:(⟨us⟩:Array Value).size=(al3 us):=rfl;rw [this];omega
       have fin: ∀(st:St),(oy st x.res).map (fun vs=>Out.func (results1 vs) st.aD st.fz)=al4 (.func v vO Jn)-> ∀a' w',At im loc aD w fn.ntmps st a' w'->
        a'.defers=[]/\ ∃u,(results fn a'.tmps).run P w'= .ok u w'/\ ∃v',Ending.returned u= .returned v'/\ ∃eN bz,vN im loc aD w v vO Jn eN bz w' v':=by
        intro st cy a' w' dm
        obtain ⟨eN,bz,hk,Fk⟩:=dm.ex;rw [Do] at cy;obtain ⟨vs,Ji,he⟩:=cy;simp only [Out.func.injEq] at he;obtain ⟨rfl,rfl,rfl⟩:=he;obtain ⟨u,hu,pg⟩:=Fm (P:=P) (fn:=fn) hk.kept.sr Fk.env BG Ji;have K:=hk.kept;exact ⟨Fk.defers,u,hu,u,rfl,eN,bz,⟨K.gX,K.eh,pg,K.sr,K.os,K.tape,K.output,K.size,K.frame,K.ew,K.oq,K.own⟩⟩
       split at h
       · rename_i st hU
         exact kY hE hL qB x.code c st0 .normal st qE hU a0 w dm _ fun a' w' ae0=>fin st h a' w' ae0
       · rename_i st hU
         exact kY hE hL qB x.code c st0 .ret st qE hU a0 w dm _ fun a' w' ae0=>fin st h a' w' ae0
       cases h
     cases h
 · rename_i p hF
   obtain ⟨fn,c,hf,qD,hb,key⟩:=hE.kG.2 f p hF;rw [Do] at h;obtain ⟨⟨v1,s1,z1⟩,hp,he⟩:=h;simp only [Out.func.injEq] at he;obtain ⟨rfl,rfl,rfl⟩:=he;exact key args aD fz _ _ _ hp im loc w us kX x4
 cases h
theorem adT (hT:Ll P prims F) (Bz:zh P F) (qB:P.follows .mixedOrders=al9): ∀n,CT P (run F n)/\CZ P prims (run F n)
 |0=>⟨fun f args aD fz v vO Jn h=>by simp [run] at h,fun live x st e la h=>by simp [run] at h⟩
 |n+1=>by obtain ⟨h1,h2⟩:=adT hT Bz qB n;have hE:Jv P F (run F n):=⟨h1,Bz⟩;exact ⟨QX hE h2 hT qB,QV hE h2 qB⟩
theorem QY (hT:Ll P prims F) (Bz:zh P F) (qB:P.follows .mixedOrders=al9) {n:Nat} {f:FuncId} {args:List PV} {v:PV} {vO:cK} {Jn:List Nat} (h:run F n (.func f args [] [])=al4 (.func v vO Jn))
 {im:Im} {w:World} {us:List Value} (Ww: ∀b o,im b=al4 o->w.heap[b]? =al4 o) (x4:fx im gz args us):
 Calls P f ⟨us⟩ w fun e w'=> ∃u,e= .returned u/\(∃eN bz,VR eN bz v u/\SR eN bz vO Jn w')/\w'.os=w.os/\Tape w w'/\w'.output=w.output/\w.heap.size<=w'.heap.size/\ ∀b,b<w.heap.size->w'.heap[b]? =w.heap[b]?:=by
 have key:=(adT hT Bz qB n).1 f args [] [] v vO Jn h im gz w us (SR.empty Ww) x4;rcases key with ⟨u,w',h1,h2⟩|⟨h1,h2⟩
 · exfalso
   cases n with
   |zero=>simp [run] at h
   |succ n=>
    have h:step F (run F n) (.func f args [] [])=al4 (.func v vO Jn):=h;simp only [step] at h;split at h
    · rename_i x hF
      have hc:=hT f x hF;unfold aq at hc;cases hf:P.funcs[f]? with
      |none=>rw [hf] at hc;cases hc
      |some fn=>
       rw [hf] at hc;simp only [pp,PP] at hc;cases hb:fn.body with
       |none=>rw [hb] at hc;exact absurd hc.2 (by simp)
       |some c=>rw [iO hf hc.1.1.1 hb] at h1;cases h1
    · rename_i p hF
      obtain ⟨fn,c,hf,qD,hb,key⟩:=Bz.2 f p hF;rw [iO hf qD hb] at h1;cases h1
    cases h
 refine h2.mono fun e w' ⟨u,he,eN,bz,hp⟩=>⟨u,he,⟨eN,bz,hp.vr,hp.sr⟩,hp.os,hp.tape,hp.output,hp.size,fun b hb=>hp.frame b hb fun t li k hl=>by cases hl⟩
end
end Go.Vm
/- Functions that are known without their code: math/bits.Add64 and Sub64, slices.Clone. -/
namespace Go.Vm
section
variable {P : Program}
theorem NB {im:Im} {w:World} {v:PV} {u:Value} (kX:SR im gz [] [] w) (hv:VR im gz v u):vN im gz [] w v [] [] im gz w u where
 gX:= .refl _
 eh:= .refl _
 vr:=hv
 sr:=kX
 os:=rfl
 tape:= .refl _
 output:=rfl
 size:=EQ _
 frame:=fun _ _ _=>rfl
 ew:=fun _ _ h=> .inl h
 oq:=fun _ _ h=> .inl h
 own:=fun t li k h=>by cases h
theorem NC {im:Im} {loc:Loc} {k1 k2 k3:IntKind} {a b c:Int} {us:List Value} (h:fx im loc [.int k1 a,.int k2 b,.int k3 c] us):us=[.int k1 a,.int k2 b,.int k3 c]:=by
 cases h with
 |cons _ _ _ _ h1 h=>
  cases h with
  |cons _ _ _ _ h2 h=>
   cases h with
   |cons _ _ _ _ h3 h=>cases h;rw [h1.gN,h2.gN,h3.gN]
theorem ND {f:FuncId} {fn:Func} (hf:P.funcs[f]? =al4 fn) (qD:(fn.name== "runtime.NumGoroutine")=ala) (hb:fn.body.isNone=al9) (hn:Extern.findNext fn=al5) (he:Extern.find fn=al4 add64Entry):Jo P f Aw:=by
 intro args v news hp im w us kX x4;unfold Aw at hp;split at hp
 · rename_i a b c
   split at hp
   · rename_i hc
     have hc:c<=1:=by simpa using hc
     simp only [ut,If] at hp;obtain ⟨rfl,rfl⟩:=hp;obtain rfl:=NC x4;refine .inl ⟨_,w,?_,im,gz,NB kX (.cj _ [.int .u64 (((a:Int)+b+c)%18446744073709551616),.int .u64 (((a:Int)+b+c) / 18446744073709551616)] (.cons _ _ _ _ ?_ (.cons _ _ _ _ ?_ .nil)))⟩
     · rw [run_callFunc_extern hf qD hb hn he]
       have:=run_add64 (P:=P) (a:Int) b c (by omega) (by omega) (by omega) (by omega) w;simp only [ae8];rw [this];rfl
     · have:agd ((a+b+c)%18446744073709551616)=((a:Int)+b+c)%18446744073709551616:=by
        simp only [ae8];omega
       rw [this];exact .int _ _
     have:agd ((a+b+c) / 18446744073709551616)=((a:Int)+b+c) / 18446744073709551616:=by
      simp only [ae8];omega
     rw [this];exact .int _ _
   cases hp
 cases hp
def xcA (esz:Nat):kz:= .region al5 [⟨al4 2,.Sj (.c (.sl esz al9 [])),al5⟩] [0]
def xcN (esz:Nat):kz:= .seq (.region al5 [⟨al4 2,.Sj (.c (.sl esz al9 [])),al5⟩] [2]) .ret
def xcC (esz:Nat) (zero:Row):kz:= .seq (.region al5 [⟨al4 5,.Bn esz 0 zero [],al5⟩,⟨al4 6,.Sj (.t 0),al5⟩,⟨al4 7,.append esz (.t 5) (.t 6),al5⟩,⟨al4 2,.Sj (.t 7),al5⟩] [2]) .ret
def Tf (P:Program) (o:Oper):Bool:=
 o.guard.isNone&&o.dst==al4 4&&(match o.op with
  | .binOp .eql t x (.const (.slice al5 0 0)) _=>bH (.t 3) x&&sP P t
  |_=>ala)
def Ln (P:Program) (esz:Nat) (zero:Row) (f:FuncId):Bool:=
 match P.funcs[f]? with
 |some fn=>!(fn.name== "runtime.NumGoroutine")&&adQ 7 fn.ntmps&&pA P [.tmp 2] fn.results.toList&&(match fn.body with
  |some (.seq a (.seq (.seq (.region _ ops ala) (.cond c n .skip)) r))=>
   gP P (fun _=>al9) fn.ntmps (xcA esz) a&&gP P (fun _=>al9) fn.ntmps (xcN esz) n&&gP P (fun _=>al9) fn.ntmps (xcC esz zero) r&&bH (.t 4) c&&
    (match ops.toList with
    | [o1,o2]=>rV P (fun _=>al9) fn.ntmps ops ⟨al4 3,.Sj (.t 0),al5⟩ o1&&Tf P o2
    |_=>ala)
  |_=>ala)
 |none=>ala
theorem WJ:Jv P (fun _=>al5) (fun _=>al5):=⟨(fun _ _args _sto _fz _v _sto' _fz' h=>by cases h),⟨(fun _ _k _p h=>by cases h),(fun _ _p h=>by cases h)⟩⟩
theorem Ps {prims:FuncId->Bool}:CZ P prims (fun _=>al5):=fun _ _x _st _e _st' h=>by cases h
theorem nB (qB:P.follows .mixedOrders=al9) {esz:Nat} {zero:Row} {f:FuncId} (hc:Ln P esz zero f=al9):Jo P f (fU esz):=by
 intro args v news hp im w us kX x4;unfold Ln at hc;cases hf:P.funcs[f]? with
 |none=>rw [hf] at hc;cases hc
 |some fn=>
  rw [hf] at hc;simp only [pp,PP] at hc;obtain ⟨⟨⟨qD,hnt⟩,BG⟩,qE⟩:=hc;have hnt:7<fn.ntmps:=by simpa using hnt
  split at qE
  · rename_i ca id ops cc cn cr hb
    simp only [pp] at qE;obtain ⟨⟨⟨⟨hA,hN⟩,hC⟩,Nc⟩,QT⟩:=qE;split at QT
    · rename_i o1 o2 hl
      simp only [pp] at QT;obtain ⟨ho1,ho2⟩:=QT;have aq2: ∃e c rows,args=[.sl e c rows]:=by
       unfold fU at hp;split at hp
       · exact ⟨_,_,_,rfl⟩
       cases hp
      obtain ⟨e,cl,rows,rfl⟩:=aq2;obtain ⟨u,rfl⟩: ∃u,us=[u]:=by
       cases x4 with
       |cons _ u _ us h1 h2=>cases h2;exact ⟨u,rfl⟩
      refine .inr ⟨iO hf qD hb,calls_of_wp hf hb ?_⟩
      let st0:St:={env:=[(0,.sl e cl rows)],aD:=[],fz:=[],kn:=0}
      let a0:Act:={tmps:=(⟨[u]⟩:Array Value)++adI (fn.ntmps- (⟨[u]⟩:Array Value).size) Go.undef,defers:=[]}
      have aq3:At im gz [] w fn.ntmps st0 a0 w:=by refine ⟨im,gz,⟨⟨kX,.refl _,.refl _,rfl,.refl _,rfl,EQ _,fun _ _ _=>rfl,fun _ _ h=> .inl h,fun _ _ h=> .inl h,fun t li k hl=>by cases hl⟩,rfl,EQ _,fun t li hl=>by cases hl⟩,⟨H5 x4 _,rfl,?_⟩⟩;simp only [a0,ak0,aeY];show 1+(fn.ntmps-1)=_;omega
      have fin: ∀(st:St) (v':PV),lk 2 st.env=v'-> ∀a' w',At im gz [] w fn.ntmps st a' w'->
       a'.defers=[]/\ ∃u,(results fn a'.tmps).run P w'= .ok u w'/\ ∃v'':Value,Ending.returned u= .returned v''/\ ∃eN bz,vN im gz [] w v' st.aD st.fz eN bz w' v'':=by
       intro st v' hv' a' w' dm
       obtain ⟨eN,bz,hk,Fk⟩:=dm.ex;obtain ⟨u,hu,pg⟩:=Fm (P:=P) (fn:=fn) hk.kept.sr Fk.env BG (vs:=[v']) (by simp [oy,EM,hv']);have K:=hk.kept;exact ⟨Fk.defers,u,hu,u,rfl,eN,bz,⟨K.gX,K.eh,pg,K.sr,K.os,K.tape,K.output,K.size,K.frame,K.ew,K.oq,K.own⟩⟩
      refine wp_seq ?_;refine kY WJ Ps qB (xcA esz) _ st0 .normal {env:=[(0,.sl e cl rows)],aD:=[],fz:=[],kn:=0} hA rfl a0 w aq3 _ fun a1 w1 aq4=>?_
      refine wp_seq (wp_seq ?_);refine wp_region ?_;have amQ:ops= #[o1,o2]:=akT (by simpa using hl);subst amQ;obtain ⟨Et,dB,ij,Lo⟩:=aq4.ex;have Jy:=Lo.env 0;have Jy:VR Et dB (.sl e cl rows) (a1.tmps.getD 0 Go.undef):=Jy;obtain ⟨ad,cap,Wy,Ho,V7,lQ⟩:=Jy.oB;unfold rV at ho1;simp only [pp,beq_iff_eq] at ho1;obtain ⟨⟨⟨hd1,_⟩,Ss⟩,Tg⟩:=ho1;have aq5:o1.guard=al5:=by
       cases hg:o1.guard with
       |none=>rfl
       |some q=>rw [hg] at Ss;simp [vP] at Ss
      have amR: ∃x,(o1.op= .move x\/o1.op= .assign x)/\bH (.t 0) x=al9:=by cases ho:o1.op<;>rw [ho] at Tg<;>simp only [xJ] at Tg<;>first|exact ⟨_,.inl rfl,Tg⟩|exact ⟨_,.inr rfl,Tg⟩|simp at Tg
      obtain ⟨x1,Hl,ae1⟩:=amR;have aq6:a1.eval x1= .slice ad (al3 rows) cap:=by
       have h:=Nv (a:=a1) (e:=[(0,PV.sl e cl rows)]) (.t 0) (fun t ht=>by injection ht with ht;subst ht;exact Lo.env 0) x1 ae1;cases x1 with
       |tmp t=>
        have:(0:Nat)=t:=by simpa [bH] using ae1
        subst this;simpa [Act.eval] using Wy
       |_=>simp [bH] at ae1
      have amS:(execOp a1.eval o1).run P w1= .ok (.value (.slice ad (al3 rows) cap)) w1:=by rcases Hl with h|h<;>simp [execOp,h,aq6]
      unfold Tf at ho2;simp only [pp,beq_iff_eq,Option.isNone_iff_eq_none] at ho2;obtain ⟨⟨hg2,hd2⟩,WK⟩:=ho2;split at WK
      case h_2=>cases WK
      rename_i ty x2 ub amU;simp only [pp] at WK;obtain ⟨Wc,cy⟩:=WK;have aq7:x2= .tmp 3:=by
       cases x2 with
       |tmp t=>
        have:(3:Nat)=t:=by simpa [bH] using Wc
        subst this;rfl
       |_=>simp [bH] at Wc
      subst aq7;unfold sP at cy;split at cy
      case h_2=>cases cy
      rename_i el ot;have aq8:a1.tmps.size=fn.ntmps:=Lo.M7
      let a2:Act:=a1.put (al4 3) (.slice ad (al3 rows) cap)
      have Jd:a2.tmps.getD 3 Go.undef= .slice ad (al3 rows) cap:=by simp only [a2,Act.put,adc];rw [adH (by omega)];rfl
      have amV:(execOp a2.eval o2).run P w1= .ok (.value (.bool ad.isNone)) w1:=by
       simp only [execOp,amU];refine fk ?_;have e3:a2.eval (.tmp 3)= .slice ad (al3 rows) cap:=by simpa [Act.eval] using Jd
       rw [e3];have hg:(eqGuard .eql ty (.tmp 3) (.const (.slice al5 0 0)) (.slice ad (al3 rows) cap) (a2.eval (.const (.slice al5 0 0)))).run P w1= .ok () w1:=by unfold eqGuard;simp
       simp only [aei,hg,aet];exact Lib.run_eql_slice_nil w1 ty el ad (al3 rows) cap 0 0 ot
      let a3:Act:=a2.put (al4 4) (.bool ad.isNone)
      have ae2:At im gz [] w fn.ntmps {env:=[(0,.sl e cl rows)],aD:=[],fz:=[],kn:=0} a3 w1:=by
       refine ⟨Et,dB,ij,⟨fun t=>?_,Lo.defers,by simp [a3,a2,Act.put,aq8]⟩⟩;have h:=Lo.env t;simp only [rT] at h ⊢
       by_cases ht:t=0
       · subst ht
         simp only [if_true] at h ⊢;simpa [a3,a2,Act.put,ad9] using h
       rw [lw (fun e=>ht e.symm)];exact .undef _
      have Ky:a3.eval cc= .bool ad.isNone:=by
       cases cc with
       |tmp t=>
        have:(4:Nat)=t:=by simpa [bH] using Nc
        subst this;simp only [Act.eval,a3,Act.put,adc];rw [adH (by simp [a2,Act.put];omega)];rfl
       |_=>simp [bH] at Nc
      have ae3:List.range #[o1,o2].size=[0,1]:=rfl;rw [ae3];simp only [wpOps];have e0:(#[o1,o2]:Array Oper)[0]? =al4 o1:=rfl;have e1:(#[o1,o2]:Array Oper)[1]? =al4 o2:=rfl;rw [e0];dsimp only;have hw1:Region.wanted o1 (yielded #[o1,o2] a1.tmps)=al9:=by unfold Region.wanted;rw [aq5]
      rw [hw1,ls rfl];refine .inl ?_;unfold Oper.wp;rw [amS,Oper.upon_value,<- hd1,e1];dsimp only;have Wu:Region.wanted o2 (yielded #[o1,o2] (a1.put (al4 3) (.slice ad (al3 rows) cap)).tmps)=al9:=by unfold Region.wanted;rw [hg2]
      rw [Wu,ls rfl];refine .inl ?_;rw [show a1.put (al4 3) (.slice ad (al3 rows) cap)=a2 from rfl,amV,Oper.upon_value,hd2];show (Code.cond cc cn .skip).wp P _ a3 w1;cases had:ad with
      |none=>
       have Hv:rows=[]:=by
        rcases rows with _|⟨r,rs⟩
        · rfl
        obtain ⟨b,o,h,_⟩:=lQ (by simp)
        rw [had] at h;cases h
       subst Hv;simp only [fU,ut,If] at hp;obtain ⟨rfl,rfl⟩:=hp;refine wp_cond_true (by rw [Ky,had];rfl) ?_;refine kY WJ Ps qB (xcN esz) _ _ .ret {env:=[(2,.sl esz al9 [])],aD:=[],fz:=[],kn:=0} hN rfl a3 w1 ae2 _ fun a4 w4 Th=>?_
       obtain ⟨hdf,u',CB,v'',aq9,eN,bz,Wd⟩:=fin _ _ rfl a4 w4 Th;refine ⟨hdf,u',CB,v'',aq9,eN,bz.set 1 ⟨0,0,esz,0,0⟩,?_⟩;have Pu: ∀t,bz t=al5:=fun t=>by
        cases hl:bz t with
        |none=>rfl
        |some li=>obtain ⟨k,hk,_⟩:=Wd.sr.dw t li hl;simp at hk
       obtain ⟨ad',dd,hv3,_,aq',_⟩:=Wd.vr.oB;have Fb:dd=0:=by simpa using aq' rfl
       subst Fb;exact {
        gX:=Wd.gX,eh:=fun t li h=>by cases h
        vr:=by rw [hv3];exact .own 1 esz 0 0 0 ala ⟨0,0,esz,0,0⟩ ad' 0 (Loc.fo _ _ _) rfl (EQ _) (EQ _) (EQ _) (fun h=>by cases h) (.inl rfl)
        sr:={
         bL:=Wd.sr.bL
         dw:=fun t li h=>by
          unfold Loc.set at h;split at h
          · rename_i ht;subst ht;injection h with h;subst h
            exact ⟨_,rfl,rfl,rfl,fun h=>absurd rfl h⟩
          rw [Pu t] at h;cases h
         jc:=fun t u li lj k k' h h' hs vJ Ef=>by
          unfold Loc.set at h;split at h
          · rename_i ht;subst ht;simp at hs;subst hs;cases Ef
          rw [Pu t] at h;cases h
         free:=fun t li k h hs Ef=>by
          unfold Loc.set at h;split at h
          · rename_i ht;subst ht;simp at hs;subst hs;cases Ef
          rw [Pu t] at h;cases h}
        os:=Wd.os,tape:=Wd.tape,output:=Wd.output,size:=Wd.size,frame:=Wd.frame,ew:=Wd.ew
        oq:=fun t li h=> .inr (adA _)
        own:=fun t li k h hs Ef=>by
         unfold Loc.set at h;split at h
         · rename_i ht;subst ht;simp at hs;subst hs;cases Ef
         rw [Pu t] at h;cases h}
      |some ad'=>
       refine wp_cond_false (by rw [Ky,had];rfl) (wp_skip ?_);rcases rows with _|⟨r,rs⟩
       · simp only [fU,ut,If] at hp
         obtain ⟨rfl,rfl⟩:=hp;exact kY WJ Ps qB (xcC esz zero) _ _ .ret {env:=[(2,.own 1 esz 0 0 0 ala)],aD:=[.arr esz [],.arr esz []],fz:=[],kn:=0} hC rfl a3 w1 ae2 _ fun a4 w4 Th=>fin _ _ rfl a4 w4 Th
       simp only [fU] at hp
       split at hp
       case isFalse=>cases hp
       rename_i Pd;simp only [pp,ajg,adN] at Pd;obtain ⟨rfl,iM⟩:=Pd;simp only [ut,If] at hp;obtain ⟨rfl,rfl⟩:=hp;have hap:jh [.arr e []] [] e (.own 0 e 0 0 0 al9) (.sl e cl (r::rs))=al4 {v:= .own 1 e 0 (0+(al3 rs+1)) (0+(al3 rs+1)) ala,news:=[.arr e (r::rs)],rd:=[0]}:=by
        have h1:v6 e e=al9:=by simp
        have h2:ady (al3 rs+1) 0=ala:=rfl;have h3:ady (0+(al3 rs+1)) fa=al9:=by simpa using iM
        simp only [jh,rowsOf,h1,if_true];simp [h2,iM,jg]
       refine kY WJ Ps qB (xcC e zero) _ _ .ret {env:=[(2,.own 1 e 0 (0+(al3 rs+1)) (0+(al3 rs+1)) ala)],aD:=[.arr e [],.arr e (r::rs)],fz:=[],kn:=0} hC ?_ a3 w1 ae2 _ fun a4 w4 Th=>fin _ _ rfl a4 w4 Th
       simp only [xcC,tN,lN,mV,wanted,xH,bI,fS.ev,lk];simp [qv,XR.ok,wD,XR.next,jb,KL,gC,lk,hap]
    cases QT
  cases qE
end
end Go.Vm
/- slices.Insert of one row: what it leaves of the memory. -/
namespace Go.Vm
section
variable {P : Program} {im eN : Im} {loc bz : Loc} {aD : cK} {fz : List Nat} {w w' : World}
theorem pY (w:World) (dT sT ty el:TypeId) (esz g o ae4 arb:Nat) (a:Addr) (uU sCap:Nat) (cur:Array Value) (t:TypeId) (cs:List Value)
 (hu:P.underlying dT=al4 (.slice el)) (hs:(P.info? el).map (·.size)=al4 esz)
 (hg:w.heap[g]? =al4 (.cells cur t (0,0))) (hn:Nat.min uU ae4*esz=al3 cs)
 (arc: ∀j v,cs[j]? =al4 v->w.cell? (a.add j)=al4 v) (rl:o+al3 cs<=cur.size) (h1: ∀v∈cs,v.oneCell'=al9):
 (Builtin.copy_ #[dT,sT] ty #[.slice (al4 ⟨g,o,al5⟩) ae4 arb,.slice (al4 a) uU sCap]).run P w=
  .ok (goInt (Nat.min uU ae4)) (w.setRow g (ni o cs cur.toList).toArray):=by
 have hl:=run_loadCells_list (P:=P) w a cs arc;have cy:=run_storeCells_at P g o t cs 0 cur w hg (by simpa using rl) h1;cases hq:P.info? el with
 |none=>simp [hq] at hs
 |some i=>
  have hi:i.size=esz:=by simpa [hq] using hs
  simp [Builtin.copy_,run_underlying hu,Builtin.lenOf,Builtin.firstCells,sizeOf,typeInfo,hq,hi,hn,hl,cy,ni]
theorem BR.gj {li:LI} {k:ky} (h:BR im loc w li k) (hi:oA im eN) (hl:mN loc bz) (hw:k.bS=al9->w'.heap[li.dw]? =w.heap[li.dw]?):BR eN bz w' li k:=by
 cases hs:k.bS with
 |true=>exact h.mono hi hl (hw hs)
 |false=>
  cases k with
  |arr e rows=>
   cases rows with
   |nil=>exact ⟨h.1,h.2.1,fun dW=>absurd rfl dW⟩
   |cons r rs=>cases hs
  |box cs=>cases hs
  |map es=>cases hs
  |dead=>trivial
theorem zm {r:ov} {t:Nat} {u:Value} (kX:SR im loc aD fz w) (he:tY im loc aD w r eN bz w') (sR:r.fr=[]) (hw:r.wr=[(t,.dead)]) (ht:t<al3 aD) (hv:VR eN bz r.v u):
 vN im loc aD w r.v (aD.set t .dead++r.news) fz eN bz w' u:=by
 have c9:(aD.set t .dead).length=(al3 aD):=by simp
 have old: ∀t' li,loc t'=al4 li->t'<(al3 aD):=fun t' li h=>by obtain ⟨k,hk,_⟩:=kX.dw t' li h;exact (ww.1 hk).1
 have QZ: ∀t' li k,loc t'=al4 li->(aD.set t .dead++r.news)[t']? =al4 k->k.bS=al9->t'≠t/\aD[t']? =al4 k:=by
  intro t' li k h hk hs;have dV:=old t' li h;rw [AC (by omega),ajj] at hk;split at hk
  · first|(injection hk with hk;subst hk;cases hs)|(split at hk<;>first|(injection hk with hk;subst hk;cases hs)|cases hk)
  rename_i dW;exact ⟨fun e=>dW e.symm,hk⟩
 have Q0: ∀t' k,al3 aD<=t'->(aD.set t .dead++r.news)[t']? =al4 k->r.news[t'-(al3 aD)]? =al4 k:=by
  intro t' k h hk
  rwa [IR (by omega),c9] at hk
 have H6: ∀t' li,bz t'=al4 li->loc t'=al4 li\/(al3 aD<=t'/\t'=al3 aD+(t'-(al3 aD))):=by
  intro t' li h;rcases he.lC t' li h with h|⟨h,_⟩
  · exact .inl h
  exact .inr ⟨h,by omega⟩
 have imn: ∀b o,eN b=al4 o->im b=al4 o\/w.heap.size<=b:=by
  intro b o h;rcases he.ew b o h with h|h|⟨t0,li,k,h,_⟩
  · exact .inl h
  · exact .inr h
  rw [sR] at h;cases h
 have amW: ∀t' li k,loc t'=al4 li->aD[t']? =al4 k->t'≠t->k.bS=al9->BR im loc w li k->w'.heap[li.dw]? =w.heap[li.dw]?:=by
  intro t' li k hl hk dW hs hb;refine he.frame li.dw (hb.lt hs) fun t0 k1 l0 k0 hm Kz hk0 Jt e=>?_
  rw [hw] at hm;obtain ⟨rfl,rfl⟩:t0=t/\k1= .dead:=by simpa using hm
  exact dW (kX.jc _ _ _ _ _ _ hl Kz hk hk0 hs Jt e.symm)
 have WL: ∀t' li k,bz t'=al4 li->al3 aD<=t'->r.news[t'-(al3 aD)]? =al4 k->BR eN bz w' li k/\
  (k.bS=al9->eN li.dw=al5/\(w.heap.size<=li.dw\/ ∃lt k0,loc t=al4 lt/\aD[t]? =al4 k0/\k0.bS=al9/\lt.dw=li.dw)):=by
  intro t' li k hl lP hk;obtain ⟨h1,h2⟩:=he.news (t'-(al3 aD)) k li hk (by rw [show (al3 aD)+(t'-(al3 aD))=t' by omega];exact hl);refine ⟨h1,fun hs=>⟨(h2 hs).1,?_⟩⟩;rcases (h2 hs).2 with h|⟨t0,lt,k0,hm,a,b,c,d⟩
  · exact .inl h
  rw [hw] at hm
  obtain rfl:t0=t:=by have:=adC.1 hm;injection this
  exact .inr ⟨lt,k0,a,b,c,d⟩
 have apart: ∀t1 u1 li lj k k',loc t1=al4 li->t1≠t->aD[t1]? =al4 k->k.bS=al9->bz u1=al4 lj->al3 aD<=u1->r.news[u1-(al3 aD)]? =al4 k'->k'.bS=al9->li.dw≠lj.dw:=by
  intro t1 u1 li lj k k' hl dW hk hs mU lP Jx vJ e;obtain ⟨k2,CA,hb⟩:=kX.dw t1 li hl;rw [hk] at CA;injection CA with CA;subst CA;rcases ((WL u1 lj k' mU lP Jx).2 vJ).2 with h|⟨lt,k0,a,b,c,d⟩
  · have:=hb.lt hs;omega
  exact dW (kX.jc _ _ _ _ _ _ hl a hk b hs c (by rw [e,d]))
 exact {
  gX:=he.gX,eh:=he.eh,vr:=hv
  sr:={
   bL:=he.bL
   dw:=fun t' li h=>by
    rcases H6 t' li h with ho|⟨lP,_⟩
    · obtain ⟨k,hk,hb⟩:=kX.dw t' li ho
      have dV:=old t' li ho
      by_cases e:t'=t
      · subst e
        exact ⟨.dead,by rw [AC (by omega),List.getElem?_set_self (by omega)],trivial⟩
      refine ⟨k,by rw [AC (by omega),aeS (fun x=>e x.symm)];exact hk,hb.gj he.gX he.eh fun hs=>amW t' li k ho hk e hs hb⟩
    have hn:t'-(al3 aD)<(al3 r.news):=by
     rcases he.lC t' li h with ho|⟨_,h2⟩
     · have:=old t' li ho;omega
     omega
    obtain ⟨hb,_⟩:=WL t' li _ h lP (rc hn);exact ⟨_,by rw [IR (by omega),c9];exact rc hn,hb⟩
   jc:=fun t1 u1 li lj k k' hl mU hk Jx hs vJ e=>by
    rcases H6 t1 li hl with h1|⟨h1,_⟩<;>rcases H6 u1 lj mU with h2|⟨h2,_⟩
    · obtain ⟨n1,e1⟩:=QZ _ _ _ h1 hk hs
      obtain ⟨n2,e2⟩:=QZ _ _ _ h2 Jx vJ;exact kX.jc _ _ _ _ _ _ h1 h2 e1 e2 hs vJ e
    · obtain ⟨n1,e1⟩:=QZ _ _ _ h1 hk hs
      exact absurd e (apart _ _ _ _ _ _ h1 n1 e1 hs mU h2 (Q0 _ _ h2 Jx) vJ)
    · obtain ⟨n2,e2⟩:=QZ _ _ _ h2 Jx vJ
      exact absurd e.symm (apart _ _ _ _ _ _ h2 n2 e2 vJ hl h1 (Q0 _ _ h1 hk) hs)
    have:=he.distinct (t1-(al3 aD)) (u1-(al3 aD)) k k' li lj (Q0 _ _ h1 hk) (Q0 _ _ h2 Jx) hs vJ (by rw [show (al3 aD)+(t1-(al3 aD))=t1 by omega];exact hl) (by rw [show (al3 aD)+(u1-(al3 aD))=u1 by omega];exact mU) e
    omega
   free:=fun t' li k hl hk hs hz=>by
    rcases H6 t' li hl with h1|⟨h1,_⟩
    · obtain ⟨n1,e1⟩:=QZ _ _ _ h1 hk hs
      obtain ⟨k2,CA,hb⟩:=kX.dw t' li h1;rw [e1] at CA;injection CA with CA;subst CA;have h0:=kX.free t' li k h1 e1 hs hz;cases hi:eN li.dw with
      |none=>rfl
      |some o=>
       rcases imn _ _ hi with h|h
       · rw [h0] at h;cases h
       have:=hb.lt hs;omega
    exact ((WL t' li k hl h1 (Q0 _ _ h1 hk)).2 hs).1}
  os:=he.os,tape:=he.tape,output:=he.output,size:=he.size
  frame:=fun b hb h=>he.frame b hb fun t0 k li k0 hm hl hk hs=>h t0 li k0 hl hk hs
  ew:=fun b o h=>by
   rcases imn b o h with h|h
   · exact .inl h
   exact .inr (.inl h)
  oq:=fun t' li h=>by
   rcases H6 t' li h with h|⟨h,_⟩
   · exact .inl h
   exact .inr h
  own:=fun t' li k hl hk hs=>by
   rcases H6 t' li hl with h1|⟨h1,_⟩
   · obtain ⟨n1,e1⟩:=QZ _ _ _ h1 hk hs
     exact .inr ⟨t',li,k,h1,e1,hs,rfl⟩
   rcases ((WL t' li k hl h1 (Q0 _ _ h1 hk)).2 hs).2 with h|⟨lt,k0,a,b,c,d⟩
   · exact .inl h
   exact .inr ⟨t,lt,k0,a,b,c,d⟩}
theorem SR.H7 (h:SR im loc aD fz w):loc (al3 aD)=al5:=by
 cases hl:loc (al3 aD) with
 |none=>rfl
 |some li=>obtain ⟨k,hk,_⟩:=h.dw _ _ hl;simp at hk
theorem Q1 {t e:Nat} {li:LI} {rows L:List Row} {arr fin:Array Value} {el:TypeId} (kX:SR im loc aD fz w) (hl:loc t=al4 li) (cy:aD[t]? =al4 (.arr e rows)) (dW:rows≠[]) (hf:has fz t=ala)
 (ha:w.heap[li.dw]? =al4 (.cells arr el (0,0))) (hh:w'.heap=w.heap.setIfInBounds li.dw (.cells fin el (0,0))) (ho:w'.os=w.os) (ht:Tape w w') (hp:w'.output=w.output)
 (q9:fin.size=li.sz) (rl:li.sh+al3 L*e<=li.sz) (hr:bU (fun k=>fin[k]?) li.sh e L):
 tY im loc aD w {v:= .own (al3 aD) e 0 (al3 L) (al3 L) ala,news:=[.arr e L],wr:=[(t,.dead)]} im (loc.set (al3 aD) ⟨li.dw,li.sh,e,al3 L,li.sz⟩) w':=by
 have dV:=(M2.1 ha).1;have AE:(ky.arr e rows).bS=al9:=nS dW;have Bv:=kX.free t li _ hl cy AE hf;have SH:=kX.H7;exact {
  gX:= .refl _,eh:=Loc.ye _ SH
  bL:=fun b o hb=>by
   have h1:=kX.bL b o hb;have Nl:li.dw≠b:=fun e=>by rw [e,hb] at Bv;cases Bv
   rw [hh,ad9,lw Nl];exact h1
  ew:=fun _ _ h=> .inl h,os:=ho,tape:=ht,output:=hp
  size:=by rw [hh];simp
  QC:=fun t' k hm hs=>by
   obtain ⟨rfl,rfl⟩:t'=t/\k= .dead:=by simpa using hm
   cases hs
  frame:=fun b _ hb=>by have Nl:=hb t .dead li _ (adC.2 rfl) hl cy AE;rw [hh,ad9,lw Nl]
  wr:=fun t' k li hm mU=>by
   obtain ⟨rfl,rfl⟩:t'=t/\k= .dead:=by simpa using hm
   trivial
  lC:=fun t' l h=>by
   unfold Loc.set at h;split at h
   · rename_i e;subst e;exact .inr ⟨EQ _,by simp⟩
   exact .inl h
  news:=CK fun j k hj=>by
   cases j with
   |zero=>simp at hj;subst hj;refine ⟨_,Loc.fo _ _ _,⟨rfl,rfl,fun _=>⟨fin,el,by rw [hh];simp [dV],q9,rl,hr⟩⟩,fun _=>⟨Bv,.inr ⟨t,li,_,adC.2 rfl,hl,cy,AE,rfl⟩⟩⟩
   |succ j=>simp at hj
  distinct:=fun i j ki kj li lj h1 h2 _ _ _ _ _=>by cases i<;>cases j<;>simp at h1 h2<;>rfl}
theorem H8 {t e:Nat} {L:List Row} {fin:Array Value} {el:TypeId} (kX:SR im loc aD fz w)
 (hh:w'.heap=w.heap.push (.cells fin el (0,0))) (ho:w'.os=w.os) (ht:Tape w w') (hp:w'.output=w.output)
 (rl:(al3 L)*e<=fin.size) (hr:bU (fun k=>fin[k]?) 0 e L):
 tY im loc aD w {v:= .own (al3 aD) e 0 (al3 L) (al3 L) ala,news:=[.arr e L],wr:=[(t,.dead)]} im (loc.set (al3 aD) ⟨w.heap.size,0,e,al3 L,fin.size⟩) w':=by
 have SH:=kX.H7;have old: ∀b,b<w.heap.size->w'.heap[b]? =w.heap[b]?:=fun b hb=>by rw [hh,Array.getElem?_push,lw (by omega)]
 have dV: ∀b o,im b=al4 o->b<w.heap.size:=fun b o h=>(M2.1 (kX.bL b o h)).1
 exact {
  gX:= .refl _,eh:=Loc.ye _ SH
  bL:=fun b o hb=>by rw [old b (dV b o hb)];exact kX.bL b o hb
  ew:=fun _ _ h=> .inl h,os:=ho,tape:=ht,output:=hp
  size:=by rw [hh];simp
  QC:=fun t' k hm hs=>by
   obtain ⟨rfl,rfl⟩:t'=t/\k= .dead:=by simpa using hm
   cases hs
  frame:=fun b hb _=>old b hb
  wr:=fun t' k li hm mU=>by
   obtain ⟨rfl,rfl⟩:t'=t/\k= .dead:=by simpa using hm
   trivial
  lC:=fun t' l h=>by
   unfold Loc.set at h;split at h
   · rename_i e;subst e;exact .inr ⟨EQ _,by simp⟩
   exact .inl h
  news:=CK fun j k hj=>by
   cases j with
   |zero=>
    simp at hj;subst hj;refine ⟨_,Loc.fo _ _ _,⟨rfl,rfl,fun _=>⟨fin,el,by rw [hh];simp,rfl,by simpa using rl,hr⟩⟩,fun _=>⟨?_,.inl (EQ _)⟩⟩;cases hi:im w.heap.size with
    |none=>rfl
    |some o=>have:=dV _ _ hi;omega
   |succ j=>simp at hj
  distinct:=fun i j ki kj li lj h1 h2 _ _ _ _ _=>by cases i<;>cases j<;>simp at h1 h2<;>rfl}
theorem H9 {esz:Nat}: ∀{rows:List Row} (_: ∀r∈rows,al3 r=esz) (i:Nat),(rows.take i).flatMap aW=(rows.flatMap aW).take (i*esz)
 | [],_,i=>by simp
 |r::rs,h,0=>by simp
 |r::rs,h,i+1=>by
  have hr:(aW r).length=esz:=by rw [lR];exact h r (by simp)
  have e1:(aW r).take ((i+1)*esz)=aW r:=adG (by rw [hr,afc];omega);rw [List.take_succ_cons,aev,H9 (fun x hx=>h x (by simp [hx])) i,aev,List.take_append,e1,hr,show (i+1)*esz-esz=i*esz by rw [afc];omega]
theorem Ia {esz:Nat}: ∀{rows:List Row} (_: ∀r∈rows,al3 r=esz) (i:Nat),(rows.drop i).flatMap aW=(rows.flatMap aW).drop (i*esz)
 | [],_,i=>by simp
 |r::rs,h,0=>by simp
 |r::rs,h,i+1=>by
  have hr:(aW r).length=esz:=by rw [lR];exact h r (by simp)
  have e1:(aW r).drop ((i+1)*esz)=[]:=aeD (by rw [hr,afc];omega);rw [List.drop_succ_cons,Ia (fun x hx=>h x (by simp [hx])) i,aev,List.drop_append,e1,hr,show (i+1)*esz-esz=i*esz by rw [afc];omega,List.nil_append]
theorem WM {α:Type} {o k:Nat} {cs vs l:List α} (hl:o+(al3 cs+al3 vs)<=al3 l) (hk:k<=al3 cs) (nA: ∀j v,j<k->cs[j]? =al4 v->l[o+j]? =al4 v):
 ∀j v,(cs.take k++vs++cs.drop k)[j]? =al4 v->(ni (o+k) vs (ni (o+k+al3 vs) (cs.drop k) l))[o+j]? =al4 v:=by
 intro j v h;have hd:(cs.drop k).length=al3 cs-k:=aey;have ht:(cs.take k).length=k:=by rw [aez];omega
 have l1:o+k+al3 vs+(cs.drop k).length<=(al3 l):=by rw [hd];omega
 rw [iu _ _ _ (by rw [de _ _ _ l1];omega)];rcases acl j k with h1|h1
 · rw [lw (by omega),iu _ _ _ l1,lw (by omega)]
   rw [adK,AC (by omega),aex h1] at h;exact nA j v h1 h
 rw [adK,IR (by omega),ht] at h
 rcases acl (j-k) (al3 vs) with h2|h2
 · rw [AC h2] at h
   rw [ls ⟨by omega,by omega⟩,<- h]
   congr 1;omega
 rw [IR h2] at h
 have:=(ww.1 h).1;rw [lw (by omega),iu _ _ _ l1,ls ⟨by omega,by omega⟩,<- h]
 congr 1;omega
theorem Ti {α:Type} {k:Nat} {cs vs l:List α} (hl:(al3 cs)+al3 vs<=al3 l) (hk:k<=al3 cs) (nA: ∀(j:Nat) (v:α),j<k->cs[j]? =al4 v->l[j]? =al4 v):
 ∀(j:Nat) (v:α),(cs.take k++vs++cs.drop k)[j]? =al4 v->(ni (k+al3 vs) (cs.drop k) (ni k vs l))[j]? =al4 v:=by
 intro j v h;have hd:(cs.drop k).length=al3 cs-k:=aey;have ht:(cs.take k).length=k:=by rw [aez];omega
 have l1:k+al3 vs<=(al3 l):=by omega
 rw [iu _ _ _ (by rw [de _ _ _ l1,hd];omega)];rcases acl j k with h1|h1
 · rw [lw (by omega),iu _ _ _ l1,lw (by omega)]
   rw [adK,AC (by omega),aex h1] at h;exact nA j v h1 h
 rw [adK,IR (by omega),ht] at h
 rcases acl (j-k) (al3 vs) with h2|h2
 · rw [AC h2] at h
   rw [lw (by omega),iu _ _ _ l1,ls ⟨by omega,by omega⟩,<- h]
 rw [IR h2] at h
 have:=(ww.1 h).1;rw [ls ⟨by omega,by omega⟩,<- h]
 congr 1;omega
theorem SR.Q2 (h:SR im loc aD fz w) {t:Nat} (hf:has fz t=ala) {r:ov} (hw:r.wr=[(t,.dead)]):jG im loc aD w r where
 bL:=h.bL
 tok:=fun t _ li hl=>h.dw t li hl
 free:=fun t' k hm li k' hl hk hs=>by
  rw [hw] at hm;obtain rfl:t'=t:=by have:=adC.1 hm;injection this
  exact h.free t' li k' hl hk hs hf
 fresh:=fun j hj=>by
  cases hl:loc (al3 aD+j) with
  |none=>rfl
  |some li=>obtain ⟨k,hk,_⟩:=h.dw _ _ hl;rw [List.getElem?_eq_none (by omega)] at hk;cases hk
 jc:=fun t u li lj k k' _ _=>h.jc t u li lj k k'
structure Lp (P:Program) (f:FuncId) (e:Nat) (tS:TypeId):Prop where
 ends: ∀(oE:Option Addr) (n c vb ph vc:Nat) (w w':World) (v':Value),n<=c->(Builtin.append_ #[tS,tS] tS #[.slice oE n c,.slice (al4 ⟨vb,ph,al5⟩) 1 vc]).run P w= .ok v' w'->
  Calls P f #[.slice oE n c,.int .i64 n,.slice (al4 ⟨vb,ph,al5⟩) 1 vc] w fun e W=>e= .returned v'/\W=w'
 room: ∀(b off n c i vb ph vc:Nat) (cs vs:List Value) (arr av:Array Value) (el ev:TypeId) (w:World),i<n->n+1<=c->n<=1048576->vb≠b->w.heap[b]? =al4 (.cells arr el (0,0))->w.heap[vb]? =al4 (.cells av ev (0,0))->
  off+(n+1)*e<=arr.size->al3 cs=n*e->al3 vs=e->(∀(j:Nat) (v:Value),cs[j]? =al4 v->arr[off+j]? =al4 v)->(∀(j:Nat) (v:Value),vs[j]? =al4 v->av[ph+j]? =al4 v)->(∀v∈cs,v.oneCell'=al9)->(∀v∈vs,v.oneCell'=al9)->
  ∃fin:List Value,al3 fin=arr.size/\(∀(j:Nat) (v:Value),(cs.take (i*e)++vs++cs.drop (i*e))[j]? =al4 v->fin[off+j]? =al4 v)/\
  Calls P f #[.slice (al4 ⟨b,off,al5⟩) n c,.int .i64 i,.slice (al4 ⟨vb,ph,al5⟩) 1 vc] w fun x w'=>
   x= .returned (.slice (al4 ⟨b,off,al5⟩) (n+1) c)/\w'.heap=w.heap.setIfInBounds b (.cells fin.toArray el (0,0))/\w'.os=w.os/\Tape w w'/\w'.output=w.output
 full: ∀(b off n i vb ph vc:Nat) (cs vs:List Value) (w:World),i<n->n<=1048576->al3 cs=n*e->al3 vs=e->
  (∀(j:Nat) (v:Value),cs[j]? =al4 v->w.cell? ⟨b,off+j,al5⟩=al4 v)->(∀(j:Nat) (v:Value),vs[j]? =al4 v->w.cell? ⟨vb,ph+j,al5⟩=al4 v)->(∀v∈cs,v.oneCell'=al9)->(∀v∈vs,v.oneCell'=al9)->
  ∃(G:Nat) (fin:List Value) (el:TypeId),n+1<=G/\al3 fin=G*e/\(∀(j:Nat) (v:Value),(cs.take (i*e)++vs++cs.drop (i*e))[j]? =al4 v->fin[j]? =al4 v)/\
  Calls P f #[.slice (al4 ⟨b,off,al5⟩) n n,.int .i64 i,.slice (al4 ⟨vb,ph,al5⟩) 1 vc] w fun x w'=>
   x= .returned (.slice (al4 ⟨w.heap.size,0,al5⟩) (n+1) G)/\w'.heap=w.heap.push (.cells fin.toArray el (0,0))/\w'.os=w.os/\Tape w w'/\w'.output=w.output
theorem By.ins {f:FuncId} {e:Nat} {tS tE:TypeId} {fn:Func} {c:Code} {i0:TypeInfo} {z:Value} (hf:P.funcs[f]? =al4 fn) (qD:(fn.name== "runtime.NumGoroutine")=ala) (hb:fn.body=al4 c)
 (ht:P.underlying tS=al4 (.slice tE)) (hi:P.info? tE=al4 i0) (q9:i0.size=e) (hz:i0.zero=al4 z) (KV:z.cells.size=e) (Nj:i0.bytes<=1048576) (he0:0<e) (H:Lp P f e tS):By P f (I9 e):=by
 refine ⟨fn,c,hf,qD,hb,?_⟩;intro args aD fz v vO Jn hp im loc w us kX x4;unfold I9 at hp;split at hp
 case h_2=>cases hp
 rename_i t e1 off len cap ex i u e2 al8 KM Tj ex2;split at hp
 case h_2=>cases hp
 rename_i e3 rows e4 new cy hsu;split at hp
 case isFalse=>cases hp
 rename_i hc;simp only [pp,ajg,PP,decide_eq_true_eq,adN] at hc;obtain ⟨⟨⟨⟨⟨⟨⟨⟨⟨⟨⟨q1,q2⟩,rfl⟩,rfl⟩,c9⟩,rfl⟩,Bt⟩,htu⟩,Sl⟩,Pv⟩,hil⟩,iM⟩:=hc;have q1:=q1.symm;subst q1;have q2:=q2.symm;subst q2;have iM:len+1<=1048576:=iM;injection hp with hp;simp only [If] at hp;obtain ⟨rfl,rfl,rfl⟩:=hp;obtain ⟨k,rfl⟩: ∃k:Nat,i=(k:Int):=⟨i.toNat,by omega⟩;simp only [Int.toNat_natCast] at hil ⊢;obtain ⟨x0,Q3,rfl,Jy,x4⟩: ∃x0 Q3,us=x0::Q3/\VR im loc (.own t e 0 len cap ex) x0/\fx im loc [.int .i64 (k:Int),.own u e 0 1 Tj ex2] Q3:=by cases x4 with|cons _ a _ b h1 h2=>exact ⟨a,b,rfl,h1,h2⟩
 obtain ⟨x1,us2,rfl,Hl,x4⟩: ∃x1 us2,Q3=x1::us2/\VR im loc (.int .i64 (k:Int)) x1/\fx im loc [.own u e 0 1 Tj ex2] us2:=by cases x4 with|cons _ a _ b h1 h2=>exact ⟨a,b,rfl,h1,h2⟩
 obtain ⟨x2,us3,rfl,Wc,x4⟩: ∃x2 us3,us2=x2::us3/\VR im loc (.own u e 0 1 Tj ex2) x2/\fx im loc [] us3:=by cases x4 with|cons _ a _ b h1 h2=>exact ⟨a,b,rfl,h1,h2⟩
 obtain rfl:us3=[]:=by cases x4;rfl
 have Hl:=Hl.gN;subst Hl;obtain ⟨li,a,dd,rfl,hl,he,CL,hlc,Nc,_,Bu⟩:=Jy.ir;obtain ⟨lj,a2,Tk,rfl,KU,DJ,avu,awW,awX,_,amZ⟩:=Wc.ir;have Ny:t<(al3 aD):=(ww.1 cy).1;obtain ⟨k1,ij,sS⟩:=kX.dw t li hl;rw [cy] at ij;injection ij with ij;subst ij;obtain ⟨k2,CA,ard⟩:=kX.dw u lj KU;rw [hsu] at CA;injection CA with CA;subst CA;obtain ⟨b1,b2,b3⟩:=sS;obtain ⟨d1,d2,d3⟩:=ard;have ae5:new≠[]:=by intro h;subst h;simp at Bt
 obtain ⟨av,ev,M6,hv2,hv3,ae6⟩:=d3 ae5;have e34:e=e3:=by rw [<- b1,he]
 subst e34;have e44:e=e4:=by rw [<- d1,DJ]
 subst e44;obtain rfl:a2=al4 ⟨lj.dw,lj.sh,al5⟩:=by
  rcases amZ with h|⟨_,h,_⟩
  · omega
  simpa using h
 have Hs:=ae6.oC;have Sm:=ae6.plain;have Ht:=dP Hs;rw [Bt] at Ht;refine .inr ⟨iO hf qD hb,?_⟩;rcases acl k len with hk|hk
 ·
  have oF:rows≠[]:=by intro h;subst h;simp at c9;omega
  obtain ⟨arr,el,ua,Jd,Ky,dm⟩:=b3 oF;obtain ⟨Wp,rfl,rl⟩:li.n≠0/\a=al4 ⟨li.dw,li.sh,al5⟩/\li.sh+dd*e<=li.sz:=by
   rcases Bu with h|⟨h1,h2,h3⟩
   · omega
   exact ⟨h1,by simpa using h2,by simpa using h3⟩
  have KS:=dm.oC;have Ws:=dm.plain;have SF:=dP KS;rw [<- c9] at SF;obtain ⟨L,hL⟩: ∃L,L=rows.take k++new++rows.drop k:=⟨_,rfl⟩;have hLl:(al3 L)=len+1:=by rw [hL];simp only [adF,aez,aey,Bt];omega
  have hLf:L.flatMap aW=(rows.flatMap aW).take (k*e)++new.flatMap aW++(rows.flatMap aW).drop (k*e):=by rw [hL,aeb,aeb,H9 KS,Ia KS]
  have hLr: ∀r∈L,al3 r=e:=by
   intro r hr;rw [hL] at hr;rcases ad6.1 hr with h|h
   · rcases ad6.1 h with h|h
     · exact KS r (afe h)
     exact Hs r h
   exact KS r (afi h)
  have hLp: ∀r∈L,∀c∈r,c.plain=al9:=by
   intro r hr;rw [hL] at hr;rcases ad6.1 hr with h|h
   · rcases ad6.1 h with h|h
     · exact Ws r (afe h)
     exact Sm r h
   exact Ws r (afi h)
  rw [<- hL,<- hLl];have nA: ∀j v,(rows.flatMap aW)[j]? =al4 v->arr[li.sh+j]? =al4 v:=fun j v hj=>dm.flat j v hj
  have Ji: ∀j v,(new.flatMap aW)[j]? =al4 v->av[lj.sh+j]? =al4 v:=fun j v hj=>ae6.flat j v hj
  have Hp:(len+1)*e<=dd*e\/dd=len:=by
   rcases acl len dd with h|h
   · exact .inl (afn _ h)
   exact .inr (by omega)
  rcases Hp with ud|Pq
  · have am1:len+1<=dd:=Nat.le_of_mul_le_mul_right ud he0
    have dW:lj.dw≠li.dw:=fun h=>by have:=kX.jc u t lj li _ _ KU hl hsu cy (nS ae5) (nS oF) h;rw [this] at htu;simp at htu
    obtain ⟨fin,f1,f2,f3⟩:=H.room li.dw li.sh len dd k lj.dw lj.sh Tk _ _ arr av el ev w hk am1 (by omega) dW ua M6 (by omega) SF (by omega) nA Ji (oD Ws) (oD Sm);refine f3.mono fun x w' ⟨hx,hh,ho,htp,hpp⟩=>⟨_,hx,im,loc.set (al3 aD) ⟨li.dw,li.sh,e,al3 L,li.sz⟩,?_⟩
    have hE:=Q1 (w':=w') (L:=L) kX hl cy oF Sl ua hh ho htp hpp (by simp [f1,Jd]) (by rw [hLl];omega) (bU.AB hLr hLp fun j v hj=>by rw [hLf] at hj;simpa using f2 j v hj);refine zm kX hE rfl rfl Ny ?_;rw [<- hLl];exact .own _ _ 0 _ _ ala ⟨li.dw,li.sh,e,al3 L,li.sz⟩ _ dd (Loc.fo _ _ _) rfl (by show 0+al3 L<=al3 L;omega) (EQ _) (by omega) (fun h=>by cases h) (.inr ⟨by show (al3 L)≠0;omega,by simp,by show li.sh+(0+dd)*e<=li.sz;rw [al2];exact rl⟩)
  subst Pq
  obtain ⟨G,fin,el',g1,g2,g3,g4⟩:=H.full li.dw li.sh dd k lj.dw lj.sh Tk _ _ w hk (by omega) SF (by omega) (fun j v hj=>by simp only [ak4,ua];exact nA j v hj) (fun j v hj=>by simp only [ak4,M6];exact Ji j v hj) (oD Ws) (oD Sm);have hg:(dd+1)*e<=G*e:=afn _ g1;refine g4.mono fun x w' ⟨hx,hh,ho,htp,hpp⟩=>⟨_,hx,im,loc.set (al3 aD) ⟨w.heap.size,0,e,al3 L,fin.toArray.size⟩,?_⟩
  have hE:=H8 (w':=w') (t:=t) (L:=L) (e:=e) kX hh ho htp hpp (by rw [hLl];simp [g2];omega) (bU.AB hLr hLp fun j v hj=>by rw [hLf] at hj;simpa using g3 j v hj);refine zm kX hE rfl rfl Ny ?_;rw [<- hLl];exact .own _ _ 0 _ _ ala ⟨w.heap.size,0,e,al3 L,fin.toArray.size⟩ _ G (Loc.fo _ _ _) rfl (by show 0+al3 L<=al3 L;omega) (EQ _) (by omega) (fun h=>by cases h) (.inr ⟨by show (al3 L)≠0;omega,by simp,by show 0+(0+G)*e<=fin.toArray.size;simp [g2]⟩)
 ·
  obtain rfl:k=len:=by omega
  have are:rows.take k++new++rows.drop k=rows++new:=by rw [adG (by omega),aeD (by omega),List.append_nil]
  rw [are];have arf:VR im loc (.own t e 0 k k ala) (.slice a k dd):= .own t e 0 k k ala li a dd hl he (by omega) (EQ _) (by omega) (by simp) Bu;have Bm:rowsOf aD e (.own u e 0 1 Tj ex2)=al4 new:=by
   have:(new.drop 0).take 1=new:=by rw [al0,adG (by omega)]
   show (if v6 e e=al9 then (match aD[u]? with|some (.arr _ rows)=>al4 ((rows.drop 0).take 1)|_=>al5) else al5)=_;rw [ls (Nat.beq_refl e),hsu];exact congrArg al4 this
  have hap:jh aD fz e (.own t e 0 k k ala) (.own u e 0 1 Tj ex2)=al4 {v:= .own (al3 aD) e 0 (k+1) (k+1) ala,news:=[.arr e (rows++new)],wr:=[(t,.dead)],rd:=[u]}:=by
   have h1:ady (k+1) k=ala:=by
    cases h:ady (k+1) k with
    |false=>rfl
    |true=>have:=Nat.le_of_ble_eq_true h;omega
   have h2:ady (k+1) fa=al9:=by simpa [fa] using iM
   have h3:(rows.drop 0).take k=rows:=by rw [al0,adG (by omega)]
   unfold jh;rw [Bm];cases new with
   |nil=>exact absurd rfl ae5
   |cons r rs=>have h0:(r::rs).length=1:=Bt;simp only [h0,cy,h1,h2,h3,Sl,jg];simp
  obtain ⟨v',w',bz,cB,pg,hE⟩:=EU (P:=P) (w:=w) (ty:=tS) ht ht hi q9 hz KV Nj arf Wc hap (kX.Q2 Sl rfl);refine (H.ends a k dd lj.dw lj.sh Tk w w' v' (by omega) cB).mono fun x W ⟨hx,hW⟩=>⟨v',hx,im,bz,?_⟩
  subst hW;exact zm kX hE rfl rfl Ny pg
end
end Go.Vm
/- slices.Concat of two slices that nobody writes to: the table's entry. -/
namespace Go.Vm
def Tl (P : Program) (f : FuncId) : Prop :=
  ∀ (vb c : Nat) (a1 a2 : Option Addr) (c1 c2 : Nat) (Hx Hy : List Value) (av : Array Value) (ev : TypeId) (w : World), w.heap[vb]? = al4 (.cells av ev (0, 0)) -> av[0]? = al4 (.slice a1 (al3 Hx) c1) -> av[1]? = al4 (.slice a2 (al3 Hy) c2) -> 1 <= (al3 Hx) + (al3 Hy) -> (al3 Hx) + (al3 Hy) <= 1048576 ->
    (∀ (j : Nat) (v : Value), Hx[j]? = al4 v -> ∃ b o, a1 = al4 ⟨b, o, al5⟩ /\ w.cell? ⟨b, o + j, al5⟩ = al4 v) -> (∀ (j : Nat) (v : Value), Hy[j]? = al4 v -> ∃ b o, a2 = al4 ⟨b, o, al5⟩ /\ w.cell? ⟨b, o + j, al5⟩ = al4 v) -> (∀ v ∈ Hx, v.oneCell' = al9) -> (∀ v ∈ Hy, v.oneCell' = al9) ->
    ∃ (G : Nat) (fin : List Value) (el : TypeId), (al3 Hx) + (al3 Hy) <= G /\ (al3 fin) = G /\ (∀ (j : Nat) (v : Value), (Hx ++ Hy)[j]? = al4 v -> fin[j]? = al4 v) /\
    Calls P f #[.slice (al4 ⟨vb, 0, al5⟩) 2 c] w fun x w' => x = .returned (.slice (al4 ⟨w.heap.size, 0, al5⟩) ((al3 Hx) + (al3 Hy)) G) /\ w'.heap = w.heap.push (.cells fin.toArray el (0, 0)) /\ w'.os = w.os /\ Tape w w' /\ w'.output = w.output
section
variable {P : Program} {im : Im} {loc : Loc} {w : World}
theorem nC {rows:List Row} (h:wE rows=al9):(∀r∈rows,al3 r=1)/\ ∀r∈rows,∀c∈r,c.plain=al9:=by
 unfold wE at h;rw [adz] at h;constructor
 · intro r hr
   have:=h r hr;simp only [pp,ajg] at this;exact this.1
 intro r hr c hc
 have:=h r hr;simp only [pp,adz] at this;exact this.2 c hc
theorem Lq {e:Nat} {cl:Bool} {rows:List Row} {u:Value} (h:VR im loc (.sl e cl rows) u) (h1:wE rows=al9) (he:(v6 e 1||rows.isEmpty)=al9) (bL: ∀b o,im b=al4 o->w.heap[b]? =al4 o):
 ∃a c,u= .slice a (rows.flatMap aW).length c/\(rows.flatMap aW).length=al3 rows/\ ∀(j:Nat) (v:Value),(rows.flatMap aW)[j]? =al4 v-> ∃b o,a=al4 ⟨b,o,al5⟩/\w.cell? ⟨b,o+j,al5⟩=al4 v:=by
 obtain ⟨a,cap,rfl,_,_,lQ⟩:=h.oB;obtain ⟨l1,l2⟩:=nC h1;have hl:=dP l1;rw [Nat.mul_one] at hl;refine ⟨a,cap,by rw [hl],hl,fun j v hj=>?_⟩;have dW:rows≠[]:=by intro h;subst h;simp at hj
 obtain ⟨b,o,rfl,dm⟩:=lQ dW;obtain rfl:e=1:=by
  cases rows with
  |nil=>exact absurd rfl dW
  |cons r rs=>simpa using he
 exact ⟨b,o,rfl,qz bL (dm.flat j v hj)⟩
theorem By.cat {f:FuncId} {fn:Func} {c:Code} (hf:P.funcs[f]? =al4 fn) (qD:(fn.name== "runtime.NumGoroutine")=ala) (hb:fn.body=al4 c) (H:Tl P f):By P f I7:=by
 refine ⟨fn,c,hf,qD,hb,?_⟩;intro args aD fz v vO Jn hp im loc w us kX x4;unfold I7 at hp;split at hp
 case h_2=>cases hp
 rename_i t e off len cap ex;split at hp
 case h_2=>cases hp
 rename_i e1 cl1 x e2 cl2 y cy;split at hp
 case isFalse=>cases hp
 rename_i hc;simp only [pp,ajg,PP,adN] at hc;obtain ⟨⟨⟨⟨⟨⟨⟨⟨⟨rfl,rfl⟩,rfl⟩,Sl⟩,Hl⟩,WN⟩,Hr⟩,iM⟩,Sn⟩,DJ⟩:=hc;have iM:(al3 x)+al3 y<=1048576:=iM;injection hp with hp;simp only [If] at hp;obtain ⟨rfl,rfl,rfl⟩:=hp;obtain ⟨x0,Q3,rfl,Jy,x4⟩: ∃x0 Q3,us=x0::Q3/\VR im loc (.own t 1 0 2 cap ex) x0/\fx im loc [] Q3:=by cases x4 with|cons _ a _ b h1 h2=>exact ⟨a,b,rfl,h1,h2⟩
 obtain rfl:Q3=[]:=by cases x4;rfl
 obtain ⟨li,a,dd,rfl,hl,he,CL,hlc,Nc,_,Bu⟩:=Jy.ir;obtain ⟨k1,ij,sS⟩:=kX.dw t li hl;rw [cy] at ij;injection ij with ij;subst ij;obtain ⟨_,_,b3,vs,ev,b4,b5,b6⟩:=sS;have Ny:t<(al3 aD):=(ww.1 cy).1;obtain ⟨u1,vs1,rfl,v1,b6⟩: ∃u1 vs1,vs=u1::vs1/\VR im loc (.sl e1 cl1 x) u1/\fx im loc [.sl e2 cl2 y] vs1:=by cases b6 with|cons _ a _ b h1 h2=>exact ⟨a,b,rfl,h1,h2⟩
 obtain ⟨u2,vs2,rfl,v2,b6⟩: ∃u2 vs2,vs1=u2::vs2/\VR im loc (.sl e2 cl2 y) u2/\fx im loc [] vs2:=by cases b6 with|cons _ a _ b h1 h2=>exact ⟨a,b,rfl,h1,h2⟩
 obtain rfl:vs2=[]:=by cases b6;rfl
 obtain rfl:a=al4 ⟨li.dw,0,al5⟩:=by
  rcases Bu with h|⟨_,h,_⟩
  · omega
  rw [b3] at h;simpa using h
 obtain ⟨a1,d1,rfl,l1,r1⟩:=Lq v1 Hl Sn kX.bL;obtain ⟨a2,d2,rfl,l2,r2⟩:=Lq v2 WN DJ kX.bL;obtain ⟨G,fin,el,g1,g2,g3,g4⟩:=H li.dw dd a1 a2 d1 d2 (x.flatMap aW) (y.flatMap aW) _ ev w b4 rfl rfl (by omega) (by omega) r1 r2 (oD (nC Hl).2) (oD (nC WN).2);refine .inr ⟨iO hf qD hb,?_⟩;have hL:(x++y).length=(x.flatMap aW).length+(y.flatMap aW).length:=by rw [adF];omega
 refine g4.mono fun z w' ⟨hz,hh,ho,htp,hpp⟩=>⟨_,hz,im,loc.set (al3 aD) ⟨w.heap.size,0,1,(x++y).length,fin.toArray.size⟩,?_⟩
 have hE:=H8 (w':=w') (t:=t) (L:=x++y) (e:=1) kX hh ho htp hpp (by rw [Nat.mul_one,hL,List.size_toArray,g2];exact g1) (bU.AB (fun r hr=>by
  rcases ad6.1 hr with h|h
  · exact (nC Hl).1 r h
  · exact (nC WN).1 r h) (fun r hr=>by
  rcases ad6.1 hr with h|h
  · exact (nC Hl).2 r h
  · exact (nC WN).2 r h) fun j v hj=>by
  rw [aeb] at hj;simpa using g3 j v hj)
 refine zm kX hE rfl rfl Ny ?_;rw [<- hL];exact .own _ _ 0 _ _ ala ⟨w.heap.size,0,1,(x++y).length,fin.toArray.size⟩ _ G (Loc.fo _ _ _) rfl (by show 0+(x++y).length<=(x++y).length;rw [al2];exact EQ _) (EQ _) (by rw [hL];exact g1) (fun h=>by cases h) (.inr ⟨by show (x++y).length≠0;omega,by simp,by show 0+(0+G)*1<=fin.toArray.size;simp [g2]⟩)
end
end Go.Vm
/- A table of functions as a tree. -/
namespace Go.Vm
inductive TT where
 |nil
 |leaf (k:Nat) (e:Ent)
 |node (m:Nat) (a b:TT)
def TT.get:TT->Nat->Option Ent
 | .nil,_=>al5
 | .leaf k e,f=>bif v6 f k then al4 e else al5
 | .node m a b,f=>bif adQ f m then a.get f else b.get f
def TT.All (p:Nat->Ent->Prop):TT->Prop
 | .nil=>True
 | .leaf k e=>p k e
 | .node _ a b=>a.All p/\b.All p
theorem TT.BH {p:Nat->Ent->Prop}: ∀{t:TT} {f:Nat} {e:Ent},t.All p->t.get f=al4 e->p f e
 | .nil,f,e,_,h=>by cases h
 | .leaf k e',f,e,ha,h=>by
  simp only [TT.get] at h;cases hk:v6 f k with
  |false=>rw [hk] at h;cases h
  |true=>
   rw [hk] at h;have:f=k:=by simpa using hk
   subst this;have h:al4 e'=al4 e:=h;injection h with h;subst h;exact ha
 | .node m a b,f,e,ha,h=>by
  simp only [TT.get] at h;cases hk:adQ f m with
  |false=>rw [hk] at h;exact TT.BH ha.2 h
  |true=>rw [hk] at h;exact TT.BH ha.1 h
def ui (P:Program) (f:Nat):Ent->Prop
 | .code x=>aq P (fun _=>al9) x f=al9
 | .kG k p=>k=ala/\Jo P f p
 | .Hi p=>By P f p
theorem TT.am4 {P:Program} {t:TT} (h:t.All (ui P)):Ll P (fun _=>al9) t.get:=fun f x hf=>by have:=TT.BH h hf;exact this
theorem TT.WQ {P:Program} {t:TT} (h:t.All (ui P)):zh P t.get:=⟨fun _ _ _ hf=>TT.BH h hf,fun _ _ hf=>TT.BH h hf⟩
end Go.Vm
/- The logical machine's code of a function, reckoned from the model's own (what it comes to is looked at by chkFunc; nothing is proved of it here). -/
namespace Go.Vm
structure Hint where
 md:FuncId->CM
 gj:List Nat
 arh:List (Nat×List (Nat×Nat)):=[]
 more:List (Nat×List (Nat×Option Nat)):=[]
 tb:Bool:=ala
section
variable (P : Program)
def Q4 (t:TypeId):Nat:=match P.info? t with
 |some i=>i.size
 |none=>0
def NF (t:TypeId):Option Nat:=match P.underlying t with
 |some (.struct _)|some (.array _ _)=>al4 (Q4 P t)
 |_=>al5
def u4:Nat->TypeId->List PV
 |0,_=>[]
 |n+1,t=>match P.underlying t with
  |some (.int k)=>[.int k 0]
  |some .bool=>[.bool ala]
  |some .string=>[.str .empty]
  |some (.slice e)=>[.sl (Q4 P e) al9 []]
  |some (.struct fs)=>fs.toList.flatMap fun f=>u4 n f.type
  |some (.array m e)=>(adL m (u4 n e)).flatten
  |some (.func ..)=>[.eg]
  |_=>[.undef]
def adU (t:TypeId):PV:=match u4 P 9 t with
 |x::_=>x
 | []=> .sl 0 al9 []
def adV (t:TypeId):PV:=match NF P t with
 |some _=> .agg (u4 P 9 t)
 |none=>adU P t
def adW (z:PV):Value->PV
 | .int k n=> .int k n
 | .bool b=> .bool b
 | .string s=> .str s
 | .slice .. =>z
 | .nilFunc=> .eg
 |_=> .undef
def adX:List PV->List Value->List PV
 |z::zs,v::vs=>adW z v::adX zs vs
 |_,_=>[]
def ari (t:TypeId):Value->PV
 | .agg vs=> .agg (adX (u4 P 9 t) vs.toList)
 |v=>adW (adU P t) v
def rW (t:TypeId):Operand->fS
 | .tmp n=> .t n
 | .const v=> .c (ari P t v)
 | .func f=> .c (.eO f [] [])
 | .global _=> .c .undef
def Tm:List TypeId->List Operand->List fS
 |t::ts,o::os=>rW P t o::Tm ts os
 |_,_=>[]
def gQ:Operand->fS
 | .tmp n=> .t n
 | .const (.int k n)=> .c (.int k n)
 | .const (.bool b)=> .c (.bool b)
 | .const (.string s)=> .c (.str s)
 | .func f=> .c (.eO f [] [])
 |_=> .c .undef
def z6 (t:TypeId):TypeId:=match P.underlying t with
 |some (.slice e)=>e
 |some (.array _ e)=>e
 |_=>0
def Tn (place:Nat->Option (Nat×Nat)) (ty:Nat->TypeId):List (Nat×Operand)->List (Nat×Nat×fS)
 | []=>[]
 |(i,o)::r=>match place i with
  |some (a,b)=>(a,b,rW P (ty i) o)::Tn place ty r
  |none=>[]
def To (t:TypeId) (i:Nat):TypeId:=match P.underlying t with
 |some (.struct fs)=>match fs[i]? with
  |some f=>f.type
  |none=>0
 |some (.array _ e)=>e
 |_=>0
def am5 (t:TypeId) (i:Nat):Nat:=match P.underlying t with
 |some (.struct fs)=>match fs[i]? with
  |some f=>f.offset
  |none=>0
 |_=>0
def adY:BinOp->Bool
 | .neq=>al9
 |_=>ala
def Tp (b:Builtin) (args:List Operand) (ts:List TypeId):lA:=
 match b,args,ts with
 | .len,x::_,t::_=>match P.underlying t with
  |some (.slice _)|some (.map _ _)=> .len (rW P t x)
  |some (.array m _)=> .Na m
  |some (.pointer e)=>match P.underlying e with
   |some (.array m _)=> .Na m
   |_=> .bad
  |_=> .bad
 | .append,[x,y],[t,u]=>match P.underlying u with
  |some (.slice _)=> .append (Q4 P (z6 P t)) (rW P t x) (rW P u y)
  |_=> .bad
 | .copy,[x,y],[t,u]=>match P.underlying u with
  |some (.slice _)=> .copy (Q4 P (z6 P t)) (rW P t x) (rW P u y)
  |_=> .bad
 | .clear,[x],[t]=>match P.underlying t with
  |some (.slice e)=> .clear (Q4 P e) (u4 P 9 e) (rW P t x)
  |_=> .bad
 | .min,x::xs,_=> .mm ala (gQ x) (xs.map gQ)
 | .max,x::xs,_=> .mm al9 (gQ x) (xs.map gQ)
 |_,_,_=> .bad
def cOp (tb:Bool) (md:FuncId->CM) (ty:TypeId):Op->lA
 | .move x| .assign x=> .Sj (rW P ty x)
 | .pick c a b=> .pick (gQ c) (rW P ty a) (rW P ty b)
 | .binOp op t x y _=>match P.underlying t with
  |some (.int _)=> .bin op (gQ x) (gQ y)
  |some .bool=> .KE (adY op) (gQ x) (gQ y)
  |some (.struct _)|some (.array _ _)=> .eqc (Q4 P t) (adY op) (rW P t x) (rW P t y)
  |_=> .bad
 | .unOp op _ x=> .un op (gQ x)
 | .convert _ t x=>match P.underlying t with
  |some (.int k)=> .conv k (gQ x)
  |_=> .bad
 | .box t x=> .box (rW P t x)
 | .alloc t=> .alloc (u4 P 9 t)
 | .build t ps=> .build (u4 P 9 t) (Tn P (placeOf P t) (To P t) ps.toList)
 | .buildSlice t n ps=>match P.underlying (z6 P t),n,ps.toList with
  |some (.slice _),2,[(0,a),(1,b)]=> .DD (rW P (z6 P t) a) (rW P (z6 P t) b)
  |_,_,_=> .Bn (Q4 P (z6 P t)) n (u4 P 9 (z6 P t)) (ps.toList.map fun p=>(p.1,rW P (z6 P t) p.2))
 | .load t a=> .load (NF P t) (gQ a)
 | .store t a v=> .store (Q4 P t) (gQ a) (rW P t v)
 | .nilCheck x=> .KF (gQ x)
 | .fieldAddr t a f=> .KG (am5 P t f) (gQ a)
 | .field t a f=> .ju (NF P (To P t f)) (am5 P t f) (gQ a)
 | .indexAddr t a j=>match P.underlying t with
  |some (.slice e)=> .KH (Q4 P e) (rW P t a) (gQ j)
  |some (.array m e)=> .DE m (Q4 P e) (gQ a) (gQ j)
  |_=> .bad
 | .index t a j=>match P.underlying t with
  |some (.array m e)=> .idx m (Q4 P e) (NF P e) (rW P t a) (gQ j)
  |some .string=> .KI (gQ a) (gQ j)
  |_=> .bad
 | .slice t a b c d=>match P.underlying t with
  |some (.slice e)=> .Qz (Q4 P e) (rW P t a) (b.map gQ) (c.map gQ) (d.map gQ)
  |_=> .bad
 | .makeSlice t a b=> .mks (Q4 P (z6 P t)) (u4 P 9 (z6 P t)) (gQ a) (gQ b)
 | .makeFunc (.func g) c d=> .mkf g (c.toList.map gQ) (d.toList.map gQ)
 | .makeMap t _=> .mkm (bif tb then (match P.underlying t with
  |some (.map _ e)=>al4 (adV P e)
  |_=>al5) else al5)
 | .extract a j=> .ext j (gQ a)
 | .lookup t a b ok=>match P.underlying t with
  |some (.map k e)=> .lookup (NF P k) (adV P e) ok (gQ a) (rW P k b)
  |_=> .bad
 | .mapUpdate t a b c| .insert t a b c=>match P.underlying t with
  |some (.map k e)=> .I4 (NF P k) (gQ a) (rW P k b) (rW P e c)
  |_=> .bad
 | .call c=>match c.callee with
  | .builtin b=>Tp P b c.args.toList c.argTypes.toList
  | .value (.func f)=> .call (md f) f (Tm P c.argTypes.toList c.args.toList)
  | .value x=> .xF (gQ x) (Tm P c.argTypes.toList c.args.toList)
  |_=> .bad
 |_=> .bad
def am6 (tb:Bool) (md:FuncId->CM) (ops:Array Oper) (o:Oper):bY:=
 ⟨o.dst,cOp P tb md o.type o.op,match o.guard with
  |some (i,b)=>match ops[i]? with
   |some q=>match q.dst with
    |some d=>al4 (d,b)
    |none=>al5
   |none=>al5
  |none=>al5⟩
def Tq:List Nat->List Oper->List Nat
 |acc,[]=>acc
 |acc,o::os=>Tq (acc++[(nT acc (al3 acc) o.after.toList).getD 0]) os
def bitsOf:Nat->Nat->Nat->List Nat
 |0,_,_=>[]
 |n+1,i,m=>bif v6 m 0 then [] else bif v6 (Nat.mod m 2) 1 then i::bitsOf n (i+1) (Nat.div m 2) else bitsOf n (i+1) (Nat.div m 2)
def Ts (l:List (Nat×Nat)) (x:Nat):Nat×Option Nat:=match l with
 | []=>(x,al5)
 |(t,k)::r=>bif v6 t x then (x,al4 k) else Ts r x
def Tt {α:Type} (n:Nat):List (Nat×List α)->List α
 | []=>[]
 |(m,l)::r=>bif v6 m n then l else Tt n r
def hd (l:List Nat):Nat:=match l with
 |x::_=>x
 | []=>0
structure CSt where
 ks:List Nat
 n:Nat
def Fo (H:Hint):Code->CSt->kz×CSt
 | .region _ ops dr,s=>(.region (match dr with|true=>al4 (Tq [] ops.toList)|false=>al5) (ops.toList.map (am6 P H.tb H.md ops)) (bitsOf 1000 0 (hd s.ks)),⟨s.ks.tail,s.n⟩)
 | .seq a b,s=>match Fo H a s with
  |(x,s1)=>match Fo H b s1 with
   |(y,s2)=>(.seq x y,s2)
 | .cond c a b,s=>match Fo H a s with
  |(x,s1)=>match Fo H b s1 with
   |(y,s2)=>(.cond (gQ c) x y,s2)
 | .block id b,s=>match Fo H b s with
  |(x,s1)=>(.block id x,s1)
 | .loop b,s=>match Fo H b ⟨s.ks.tail,s.n+1⟩ with
  |(x,s1)=>(.loop ((bitsOf 1000 0 (hd s.ks)).map (Ts (Tt s.n H.arh))++Tt s.n H.more) x,s1)
 | .exit id,s=>(.exit id,s)
 | .ret,s=>(.ret,s)
 |_,s=>(.skip,s)
def arj:ResultVar->RV
 | .tmp t=> .tmp t
 | .cell t ty=> .cell t (NF P ty)
def ae9 (fn:Func) (H:Hint):aF:=
 ⟨fn.params.size+fn.nfree,match fn.body with
  |some c=>(Fo P H c ⟨H.gj,0⟩).1
  |none=> .skip,fn.results.toList.map (arj P)⟩
def ark (ow sh fp:List Nat) (f:FuncId):CM:=bif has ow f then .own else bif has sh f then .shr else bif has fp f then .fp else .V6
end
end Go.Vm
/- A law's row from what the logical machine answers: the result is al9, nothing that was there has turned. -/
namespace Go.Vm
open Go.ChangeShapes Go.WideShapes Go.ChangeAt Go.RowKit
section
variable {H : Type} {enc : TypeId × Value -> H} {P : Program}
theorem z7 (hl:laidOutB P=al9) {W W':World} (hb:Below W.heap.size W W'): ∀{ts:List TypeId} {vs:List Value} {ds:List (DataW H)} {ps:List MemPlace},(∀t∈ts,P.readableRec t=al9/\t<P.types.size)->
 DataW.TrodAll enc P W 0 (fun _=>al9) al9 ts vs ds ps->(∀x∈ps,x.block<W.heap.size)->DataW.TrodAll enc P W' 0 (fun b=>decide (b<W.heap.size)) al9 ts vs ds ps
 | [],vs,ds,ps,_,h,_=>by obtain ⟨rfl,rfl,rfl⟩:=trodAll_nil h;exact trodAll_mk0
 |t::ts,vs,ds,ps,ht,h,dV=>by obtain ⟨v,M5,d,yt,p,q,rfl,rfl,rfl,h1,h2⟩:=trodAll_cons h;obtain ⟨h3,h4⟩:=ht t (by simp);exact trodAll_cons_mk (Below.trod hl h3 h4 h1 hb fun x hx=>dV x (by simp [hx])) (z7 hl hb (fun t' Pr=>ht t' (by simp [Pr])) h2 fun x hx=>dV x (by simp [hx]))
theorem Tu (hl:laidOutB P=al9) {f:Func} {s:ChangeSpec} {W W':World} {args:Array Value} {ds:List (DataW H)} {before:List MemPlace} {bt:TypeId} (am7:s.vars=[]) (BG:f.resultTypes= #[bt]) (hbt:P.underlying bt=al4 .bool)
 (hp: ∀t∈f.params.toList,P.readableRec t=al9/\t<P.types.size) (hW:DataW.Whole enc P f.params.toList s.vars ala W args.toList ds [] before)
 (hfn:s.fn H (ds++[])={results:=[.lit (.bool al9)],args:=ds}) (hb:Below W.heap.size W W'):s.post enc P f ala al9 ala ala W args (.bool al9) W':=by
 have hW':=hW;obtain ⟨p,q,hA,hV,rfl,Sl,Hk⟩:=hW;have dV: ∀x∈p++q,x.block<W.heap.size:=fun x hx=>by simpa using hW'.lt x hx
 refine ⟨ds,[],p++q,[],p,[],hW',?_,?_,?_,hb.frame _,fun h=>by cases h⟩
 · rw [hfn,BG]
   exact trodAll_mk1 (shut_bool hbt al9)
 · rw [hfn]
   exact z7 hl hb hp hA fun x hx=>dV x (by simp [hx])
 rw [hfn,am7]
 rfl
end
def Fp (w:World):Im:=fun b=>w.heap[b]?
theorem Q5 {w:World} {b o:Nat} {v:Value} (h:w.cell? ⟨b,o,al5⟩=al4 v):oz (Fp w) b o=al4 v:=by unfold ak4 at h;unfold oz Fp;exact h
theorem Q6 {P:Program} {F:nv} {prims:FuncId->Bool} (hT:Ll P prims F) (Bz:zh P F) (qB:P.follows .mixedOrders=al9) {f:FuncId} {args:List PV} {s:cK} {z:List Nat} {n:Nat} {us:List Value} {w:World}
 (h:run F n (.func f args [] [])=al4 (.func (.bool al9) s z)) (x4:fx (Fp w) gz args us):Calls P f ⟨us⟩ w fun e w'=>e= .returned (.bool al9)/\Below w.heap.size w w':=by
 refine (QY hT Bz qB h (im:=Fp w) (fun b o h=>h) x4).mono fun e w' ⟨u,he,⟨eN,bz,pg,_⟩,h1,h2,h3,h4,h5⟩=>?_
 obtain rfl:=pg.jU;exact ⟨he,⟨h1,h2.eq,h3,h4,h5⟩⟩
end Go.Vm
/- Regions of one order, step by step, for contracts. -/
namespace Go.Vm
def C0:lA->Bool
 | .call .. | .xF .. =>al9
 |_=>ala
variable {F : nv}
def WS (F:nv) (ops:List bY) (st:St) (Q:St->Prop):Prop:= ∀tr,WO F ops st tr (fun s _=>Q s)
def Jz (st:St) (o:bY):Option St:=
 match wanted o.guard st.env with
 |some al9=>match bI st.env st.aD st.fz o.op with
  |some x=>if (XR.loc x).ok st.fz then al4 ((XR.loc x).next o.dst st) else al5
  |none=>al5
 |some ala=>al4 {st with env:=jb o.dst .jR st.env}
 |none=>al5
theorem JA {rec:Task->Option Out} {e:Env} {aD:cK} {fz:List Nat} {op:lA} (h:C0 op=ala):
 xH F rec e aD fz op=(bI e aD fz op).map .loc:=by
 cases op<;>first|rfl|cases h
theorem WS.nil {st:St} {Q:St->Prop} (h:Q st):WS F [] st Q:=fun _=>WO.nil h
theorem WS.cons {o:bY} {r:List bY} {st la:St} {Q:St->Prop} (h:C0 o.op=ala) (hs:Jz st o=al4 la) (k:WS F r la Q):WS F (o::r) st Q:=by
 intro tr;unfold Jz at hs;split at hs
 · rename_i hw
   split at hs
   · rename_i x hx
     split at hs
     · rename_i Ax
       injection hs with hs;subst hs;exact WO.op x hw (fun rec=>by rw [JA h,hx];rfl) Ax (k _)
     cases hs
   cases hs
 · rename_i hw
   injection hs with hs;subst hs;exact WO.skip hw (k _)
 cases hs
theorem WS.one {o:bY} {r:List bY} {st:St} {Q:St->Prop} (x:ov) (hc:C0 o.op=ala) (hw:wanted o.guard st.env=al4 al9) (hx:bI st.env st.aD st.fz o.op=al4 x) (Ax:(XR.loc x).ok st.fz=al9)
 (k:WS F r ((XR.loc x).next o.dst st) Q):WS F (o::r) st Q:=fun tr=>
 WO.op x hw (fun rec=>by rw [JA hc,hx];rfl) Ax (k _)
def Ex:List bY->St->Option St
 | [],st=>al4 st
 |o::r,st=>match C0 o.op with
  |true=>al5
  |false=>match Jz st o with
   |some la=>Ex r la
   |none=>al5
theorem WS.all: ∀{ops:List bY} {st la:St} {Q:St->Prop},Ex ops st=al4 la->Q la->WS F ops st Q
 | [],st,la,Q,h,hq=>by simp only [Ex,ut] at h;subst h;exact WS.nil hq
 |o::r,st,la,Q,h,hq=>by
  simp only [Ex] at h;cases hc:C0 o.op with
  |true=>rw [hc] at h;cases h
  |false=>
   rw [hc] at h;dsimp only at h;cases hs:Jz st o with
   |none=>rw [hs] at h;cases h
   |some s1=>rw [hs] at h;exact WS.cons hc hs (WS.all h hq)
theorem WS.pure {d:Option Nat} {g:Option (Nat×Bool)} {f:FuncId} {as:List fS} {r:List bY} {st:St} {Q:St->Prop}
 {args:List PV} {v:PV} (h:Pure F f args v) (hw:wanted g st.env=al4 al9) (ha:CF st.aD (x9 st.aD deep) (EH st.env as)=al4 args)
 (k:WS F r {st with env:=jb d v st.env} Q):WS F (⟨d,.call .V6 f as,g⟩::r) st Q:=fun tr=>by
 refine WO.pure h hw ha ?_;have:=k (XR.tr (al3 st.aD) (.loc {v,rd:=dL (dA st.aD deep) (EH st.env as)})::tr);simpa [XR.next,rR,gC] using this
theorem WS.shr {d:Option Nat} {g:Option (Nat×Bool)} {f:FuncId} {as:List fS} {r:List bY} {st:St} {Q:St->Prop}
 (hw:wanted g st.env=al4 al9) (h:Ay F f (EH st.env as) st.aD st.fz fun v s z=>(ady (al3 st.aD) (al3 s)&&st.fz.all (has z))=al9/\WS F r {st with env:=jb d v st.env,aD:=s,fz:=z} Q):
 WS F (⟨d,.call .shr f as,g⟩::r) st Q:=fun tr=>by
 obtain ⟨n,v,s,z,hr,hc,hk⟩:=h;refine WO.call (.shr v s z) hw ⟨n,?_⟩ rfl (hk _);simp only [xH,gm,hr];rw [ls hc]
end Go.Vm
/- Plain terms for what a function computes: loops, elements of lists, numbers; and the machine's loop over a plain one. -/
namespace Go.Vm
inductive Step (σ ρ:Type) where
 |next (s:σ)
 |done (r:ρ)
section
variable {σ ρ : Type}
def qF (body:σ->Option (Step σ ρ)):Nat->σ->Option ρ
 |0,_=>al5
 |n+1,x=>match body x with
  |some (.next y)=>qF body n y
  |some (.done r)=>al4 r
  |none=>al5
open Classical in
noncomputable def NG (body:σ->Option (Step σ ρ)) (x:σ):Option ρ:=
 if h: ∃n r,qF body n x=al4 r then qF body h.choose x else al5
theorem AM {body:σ->Option (Step σ ρ)}: ∀{n:Nat} {x:σ} {r:ρ},qF body n x=al4 r-> ∀k,qF body (n+k) x=al4 r
 |0,x,r,h,_=>by cases h
 |n+1,x,r,h,k=>by
  rw [show n+1+k=(n+k)+1 by omega];simp only [qF] at h ⊢;split at h
  · exact AM h k
  · exact h
  cases h
theorem Q7 {body:σ->Option (Step σ ρ)} {n m:Nat} {x:σ} {r s:ρ} (h:qF body n x=al4 r) (k:qF body m x=al4 s):r=s:=by have h1:=AM h m;have h2:=AM k n;rw [Nat.add_comm m n] at h2;rw [h1] at h2;exact aeE h2
theorem DO {body:σ->Option (Step σ ρ)} {x:σ} {r:ρ}:NG body x=al4 r↔ ∃n,qF body n x=al4 r:=by
 unfold NG;constructor
 · intro h
   split at h
   · exact ⟨_,h⟩
   cases h
 rintro ⟨n,hn⟩
 have hex: ∃n r,qF body n x=al4 r:=⟨n,r,hn⟩;rw [dif_pos hex];obtain ⟨s,hs⟩:=hex.choose_spec;rw [hs,Q7 hs hn]
end
noncomputable def Tv {σ ρ:Type} (b:Option Nat) (body:σ->Option (Step σ ρ)) (x:σ):Option ρ:=
 match b with
 |none=>NG body x
 |some N=>qF body N x
theorem Tw {σ ρ:Type} {b:Option Nat} {body:σ->Option (Step σ ρ)} {x:σ} {r:ρ} (h:Tv b body x=al4 r): ∃n,qF body n x=al4 r:=by
 cases b with
 |none=>exact DO.1 h
 |some N=>exact ⟨_,h⟩
class LP where
 w:Option Nat
abbrev LP.of (n:Nat):LP:=⟨al4 n⟩
noncomputable def ay [LP] {σ ρ:Type} (body:σ->Option (Step σ ρ)) (x:σ):Option ρ:=Tv LP.w body x
def az [LP]:Option Nat:=LP.w
theorem am9 {α β:Type} {x:Option α} {f:α->Option β} {r:β} (h:x.bind f=al4 r): ∃a,x=al4 a/\f a=al4 r:=by
 cases x with
 |none=>cases h
 |some a=>exact ⟨a,rfl,h⟩
def adZ {α ρ:Type} (x:Option α) (f:α->Option ρ):Option ρ:=x.bind f
def ad0 {ρ:Type} (c:Bool) (a b:Option ρ):Option ρ:=cond c a b
theorem NH {α ρ:Type} {x:Option α} {f:α->Option ρ} {y:ρ} (h:adZ x f=al4 y): ∃a,x=al4 a/\f a=al4 y:=am9 h
theorem NI {ρ:Type} {c:Bool} {a b:Option ρ} {y:ρ} (h:ad0 c a b=al4 y):(c=al9/\a=al4 y)\/(c=ala/\b=al4 y):=by
 cases c
 · exact .inr ⟨rfl,h⟩
 exact .inl ⟨rfl,h⟩
def aH {α:Type} (l:List α) (i:Int):Option α:=
 match i with
 | .ofNat n=>l[n]?
 | .negSucc _=>al5
def cd {α:Type} (l:List α) (i:Int) (a:α):List α:=l.set i.toNat a
theorem nU {α:Type} {l:List α} {i:Int} {a:α} (h:aH l i=al4 a): ∃n:Nat,i=agd n/\l[n]? =al4 a:=by
 unfold aH at h;split at h
 · exact ⟨_,rfl,h⟩
 cases h
@[simp] theorem vV {α:Type} (l:List α) (i:Int) (a:α):(cd l i a).length=(al3 l):=by simp [cd]
def bJ {α:Type} (l:List α) (m:List α):Option (List α):=if (al3 l)+al3 m<=1048576 then al4 (l++m) else al5
def xM {α:Type} (n:Int) (z:α):Option (List α):=if 0<=n/\n<=1048576 then al4 (adL n.toNat z) else al5
def gn {α:Type} (l:List α) (lo hi:Int):Option (List α):=if 0<=lo/\lo<=hi/\hi<=(al3 l) then al4 ((l.drop lo.toNat).take (hi.toNat-lo.toNat)) else al5
def bV {α:Type} (l:List α):Option (List α):=if (al3 l)<=1048576 then al4 l else al5
def Q8 {α:Type} (l m:List α):Option (List α):=if 1<=al3 l+al3 m/\al3 l+al3 m<=1048576 then al4 (l++m) else al5
def zn {α:Type} (l:List α) (i:Int) (m:List α):Option (List α):=if 0<=i/\i.toNat<=al3 l/\al3 m=1/\al3 l+1<=1048576 then al4 (l.take i.toNat++m++l.drop i.toNat) else al5
def DP {α:Type} (f:List α->Option (List α)) (l:List α):Option (List α):=
 if (al3 l)<=1048576 then (match f l with
 |some m=>if (al3 m)=(al3 l) then al4 m else al5
 |none=>al5) else al5
def zo {α:Type} (f:List α->Option (List α)) (n:Nat) (l:List α):Option (List α):=if n<=(al3 l) then (DP f (l.take n)).map (· ++l.drop n) else al5
def NJ (a:Int):List Int->List Int
 | []=>[a]
 |b::r=>bif alt (a<=b) then a::b::r else b::NJ a r
def lS:List Int->List Int
 | []=>[]
 |a::r=>NJ a (lS r)
def JB (l:List Int):Option (List Int):=al4 (lS l)
def AN (k:IntKind) (a b:Int):Int:=k.wrap (BitVec.ofInt k.bits a&&&BitVec.ofInt k.bits b).toNat
def bOr (k:IntKind) (a b:Int):Int:=k.wrap (BitVec.ofInt k.bits a|||BitVec.ofInt k.bits b).toNat
def arl (k:IntKind) (a b:Int):Int:=k.wrap (BitVec.ofInt k.bits a^^^BitVec.ofInt k.bits b).toNat
def WR (k:IntKind) (a b:Int):Int:=k.wrap (BitVec.ofInt k.bits a&&& ~~~ BitVec.ofInt k.bits b).toNat
def arn (k:IntKind) (a b:Int):Int:=k.wrap (a*2^(min b.toNat k.bits))
def gL (k:IntKind) (a b:Int):Int:=a.fdiv (2^(min b.toNat k.bits))
def rJ (s:ByteArray) (i:Int):Option Int:=
 match i with
 | .ofNat n=>s[n]?.map fun b=>(b.toNat:Int)
 | .negSucc _=>al5
def Eg (l:List (List Int)) (k:List Int):Bool:=l.any fun m=>k==m
def NK (l:List (List Int)) (k:List Int):List (List Int):=bif Eg l k then l else l++[k]
def oH (a:List Int) (l:List (List Int)):Bool:=l.all fun b=>v6 (al3 b) (al3 a)
def Lr (l:List (List Int)) (k:List Int):Option Bool:=bif oH k l then al4 (Eg l k) else al5
def Ls (l:List (List Int)) (k:List Int):Option (List (List Int)):=bif oH k l then al4 (NK l k) else al5
def qG {α:Type} (z:α):List (Int×α)->Int->α
 | [],_=>z
 |p::r,k=>bif k==p.1 then p.2 else qG z r k
def pq {α:Type}:List (Int×α)->Int->α->List (Int×α)
 | [],k,a=>[(k,a)]
 |p::r,k,a=>bif k==p.1 then (k,a)::r else p::pq r k a
section
variable {F : nv}
end
end Go.Vm
/- A logical machine over typed values: it turns a function's code into a plain term. What it computes is tied to the logical machine in SvRun. -/
namespace Go.Vm
inductive PT where
 |i (k:IntKind)
 |b
@[reducible] def PT.T : PT -> Type
  | .i _ => Int
  | .b => Bool
@[reducible] def RT : List PT -> Type
  | [] => Unit
  | [p] => p.T
  | p :: q :: r => p.T × RT (q :: r)
inductive SV where
 |jk
 |undef
 |jR
 |eg
 |int (k:IntKind) (n:Int)
 |bool (b:Bool)
 |str (s:ByteArray)
 |agg (cs:List SV)
 |cj (cs:List SV)
 |sl (r:List PT) (l:List (RT r))
 |nil (e:Nat) (c:Bool)
 |own (t:Nat) (ex:Bool)
 |pre (t len cap:Nat) (ex:Bool)
 |part (t off len cap:Nat) (ex:Bool)
 |pa (t:Nat) (r:List PT) (i:Int) (a:RT r) (off:Nat)
 |pb (t:Nat) (i:Int) (off:Nat)
 |bp (t n off:Nat)
 |bO (cs:List SV) (off:Nat)
 |eO (f:FuncId) (a b:List SV)
 |mp (t:Nat)
inductive SB where
 |arr (r:List PT) (l:List (RT r))
 |box (cs:List SV)
 |set (l:List (List Int))
 |bA (p:PT) (l:List (RT [.i .i64,p]))
 |dead
abbrev SE:=List (Nat×SV)
structure qH where
 env:SE
 aD:List SB
 fz:List Nat
 kn:Nat
structure Rows where
 r:List PT
 l:List (RT r)
def PT.same:PT->PT->Bool
 | .i k,.i l=>fO k l
 | .b,.b=>al9
 |_,_=>ala
def BI:List PT->List PT->Bool
 | [],[]=>al9
 |p::r,q::s=>p.same q&&BI r s
 |_,_=>ala
theorem PT.Pw: ∀{p q:PT},p.same q=al9->p=q
 | .i k,.i l,h=>by rw [fE.1 h]
 | .b,.b,_=>rfl
 | .i _,.b,h=>by cases h
 | .b,.i _,h=>by cases h
theorem vW: ∀{r s:List PT},BI r s=al9->r=s
 | [],[],_=>rfl
 |p::r,q::s,h=>by simp only [BI,pp] at h;rw [PT.Pw h.1,vW h.2]
 | [],_::_,h=>by cases h
 |_::_,[],h=>by cases h
def sU (r q:List PT) (l:List (RT r)):Option (List (RT q)):=if h:BI r q=al9 then al4 (vW h▸l) else al5
def PT.pv:(p:PT)->p.T->PV
 | .i k,n=> .int k n
 | .b,x=> .bool x
def RT.pv:(r:List PT)->RT r->List PV
 | [],_=>[]
 | [p],a=>[p.pv a]
 |p::q::r,a=>p.pv a.1::RT.pv (q::r) a.2
def PT.sv:(p:PT)->p.T->SV
 | .i k,n=> .int k n
 | .b,x=> .bool x
def RT.sv:(r:List PT)->RT r->List SV
 | [],_=>[]
 | [p],a=>[p.sv a]
 |p::q::r,a=>p.sv a.1::RT.sv (q::r) a.2
def PT.of:(p:PT)->SV->Option p.T
 | .i k,.int l n=>bif fO l k then al4 n else al5
 | .b,.bool x=>al4 x
 |_,_=>al5
def RT.of:(r:List PT)->List SV->Option (RT r)
 | [],[]=>al4 ()
 | [p],[v]=>p.of v
 |p::q::r,v::vs=>match p.of v,RT.of (q::r) vs with
  |some a,al4 b=>al4 (a,b)
  |_,_=>al5
 |_,_=>al5
def PT.zero:(p:PT)->p.T
 | .i _=>(0:Int)
 | .b=>ala
def RT.zero:(r:List PT)->RT r
 | []=>()
 | [p]=>p.zero
 |p::q::r=>(p.zero,RT.zero (q::r))
def gl:PV->Option PT
 | .int k n=>match n with
  | .ofNat 0=>al4 (.i k)
  |_=>al5
 | .bool b=>match b with
  |false=>al4 .b
  |true=>al5
 |_=>al5
def Fq:List PV->Option (List PT)
 | []=>al4 []
 |v::vs=>match gl v,Fq vs with
  |some p,al4 r=>al4 (p::r)
  |_,_=>al5
def nth {α:Type}:List α->Nat->Option α
 | [],_=>al5
 |x::_,0=>al4 x
 |_::r,n+1=>nth r n
theorem cC {α:Type}: ∀(l:List α) (n:Nat),nth l n=l[n]?
 | [],n=>by simp [nth]
 |x::r,0=>by simp [nth]
 |x::r,n+1=>by simp [nth,cC r n]
def Hm (t:Nat):SE->SV
 | []=> .undef
 |(s,v)::r=>bif v6 s t then v else Hm t r
def AO (t:Nat) (v:SV):SE->SE
 | []=>[]
 |(s,x)::r=>bif v6 s t then (s,v)::r else (s,x)::AO t v r
mutual
def WT:PV->SV
 | .undef=> .undef
 | .jR=> .jR
 | .eg=> .eg
 | .int k n=> .int k n
 | .bool b=> .bool b
 | .str s=> .str s
 | .agg cs=> .agg (BJ cs)
 | .cj cs=> .cj (BJ cs)
 | .sl e c rows=>match rows with
  | []=> .nil e c
  |_=> .jk
 | .eO f a b=> .eO f (BJ a) (BJ b)
 |_=> .jk
def BJ:List PV->List SV
 | []=>[]
 |x::xs=>WT x::BJ xs
end
def cf (e:SE):fS->SV
 | .t n=>Hm n e
 | .c v=>WT v
def jW (e:SE):List fS->List SV
 | []=>[]
 |x::xs=>cf e x::jW e xs
def SV.qu:SV->Bool
 | .jk| .undef| .jR| .agg _| .cj _=>ala
 |_=>al9
def yu:List SV->Bool
 | []=>al9
 |x::xs=>x.qu&&yu xs
def SV.cells:SV->List SV
 | .agg cs=>cs
 |v=>[v]
def SV.stored (v:SV):Option (List SV):=bif yu v.cells then al4 v.cells else al5
def z8 (agg:Option Nat) (off:Nat) (cs:List SV):Option SV:=
 match agg with
 |some s=>bif ady (off+s) (al3 cs) then al4 (.agg ((cs.drop off).take s)) else al5
 |none=>nth cs off
def pZ (off:Nat) (new old:List SV):List SV:=old.take off++new++old.drop (off+al3 new)
def Aa (s:List SB):SV->Option Rows
 | .sl r l=>al4 ⟨r,l⟩
 | .own t _=>match nth s t with
  |some (.arr r l)=>al4 ⟨r,l⟩
  |_=>al5
 | .pre t len _ _=>match nth s t with
  |some (.arr r l)=>al4 ⟨r,l.take len⟩
  |_=>al5
 | .part t off len _ _=>match nth s t with
  |some (.arr r l)=>al4 ⟨r,(l.drop off).take len⟩
  |_=>al5
 |_=>al5
def wO:SV->List Nat
 | .own t _=>[t]
 | .pre t _ _ _=>[t]
 | .part t _ _ _ _=>[t]
 |_=>[]
structure gp where
 v:SV
 news:List SB:=[]
 wr:List (Nat×SB):=[]
 rd:List Nat:=[]
 fr:List Nat:=[]
def gM (R:Type):= ∀ρ:Type,(R->ρ)->Option ρ
section
variable {R : Type}
def Ib (b:R):gM R:=fun _ w=>al4 (w b)
def aM:gM R:=fun _ _=>al5
def lG {α:Type} (x:Option α) (f:α->gM R):gM R:=fun ρ w=>adZ x fun a=>f a ρ w
def gR (c:Bool) (a b:gM R):gM R:=fun ρ w=>ad0 c (a ρ w) (b ρ w)
def WU (v:SV) (k:SV->gM R):gM R:=
 match v with
 | .jk=>k .jk
 | .undef=>k .undef
 | .jR=>k .jR
 | .eg=>k .eg
 | .int a b=>k (.int a b)
 | .bool a=>k (.bool a)
 | .str a=>k (.str a)
 | .agg a=>k (.agg a)
 | .cj a=>k (.cj a)
 | .sl a b=>k (.sl a b)
 | .nil a b=>k (.nil a b)
 | .own a b=>k (.own a b)
 | .pre a b c d=>k (.pre a b c d)
 | .part a b c d x=>k (.part a b c d x)
 | .pa a b c d e=>k (.pa a b c d e)
 | .pb a b c=>k (.pb a b c)
 | .bp a b c=>k (.bp a b c)
 | .bO a b=>k (.bO a b)
 | .eO a b c=>k (.eO a b c)
 | .mp a=>k (.mp a)
theorem JC (v:SV) (k:SV->gM R):WU v k=k v:=by cases v<;>rfl
def NL (op:BinOp) (k:IntKind) (a b:Int) (c:SV->gM R):gM R:=
 match op with
 | .add=>c (.int k (aa k (a+b)))
 | .sub=>c (.int k (aa k (a-b)))
 | .mul=>c (.int k (aa k (a*b)))
 | .quo=>gR (b==0) aM (c (.int k (aa k (Int.tdiv a b))))
 | .rem=>gR (b==0) aM (c (.int k (Int.tmod a b)))
 | .and=>c (.int k (AN k a b))
 | .or=>c (.int k (bOr k a b))
 | .xor=>c (.int k (arl k a b))
 | .andNot=>c (.int k (WR k a b))
 | .eql=>c (.bool (a==b))
 | .neq=>c (.bool (a !=b))
 | .lss=>c (.bool (alt (a<b)))
 | .leq=>c (.bool (alt (a<=b)))
 | .gtr=>c (.bool (alt (b<a)))
 | .geq=>c (.bool (alt (b<=a)))
 | .shl| .shr=>aM
def eqS:List SV->List SV->Option Bool
 | [],[]=>al4 al9
 |x::xs,y::ys=>match x,y with
  | .int k a,.int l b=>bif fO k l then (match xs with
   | []=>(match ys with| []=>al4 (a==b)|_=>al5)
   |_::_=>match eqS xs ys with
    |some r=>al4 (a==b&&r)
    |none=>al5) else al5
  |_,_=>al5
 |_,_=>al5
def wP:List (Nat×Nat×SV)->List SV->Option (List SV)
 | [],cs=>al4 cs
 |(off,sz,v)::r,cs=>match v.stored with
  |some w=>bif v6 (al3 w) sz&&ady (off+sz) (al3 cs) then wP r (pZ off w cs) else al5
  |none=>al5
def yv (e:SE):List (Nat×Nat×fS)->List (Nat×Nat×SV)
 | []=>[]
 |p::r=>(p.1,p.2.1,cf e p.2.2)::yv e r
def Px (r:List PT) (e:SE) (n:Nat):List (Nat×fS)->Option (List (Nat×RT r))
 | []=>al4 []
 |p::ps=>match RT.of r (cf e p.2).cells,Px r e n ps with
  |some a,al4 l=>bif adQ p.1 n then al4 ((p.1,a)::l) else al5
  |_,_=>al5
def rowAt {α:Type} (i:Nat):α->List (Nat×α)->α
 |z,[]=>z
 |z,(j,a)::r=>rowAt i (bif v6 j i then a else z) r
def JD {α:Type} (f:Nat->α):Nat->Nat->List α
 |_,0=>[]
 |i,n+1=>f i::JD f (i+1) n
def C1 (e:SE) (d:Int):Option fS->Option Int
 |none=>al4 d
 |some x=>match cf e x with
  | .int _ n=>al4 n
  |_=>al5
def mmS (isMax:Bool) (k:IntKind):Int->List SV->Option SV
 |a,[]=>al4 (.int k a)
 |a,x::r=>match x with
  | .int l b=>bif fO k l then mmS isMax k (bif isMax then (if b>a then b else a) else (if b<a then b else a)) r else al5
  |_=>al5
def Py:List SV->Option (List Int)
 | []=>al4 []
 |x::xs=>match x,Py xs with
  | .int .i64 n,al4 l=>al4 (n::l)
  |_,_=>al5
def WV (n:Option Nat) (v:SV):Option (List Int):=
 match n,v with
 |none,.int .i64 a=>al4 [a]
 |some n,.agg cs=>bif v6 (al3 cs) n&&!Nat.beq n 1 then Py cs else al5
 |_,_=>al5
def Lt (n:Nat) (i:Int) (j:Nat) (f:Nat->gM R):gM R:=
 match n with
 |0=>aM
 |n+1=>gR (i==agd j) (f j) (Lt n i (j+1) f)
def lT {α:Type} (x:Option α) (k:α->gM R):gM R:=
 match x with
 |some a=>k a
 |none=>aM
def ofV (k:gp->gM R) (v:SV):gM R:=k {v}
def ad1 (s:List SB) (esz:Nat) (x:SV) (i:Int) (k:gp->gM R):gM R:=
 match x with
 | .sl r l=>bif v6 (al3 r) esz then lG (aH l i) fun a=>k {v:= .bO (RT.sv r a) 0} else aM
 | .own t _=>match nth s t with
  |some (.arr r l)=>bif v6 (al3 r) esz then lG (aH l i) fun a=>k {v:= .pa t r i a 0} else aM
  |_=>aM
 | .pre t len _ _=>match nth s t with
  |some (.arr r l)=>bif v6 (al3 r) esz then lG (aH (l.take len) i) fun a=>k {v:= .pa t r i a 0} else aM
  |_=>aM
 | .part t off len _ _=>match nth s t with
  |some (.arr r l)=>bif v6 (al3 r) esz then lG (aH ((l.drop off).take len) i) fun a=>k {v:= .pa t r (.ofNat (off+i.toNat)) a 0} else aM
  |_=>aM
 |_=>aM
def ad2 (s:List SB) (agg:Option Nat) (p:SV) (k:gp->gM R):gM R:=
 match p with
 | .bp t _ off=>match nth s t with
  |some (.box cs)=>lT (z8 agg off cs) fun v=>k {v,rd:=[t]}
  |_=>aM
 | .pa t r _ a off=>match nth s t with
  |some (.arr _ _)=>lT (z8 agg off (RT.sv r a)) fun v=>k {v,rd:=[t]}
  |_=>aM
 | .pb t i off=>match nth s t with
  |some (.arr r l)=>lG (aH l i) fun a=>lT (z8 agg off (RT.sv r a)) fun v=>k {v,rd:=[t]}
  |_=>aM
 | .bO cs off=>lT (z8 agg off cs) fun v=>k {v}
 |_=>aM
def Tx (s:List SB) (z:List Nat) (sz:Nat) (p v:SV) (k:gp->gM R):gM R:=
 match p with
 | .bp t _ off=>match nth s t with
  |some (.box cs)=>lT v.stored fun w=>bif v6 (al3 w) sz&&ady (off+sz) (al3 cs)&&!has z t then k {v:= .undef,wr:=[(t,.box (pZ off w cs))]} else aM
  |_=>aM
 | .pa t r i a off=>match nth s t with
  |some (.arr q l)=>bif v6 (al3 v.cells) sz&&ady (off+sz) (al3 r)&&!has z t then
   lT (RT.of q (pZ off v.cells (RT.sv r a))) fun b=>k {v:= .undef,wr:=[(t,.arr q (cd l i b))]} else aM
  |_=>aM
 | .pb t i off=>match nth s t with
  |some (.arr q l)=>bif v6 (al3 v.cells) sz&&ady (off+sz) (al3 q)&&!has z t then
   (bif v6 sz (al3 q) then lT (RT.of q v.cells) fun b=>k {v:= .undef,wr:=[(t,.arr q (cd l i b))]}
   else lG (aH l i) fun a=>lT (RT.of q (pZ off v.cells (RT.sv q a))) fun b=>k {v:= .undef,wr:=[(t,.arr q (cd l i b))]}) else aM
  |_=>aM
 |_=>aM
def NM (e:SE) (t off len cap:Nat) (ex:Bool) (lo hi mx:Option fS) (k:gp->gM R):gM R:=
 lT (C1 e 0 lo) fun a=>lT (C1 e (.ofNat len) hi) fun b=>match mx with
  |none=>gR (alt (0<=a)&&alt (a<=b)&&alt (b<= .ofNat cap)) (k {v:= .part t (off+a.toNat) (b.toNat-a.toNat) (cap-a.toNat) ex}) aM
  |some m=>match cf e m with
   | .int _ c=>gR (alt (0<=a)&&alt (a<=b)&&alt (b<=c)&&alt (c<= .ofNat cap)) (k {v:= .part t (off+a.toNat) (b.toNat-a.toNat) (c.toNat-a.toNat) al9}) aM
   |_=>aM
def am' (e:SE) (s:List SB) (esz:Nat) (x:SV) (lo hi mx:Option fS) (k:gp->gM R):gM R:=
 match x with
 | .sl r l=>match mx with
  |none=>bif v6 (al3 r) esz then lT (C1 e 0 lo) fun a=>lT (C1 e (agd (al3 l)) hi) fun b=>lG (gn l a b) fun m=>k {v:= .sl r m} else aM
  |some _=>aM
 | .own t ex=>match nth s t with
  |some (.arr r l)=>bif v6 (al3 r) esz then (match lo,hi,mx with
   |none,al5,al5=>k {v:= .own t ex}
   |none,al4 h,al5=>match cf e h with
    | .int _ b=>lG (gn l 0 b) fun _=>k {v:= .pre t b.toNat (al3 l) ex}
    |_=>aM
   |lo,hi,mx=>NM e t 0 (al3 l) (al3 l) ex lo hi mx k) else aM
  |_=>aM
 | .pre t len cap ex=>match nth s t with
  |some (.arr r _)=>bif v6 (al3 r) esz then (match lo,hi,mx with
   |none,al5,al5=>gR (ady len cap) (k {v:= .pre t len cap ex}) aM
   |none,al4 h,al5=>match cf e h with
    | .int _ b=>gR (alt (0<=b)&&alt (b<= .ofNat cap)) (k {v:= .pre t b.toNat cap ex}) aM
    |_=>aM
   |lo,hi,mx=>NM e t 0 len cap ex lo hi mx k) else aM
  |_=>aM
 | .part t off len cap ex=>match nth s t with
  |some (.arr r _)=>bif v6 (al3 r) esz then NM e t off len cap ex lo hi mx k else aM
  |_=>aM
 |_=>aM
def fA {α:Type} (l:List α) (n:Nat) (m:List α):List α:=l.take n++m++l.drop (n+al3 m)
def SV.afa:SV->Bool
 | .part .. =>al9
 |_=>ala
def Pz (s:List SB) (z:List Nat) (esz:Nat) (x y:SV) (k:gp->gM R):gM R:=
 match Aa s y with
 |none=>aM
 |some ⟨q,m⟩=>bif v6 (al3 q) esz then (match x with
  | .nil _ c=>bif c then lG (bV m) fun m'=>k {v:= .own (al3 s) ala,news:=[.arr q m'],rd:=wO y} else aM
  | .own t ex=>match nth s t with
   |some (.arr r l)=>match sU q r m with
    |none=>aM
    |some m=>match ex with
     |true=>gR l.isEmpty (lG (bV m) fun m'=>k {v:= .own (al3 s) ala,news:=[.arr r m'],rd:=t::wO y})
      (gR m.isEmpty (k {v:= .own t al9,rd:=wO y}) (lG (bJ l m) fun l'=>k {v:= .own (al3 s) ala,news:=[.arr r l'],rd:=t::wO y}))
     |false=>gR m.isEmpty (k {v:= .own t ala,rd:=wO y})
      (bif has z t then aM else lG (bJ l m) fun l'=>k {v:= .own (al3 s) ala,news:=[.arr r l'],wr:=[(t,.dead)],rd:=wO y})
   |_=>aM
  | .pre t len cap ex=>match nth s t with
   |some (.arr r l)=>match sU q r m with
    |none=>aM
    |some m=>bif ex then aM else gR m.isEmpty (k {v:= .pre t len cap ala,rd:=wO y})
     (gR (ady (len+al3 m) cap) (gR (ady (len+al3 m) (al3 l)&&!has z t) (k {v:= .pre t (len+al3 m) cap ala,wr:=[(t,.arr r (fA l len m))],rd:=wO y}) aM)
      (bif has z t||y.afa then aM else lG (bJ (l.take len) m) fun l'=>gR (ady len (al3 l)) (k {v:= .own (al3 s) ala,news:=[.arr r l'],wr:=[(t,.dead)],rd:=wO y}) aM))
   |_=>aM
  |_=>aM) else aM
def Ty (s:List SB) (z:List Nat) (esz:Nat) (zero:Row) (x:SV) (k:gp->gM R):gM R:=
 match x with
 | .part t off len _ _=>match nth s t with
  |some (.arr r l)=>match Fq zero with
   |some q=>bif BI q r&&v6 (al3 r) esz then gR (v6 len 0) (k {v:= .undef})
    (gR (ady (off+len) (al3 l)&&!has z t) (k {v:= .undef,wr:=[(t,.arr r (fA l off (adL len (RT.zero r))))]}) aM) else aM
   |none=>aM
  |_=>aM
 |_=>aM
def PA (n:Option Nat) (zero:PV) (ok:Bool) (t:Nat) (l:List (List Int)) (q:SV) (k:gp->gM R):gM R:=
 match zero,ok with
 | .bool ala,ala=>lT (WV n q) fun a=>lG (Lr l a) fun b=>k {v:= .bool b,rd:=[t]}
 |_,_=>aM
def Tz (n:Option Nat) (t:Nat) (l:List (List Int)) (q x:SV) (k:gp->gM R):gM R:=
 match x with
 | .bool al9=>lT (WV n q) fun a=>lG (Ls l a) fun m=>k {v:= .undef,wr:=[(t,.set m)]}
 |_=>aM
def PT.get:(p:PT)->p.T->List (RT [.i .i64,p])->Int->p.T
 | .i _,z,l,k=>qG (α:=Int) z l k
 | .b,z,l,k=>qG (α:=Bool) z l k
def PT.put:(p:PT)->List (RT [.i .i64,p])->Int->p.T->List (RT [.i .i64,p])
 | .i _,l,k,a=>pq (α:=Int) l k a
 | .b,l,k,a=>pq (α:=Bool) l k a
def PB (n:Option Nat) (zero:PV) (ok:Bool) (t:Nat) (p:PT) (l:List (RT [.i .i64,p])) (q:SV) (k:gp->gM R):gM R:=
 match n with
 |none=>match ok with
  |false=>match q with
   | .int .i64 a=>lT (p.of (WT zero)) fun z=>k {v:=p.sv (p.get z l a),rd:=[t]}
   |_=>aM
  |true=>aM
 |some _=>aM
def TA (n:Option Nat) (t:Nat) (p:PT) (l:List (RT [.i .i64,p])) (q x:SV) (k:gp->gM R):gM R:=
 match n with
 |none=>match q with
  | .int .i64 a=>lT (p.of x) fun v=>k {v:= .undef,wr:=[(t,.bA p (p.put l a v))]}
  |_=>aM
 |some _=>aM
def Fs (s:List SB) (z:List Nat) (t:Nat) (r:List PT) (l:List (RT r)) (off len:Nat) (y:SV) (k:gp->gM R):gM R:=
 match Aa s y with
 |none=>aM
 |some ⟨q,m⟩=>match sU q r m with
  |none=>aM
  |some m=>gR (m.take len).isEmpty (k {v:= .int .i64 0,rd:=wO y})
   (gR (ady (off+(m.take len).length) (al3 l)&&!has z t) (k {v:= .int .i64 (.ofNat (m.take len).length),wr:=[(t,.arr r (fA l off (m.take len)))],rd:=wO y}) aM)
def ad3 (s:List SB) (z:List Nat) (esz:Nat) (x y:SV) (k:gp->gM R):gM R:=
 match x with
 | .own t _=>match nth s t with
  |some (.arr r l)=>bif v6 (al3 r) esz then Fs s z t r l 0 (al3 l) y k else aM
  |_=>aM
 | .pre t len _ _=>match nth s t with
  |some (.arr r l)=>bif v6 (al3 r) esz then Fs s z t r l 0 len y k else aM
  |_=>aM
 | .part t off len _ _=>match nth s t with
  |some (.arr r l)=>bif v6 (al3 r) esz then Fs s z t r l off len y k else aM
  |_=>aM
 |_=>aM
def mQ (e:SE) (s:List SB) (z:List Nat) (op:lA) (k:gp->gM R):gM R:=
 match op with
 | .Sj x=>k {v:=cf e x}
 | .pick c a b=>match cf e c with
  | .bool c=>gR c (k {v:=cf e a}) (k {v:=cf e b})
  |_=>aM
 | .bin op x y=>match cf e x with
  | .int ka a=>match cf e y with
   | .int kb b=>match op with
    | .shl=>gR (alt (b<0)) aM (k {v:= .int ka (arn ka a b)})
    | .shr=>gR (alt (b<0)) aM (k {v:= .int ka (gL ka a b)})
    |op=>bif fO ka kb then NL op ka a b (ofV k) else aM
   |_=>aM
  |_=>aM
 | .KE neg x y=>match cf e x with
  | .bool a=>match cf e y with
   | .bool b=>k {v:= .bool (bif neg then !(a==b) else a==b)}
   |_=>aM
  |_=>aM
 | .eqc n neg x y=>match cf e x with
  | .agg xs=>match cf e y with
   | .agg ys=>bif v6 (al3 xs) n&&v6 (al3 ys) n then lT (eqS xs ys) fun b=>k {v:= .bool (bif neg then !b else b)} else aM
   |_=>aM
  |_=>aM
 | .un op x=>match op with
  | .neg=>match cf e x with
   | .int a n=>k {v:= .int a (aa a (0-n))}
   |_=>aM
  | .not=>match cf e x with
   | .bool b=>k {v:= .bool !b}
   |_=>aM
  |_=>aM
 | .conv a x=>match cf e x with
  | .int _ n=>k {v:= .int a (aa a n)}
  |_=>aM
 | .len x=>match cf e x with
  | .nil _ _=>k {v:= .int .i64 0}
  | .pre _ len _ _=>k {v:= .int .i64 (.ofNat len)}
  | .part _ _ len _ _=>k {v:= .int .i64 (.ofNat len)}
  |v=>lT (Aa s v) fun c=>k {v:= .int .i64 (.ofNat (al3 c.l))}
 | .Na n=>k {v:= .int .i64 (.ofNat n)}
 | .box x=>lT (cf e x).stored fun cs=>k {v:= .bp (al3 s) (al3 cs) 0,news:=[.box cs]}
 | .alloc cells=>k {v:= .bp (al3 s) (al3 cells) 0,news:=[.box (BJ cells)]}
 | .build zero parts=>lT (wP (yv e parts) (BJ zero)) fun cs=>k {v:= .agg cs}
 | .Bn esz n zero parts=>lT (Fq zero) fun r=>bif v6 (al3 r) esz then lT (Px r e n parts) fun ps=>
  k {v:= .own (al3 s) al9,news:=[.arr r (JD (fun i=>rowAt i (RT.zero r) ps) 0 n)]} else aM
 | .DD x y=>match cf e x with
  | .sl r l=>match cf e y with
   | .sl q m=>k {v:= .part (al3 s) 0 2 2 al9,news:=[.box [.sl r l,.sl q m]]}
   |_=>aM
  |_=>aM
 | .load agg p=>ad2 s agg (cf e p) k
 | .store sz p v=>Tx s z sz (cf e p) (cf e v) k
 | .KF x=>match cf e x with
  | .pa t r i a o=>k {v:= .pa t r i a o}
  | .pb t i o=>k {v:= .pb t i o}
  | .bp t n o=>k {v:= .bp t n o}
  | .bO c o=>k {v:= .bO c o}
  | .eO f a b=>k {v:= .eO f a b}
  |_=>aM
 | .KG off p=>match cf e p with
  | .pa t r i a o=>k {v:= .pa t r i a (o+off)}
  | .pb t i o=>k {v:= .pb t i (o+off)}
  | .bp t n o=>k {v:= .bp t n (o+off)}
  | .bO c o=>k {v:= .bO c (o+off)}
  |_=>aM
 | .ju agg off x=>match cf e x with
  | .agg cs=>lT (z8 agg off cs) (ofV k)
  |_=>aM
 | .KH esz x i=>match cf e i with
  | .int _ n=>ad1 s esz (cf e x) n k
  |_=>aM
 | .DE n esz p i=>match cf e i with
  | .int _ j=>match cf e p with
   | .bp t m o=>Lt n j 0 fun j=>k {v:= .bp t m (o+j*esz)}
   | .bO c o=>Lt n j 0 fun j=>k {v:= .bO c (o+j*esz)}
   |_=>aM
  |_=>aM
 | .idx n esz agg x i=>match cf e i with
  | .int _ j=>match cf e x with
   | .agg cs=>Lt n j 0 fun j=>lT (z8 agg (j*esz) cs) (ofV k)
   |_=>aM
  |_=>aM
 | .KI x i=>match cf e i with
  | .int _ j=>match cf e x with
   | .str t=>lG (rJ t j) fun b=>k {v:= .int .u8 b}
   |_=>aM
  |_=>aM
 | .Qz esz x lo hi mx=>am' e s esz (cf e x) lo hi mx k
 | .clear esz zero x=>Ty s z esz zero (cf e x) k
 | .copy esz x y=>ad3 s z esz (cf e x) (cf e y) k
 | .mks esz zero l c=>match cf e l with
  | .int _ n=>match cf e c with
   | .int _ m=>gR (n==m) (lT (Fq zero) fun r=>bif v6 (al3 r) esz then lG (xM n (RT.zero r)) fun x=>k {v:= .own (al3 s) al9,news:=[.arr r x]} else aM) aM
   |_=>aM
  |_=>aM
 | .mkf fn a b=>k {v:= .eO fn (jW e a) (jW e b)}
 | .mkm z=>match z with
  |none=>k {v:= .mp (al3 s),news:=[.set []]}
  |some z=>lT (gl z) fun p=>k {v:= .mp (al3 s),news:=[.bA p []]}
 | .lookup n zero ok m q=>match cf e m with
  | .mp t=>match nth s t with
   |some (.set l)=>PA n zero ok t l (cf e q) k
   |some (.bA p l)=>PB n zero ok t p l (cf e q) k
   |_=>aM
  |_=>aM
 | .I4 n m q x=>match cf e m with
  | .mp t=>match nth s t with
   |some (.set l)=>bif has z t then aM else Tz n t l (cf e q) (cf e x) k
   |some (.bA p l)=>bif has z t then aM else TA n t p l (cf e q) (cf e x) k
   |_=>aM
  |_=>aM
 | .ext i x=>match cf e x with
  | .cj vs=>lT (nth vs i) (ofV k)
  |_=>aM
 | .append esz x y=>Pz s z esz (cf e x) (cf e y) k
 | .mm isMax x xs=>match cf e x with
  | .int a n=>lT (mmS isMax a n (jW e xs)) (ofV k)
  |_=>aM
 |_=>aM
end
mutual
def Ic (s:List SB) (bx:Nat->Option (List SV)):SV->Option SV
 | .int k n=>al4 (.int k n)
 | .bool b=>al4 (.bool b)
 | .str x=>al4 (.str x)
 | .eg=>al4 .eg
 | .agg cs=>match sV s bx cs with|some l=>al4 (.agg l)|none=>al5
 | .cj cs=>match sV s bx cs with|some l=>al4 (.cj l)|none=>al5
 | .sl r l=>al4 (.sl r l)
 | .nil e _=>al4 (.nil e ala)
 | .own t _=>match nth s t with
  |some (.arr r l)=>al4 (.sl r l)
  |_=>al5
 | .pre t len _ _=>match nth s t with
  |some (.arr r l)=>al4 (.sl r (l.take len))
  |_=>al5
 | .part t off len _ _=>match nth s t with
  |some (.arr r l)=>al4 (.sl r ((l.drop off).take len))
  |_=>al5
 | .pa t r _ a off=>match nth s t with
  |some (.arr _ _)=>al4 (.bO (RT.sv r a) off)
  |_=>al5
 | .bp t _ off=>match nth s t with
  |some (.box _)=>match bx t with|some l=>al4 (.bO l off)|none=>al5
  |_=>al5
 | .bO cs off=>match sV s bx cs with|some l=>al4 (.bO l off)|none=>al5
 | .eO f a b=>match sV s bx a,sV s bx b with
  |some x,al4 y=>al4 (.eO f x y)
  |_,_=>al5
 |_=>al5
def sV (s:List SB) (bx:Nat->Option (List SV)):List SV->Option (List SV)
 | []=>al4 []
 |x::xs=>match Ic s bx x,sV s bx xs with
  |some y,al4 ys=>al4 (y::ys)
  |_,_=>al5
end
def NN (s:List SB) (bx:Nat->Option (List SV)):List SV->Bool
 | []=>al9
 |x::xs=>match x with
  | .mp _=>NN s bx xs
  |x=>match Ic s bx x with
   |some _=>NN s bx xs
   |none=>ala
def kZ (s:List SB):Nat->Nat->Option (List SV)
 |0,_=>al5
 |n+1,t=>match nth s t with
  |some (.box cs)=>sV s (kZ s n) cs
  |_=>al5
mutual
def NO (bx:Nat->List Nat):SV->List Nat
 | .agg cs=>rX bx cs
 | .cj cs=>rX bx cs
 | .own t _=>[t]
 | .pre t _ _ _=>[t]
 | .part t _ _ _ _=>[t]
 | .pa t _ _ _ _=>t::bx t
 | .pb t _ _=>t::bx t
 | .bp t _ _=>t::bx t
 | .bO cs _=>rX bx cs
 | .mp t=>[t]
 | .eO _ a b=>rX bx a++rX bx b
 |_=>[]
def rX (bx:Nat->List Nat):List SV->List Nat
 | []=>[]
 |x::xs=>NO bx x++rX bx xs
end
def xZ (s:List SB):Nat->Nat->List Nat
 |0,_=>[]
 |n+1,t=>match nth s t with
  |some (.box cs)=>rX (xZ s n) cs
  |_=>[]
mutual
def SV.sure:SV->Bool
 | .jk=>ala
 | .agg cs=>mO cs
 | .cj cs=>mO cs
 | .bO cs _=>mO cs
 | .eO _ a b=>mO a&&mO b
 |_=>al9
def mO:List SV->Bool
 | []=>al9
 |x::xs=>x.sure&&mO xs
end
mutual
def AP:SV->Bool
 | .int _ _| .bool _| .str _=>al9
 | .agg cs=>rY cs
 | .cj cs=>rY cs
 |_=>ala
def rY:List SV->Bool
 | []=>al9
 |x::xs=>AP x&&rY xs
end
mutual
def TB (s:List SB):SV->Option SV
 | .int k n=>al4 (.int k n)
 | .bool b=>al4 (.bool b)
 | .str x=>al4 (.str x)
 | .agg cs=>match NP s cs with|some l=>al4 (.agg l)|none=>al5
 | .cj cs=>match NP s cs with|some l=>al4 (.cj l)|none=>al5
 | .sl r l=>al4 (.sl r l)
 | .nil e _=>al4 (.nil e ala)
 | .own t _=>match nth s t with
  |some (.arr r l)=>al4 (.sl r l)
  |_=>al5
 | .pre t len _ _=>match nth s t with
  |some (.arr r l)=>al4 (.sl r (l.take len))
  |_=>al5
 | .part t off len _ _=>match nth s t with
  |some (.arr r l)=>al4 (.sl r ((l.drop off).take len))
  |_=>al5
 |_=>al5
def NP (s:List SB):List SV->Option (List SV)
 | []=>al4 []
 |x::xs=>match TB s x,NP s xs with
  |some y,al4 ys=>al4 (y::ys)
  |_,_=>al5
end
mutual
def Q9 (s:List SB) (z:List Nat):List Nat->SV->Option (SV×List Nat)
 |seen,.int k n=>al4 (.int k n,seen)
 |seen,.bool b=>al4 (.bool b,seen)
 |seen,.agg cs=>match Lu s z seen cs with|some p=>al4 (.agg p.1,p.2)|none=>al5
 |seen,.cj cs=>match Lu s z seen cs with|some p=>al4 (.cj p.1,p.2)|none=>al5
 |seen,.nil e c=>bif c then al4 (.nil e ala,seen) else al5
 |seen,.own t _=>match nth s t with
  |some (.arr r l)=>bif has seen t||has z t then al5 else al4 (.sl r l,t::seen)
  |_=>al5
 |_,_=>al5
def Lu (s:List SB) (z:List Nat):List Nat->List SV->Option (List SV×List Nat)
 |seen,[]=>al4 ([],seen)
 |seen,x::xs=>match Q9 s z seen x with
  |some p=>match Lu s z p.2 xs with
   |some q=>al4 (p.1::q.1,q.2)
   |none=>al5
  |none=>al5
end
mutual
def yw:Nat->SV->SV×List SB
 |nx,.sl r l=>(.own nx ala,[.arr r l])
 |nx,.nil e _=>(.own nx ala,[.arr (adL e (.i .i64)) []])
 |nx,.agg cs=>(.agg (u5 nx cs).1,(u5 nx cs).2)
 |nx,.cj cs=>(.cj (u5 nx cs).1,(u5 nx cs).2)
 |_,v=>(v,[])
def u5:Nat->List SV->List SV×List SB
 |_,[]=>([],[])
 |nx,x::xs=>((yw nx x).1::(u5 (nx+(yw nx x).2.length) xs).1,(yw nx x).2++(u5 (nx+(yw nx x).2.length) xs).2)
end
def Ft:SB->List Nat
 | .box cs=>rX tM cs
 |_=>[]
def zp:SB->Bool
 | .box cs=>mO cs
 |_=>al9
def C2 (s:List SB):Nat->List Nat->List Nat->Option (List Nat)
 |_,[],seen=>al4 seen
 |0,_::_,_=>al5
 |n+1,t::ts,seen=>
  bif has seen t then C2 s n ts seen
  else match nth s t with
   |some b=>bif zp b then C2 s n (Ft b++ts) (seen++[t]) else al5
   |none=>al5
mutual
def qI (m:List Nat):SV->Option SV
 | .agg cs=>match uj m cs with|some l=>al4 (.agg l)|none=>al5
 | .cj cs=>match uj m cs with|some l=>al4 (.cj l)|none=>al5
 | .own t ex=>match idxOf t m with|some u=>al4 (.own u ex)|none=>al5
 | .pre t len cap ex=>match idxOf t m with|some u=>al4 (.pre u len cap ex)|none=>al5
 | .part t off len cap ex=>match idxOf t m with|some u=>al4 (.part u off len cap ex)|none=>al5
 | .pa t _ i _ off=>match idxOf t m with|some u=>al4 (.pb u i off)|none=>al5
 | .pb t i off=>match idxOf t m with|some u=>al4 (.pb u i off)|none=>al5
 | .bp t n off=>match idxOf t m with|some u=>al4 (.bp u n off)|none=>al5
 | .bO cs off=>match uj m cs with|some l=>al4 (.bO l off)|none=>al5
 | .mp t=>match idxOf t m with|some u=>al4 (.mp u)|none=>al5
 | .eO f a b=>match uj m a,uj m b with
  |some x,al4 y=>al4 (.eO f x y)
  |_,_=>al5
 | .jk=>al5
 |v=>al4 v
def uj (m:List Nat):List SV->Option (List SV)
 | []=>al4 []
 |x::xs=>match qI m x,uj m xs with
  |some y,al4 ys=>al4 (y::ys)
  |_,_=>al5
end
def NQ (m:List Nat):SB->Option SB
 | .box cs=>match uj m cs with|some l=>al4 (.box l)|none=>al5
 |b=>al4 b
def Hz (s:List SB) (m:List Nat):List Nat->Option (List SB)
 | []=>al4 []
 |t::ts=>match nth s t with
  |some b=>match NQ m b,Hz s m ts with
   |some b',al4 r=>al4 (b'::r)
   |_,_=>al5
  |none=>al5
def rowOf (rk:List (Nat×List PT)) (esz:Nat):List PT:=
 match rk with
 | []=>adL esz (.i .i64)
 |(n,r)::q=>bif v6 n esz&&v6 (al3 r) esz then r else rowOf q esz
def JE:Option Nat->SV->SV
 |some _,.own t _=> .own t ala
 |some _,.pre t l c _=> .pre t l c ala
 |some _,.part t o l c _=> .part t o l c ala
 |_,v=>v
def xN (rk:List (Nat×List PT)) (e:SE) (m:List Nat):Nat->List (Nat×Option Nat)->Option (SE×List SB)
 |_,[]=>al4 ([],[])
 |nx,(s,k)::r=>
  match k,Hm s e with
  |some esz,.nil _ al9=>match xN rk e m (nx+1) r with
   |some p=>al4 ((s,.own nx ala)::p.1,.arr (rowOf rk esz) []::p.2)
   |none=>al5
  |_,v=>match qI m v,xN rk e m nx r with
   |some v',al4 p=>al4 ((s,JE k v')::p.1,p.2)
   |_,_=>al5
def Fu (rk:List (Nat×List PT)) (st:qH) (t c esz:Nat):qH:=
 match nth st.aD t with
 |some (.box cs)=>match nth cs c with
  |some (.nil _ al9)=>{st with aD:=st.aD.set t (.box (cs.set c (.own (al3 st.aD) ala)))++[.arr (rowOf rk esz) []]}
  |_=>st
 |_=>st
def TC:SV->Option Nat
 | .bp t _ 0=>al4 t
 |_=>al5
def WW:SV->Option Nat
 | .eO _ _ (x::_)=>TC x
 |x=>TC x
def mz (rk:List (Nat×List PT)):List (Nat×Option Nat)->qH->qH
 | [],st=>st
 |(s,k)::r,st=>match k with
  |some n=>bif ady 1000 n then (match WW (Hm s st.env) with
   |some t=>mz rk r (Fu rk st t (n / 1000-1) (n%1000))
   |none=>mz rk r st) else mz rk r st
  |none=>mz rk r st
def Ie (s:List SB) (v:SV):SV:=
 match v with
 | .own t ex=>match nth s t with
  |some (.arr _ l)=> .pre t (al3 l) (al3 l) ex
  |_=>v
 |_=>v
def PC (s:List SB) (c:Nat):SE->SE
 | []=>[]
 |(t,v)::r=>bif v6 t c then (t,Ie s v)::r else (t,v)::PC s c r
def BK:List (Nat×Option Nat)->qH->qH
 | [],st=>st
 |(t,_)::r,st=>bif ady 1000000 t then BK r {st with env:=PC st.aD (t-1000000) st.env} else BK r st
def BL (e:SE):List (Nat×Option Nat)->Bool
 | []=>al9
 |(s,_)::r=>(Hm s e).sure&&BL e r
def Fv (e:SE):List (Nat×Option Nat)->List Nat
 | []=>[]
 |(s,_)::r=>NO tM (Hm s e)++Fv e r
def NR:List SB->Nat->List Nat
 |b::r,n+1=>Ft b++NR r n
 |_,_=>[]
def Fw:List SB->Nat->Bool
 |b::r,n+1=>zp b&&Fw r n
 |_,_=>al9
def Fx (rk:List (Nat×List PT)) (live:List (Nat×Option Nat)) (st:qH):Option qH:=
 bif BL st.env live&&Fw st.aD st.kn then
  match C2 st.aD 4096 (NR st.aD st.kn++Fv st.env live) (vD st.kn) with
  |none=>al5
  |some m=>match Hz st.aD m m,xN rk st.env m (al3 m) live with
   |some s1,al4 (e1,s2)=>al4 (BK live (mz rk live {env:=e1,aD:=s1++s2,fz:=yb st.fz 0 m,kn:=st.kn}))
   |_,_=>al5
 else al5
def Fy (rk:List (Nat×List PT)) (live:List (Nat×Option Nat)) (st:qH):Option qH:=
 match Fx rk live st with
 |some s=>bif live.any fun p=>p.2.isSome then Fx rk live s else al4 s
 |none=>al5
inductive AK where
 |i
 |b
 |n
 |l (r:List PT)
 |s
@[reducible] def AK.T : AK -> Type
  | .i => Int
  | .b => Bool
  | .n => Nat
  | .l r => List (RT r)
  | .s => List (List Int)
@[reducible] def kC : List AK -> Type
  | [] => Unit
  | [a] => a.T
  | a :: q :: r => a.T × kC (q :: r)
inductive x5 where
 |i (n:Int)
 |b (x:Bool)
 |n (x:Nat)
 |l (r:List PT) (x:List (RT r))
 |s (x:List (List Int))
def x5.k:x5->AK
 | .i _=> .i
 | .b _=> .b
 | .n _=> .n
 | .l r _=> .l r
 | .s _=> .s
def AK.at:(a:AK)->a.T->x5
 | .i,x=> .i x
 | .b,x=> .b x
 | .n,x=> .n x
 | .l r,x=> .l r x
 | .s,x=> .s x
def AK.of:(a:AK)->x5->Option a.T
 | .i,.i x=>al4 x
 | .b,.b x=>al4 x
 | .n,.n x=>al4 x
 | .l r,.l q x=>sU q r x
 | .s,.s x=>al4 x
 |_,_=>al5
def mW:(ks:List AK)->kC ks->List x5
 | [],_=>[]
 | [a],x=>[a.at x]
 |a::q::r,x=>a.at x.1::mW (q::r) x.2
def ru:(ks:List AK)->List x5->Option (kC ks)
 | [],[]=>al4 ()
 | [a],[x]=>a.of x
 |a::q::r,x::xs=>match a.of x,ru (q::r) xs with
  |some y,al4 ys=>al4 (y,ys)
  |_,_=>al5
 |_,_=>al5
mutual
def C3:SV->List x5
 | .int _ n=>[.i n]
 | .bool b=>[.b b]
 | .agg cs=>C4 cs
 | .cj cs=>C4 cs
 | .sl r l=>[.l r l]
 | .pre _ len cap _=>[.n len,.n cap]
 | .part _ off len cap _=>[.n off,.n len,.n cap]
 | .pb _ i _=>[.i i]
 | .bO cs _=>C4 cs
 | .eO _ a b=>C4 a++C4 b
 |_=>[]
def C4:List SV->List x5
 | []=>[]
 |x::xs=>C3 x++C4 xs
end
def TD:SB->List x5
 | .arr r l=>[.l r l]
 | .box cs=>C4 cs
 | .set l=>[.s l]
 | .bA p l=>[.l [.i .i64,p] l]
 | .dead=>[]
def JF:List SB->List x5
 | []=>[]
 |b::r=>TD b++JF r
def Q':SE->List x5
 | []=>[]
 |(_,v)::r=>C3 v++Q' r
def xO (st:qH):List x5:=Q' st.env++JF st.aD
mutual
def xP:SV->SV->Bool
 | .undef,.undef=>al9
 | .jR,.jR=>al9
 | .eg,.eg=>al9
 | .int k _,.int l _=>fO k l
 | .bool _,.bool _=>al9
 | .agg a,.agg b=>yx a b
 | .cj a,.cj b=>yx a b
 | .sl r _,.sl q _=>BI r q
 | .nil e c,.nil f d=>v6 e f&&c==d
 | .own t x,.own u y=>v6 t u&&x==y
 | .pre t _ _ x,.pre u _ _ y=>v6 t u&&x==y
 | .part t _ _ _ x,.part u _ _ _ y=>v6 t u&&x==y
 | .pb t _ o,.pb u _ p=>v6 t u&&v6 o p
 | .bp t n o,.bp u m p=>v6 t u&&v6 n m&&v6 o p
 | .bO a o,.bO b p=>yx a b&&v6 o p
 | .eO f a b,.eO g c d=>v6 f g&&yx a c&&yx b d
 | .mp t,.mp u=>v6 t u
 |_,_=>ala
def yx:List SV->List SV->Bool
 | [],[]=>al9
 |x::xs,y::ys=>xP x y&&yx xs ys
 |_,_=>ala
end
def ad4:SB->SB->Bool
 | .arr r _,.arr q _=>BI r q
 | .box a,.box b=>yx a b
 | .set _,.set _=>al9
 | .bA p _,.bA q _=>p.same q
 | .dead,.dead=>al9
 |_,_=>ala
def Fz:List SB->List SB->Bool
 | [],[]=>al9
 |x::xs,y::ys=>ad4 x y&&Fz xs ys
 |_,_=>ala
def PD:SE->SE->Bool
 | [],[]=>al9
 |(t,x)::xs,(u,y)::ys=>v6 t u&&xP x y&&PD xs ys
 |_,_=>ala
def PE:List Nat->List Nat->Bool
 | [],[]=>al9
 |x::xs,y::ys=>v6 x y&&PE xs ys
 |_,_=>ala
def FA (a b:qH):Bool:=PD a.env b.env&&Fz a.aD b.aD&&PE a.fz b.fz&&v6 a.kn b.kn
mutual
def tQ:SV->List x5->SV×List x5
 | .int k _,.i n::q=>(.int k n,q)
 | .bool _,.b x::q=>(.bool x,q)
 | .agg cs,q=>(.agg (rZ cs q).1,(rZ cs q).2)
 | .cj cs,q=>(.cj (rZ cs q).1,(rZ cs q).2)
 | .sl _ _,.l r l::q=>(.sl r l,q)
 | .pre t _ _ x,.n len:: .n cap::q=>(.pre t len cap x,q)
 | .part t _ _ _ x,.n off:: .n len:: .n cap::q=>(.part t off len cap x,q)
 | .pb t _ o,.i i::q=>(.pb t i o,q)
 | .bO cs o,q=>(.bO (rZ cs q).1 o,(rZ cs q).2)
 | .eO f a b,q=>(.eO f (rZ a q).1 (rZ b (rZ a q).2).1,(rZ b (rZ a q).2).2)
 |v,q=>(v,q)
def rZ:List SV->List x5->List SV×List x5
 | [],q=>([],q)
 |x::xs,q=>((tQ x q).1::(rZ xs (tQ x q).2).1,(rZ xs (tQ x q).2).2)
end
def NS:SB->List x5->SB×List x5
 | .arr _ _,.l r l::q=>(.arr r l,q)
 | .box cs,q=>(.box (rZ cs q).1,(rZ cs q).2)
 | .set _,.s l::q=>(.set l,q)
 | .bA _ _,.l [.i .i64,p] l::q=>(.bA p l,q)
 |b,q=>(b,q)
def AQ:List SB->List x5->List SB×List x5
 | [],q=>([],q)
 |b::r,q=>((NS b q).1::(AQ r (NS b q).2).1,(AQ r (NS b q).2).2)
def Lv:SE->List x5->SE×List x5
 | [],q=>([],q)
 |(t,v)::r,q=>((t,(tQ v q).1)::(Lv r (tQ v q).2).1,(Lv r (tQ v q).2).2)
def Ab (st:qH) (q:List x5):qH:={st with env:=(Lv st.env q).1,aD:=(AQ st.aD (Lv st.env q).2).1}
def afb:List x5->List AK
 | []=>[]
 |a::r=>a.k::afb r
def ptK {β:Type 1} (p:PT) (c:PT->β):β:=
 match p with
 | .i k=>c (.i k)
 | .b=>c .b
def rK {β:Type 1}:List PT->(List PT->β)->β
 | [],c=>c []
 |p::r,c=>ptK p fun p=>rK r fun r=>c (p::r)
def ksK {β:Type 1}:List AK->(List AK->β)->β
 | [],c=>c []
 | .i::r,c=>ksK r fun r=>c (.i::r)
 | .b::r,c=>ksK r fun r=>c (.b::r)
 | .n::r,c=>ksK r fun r=>c (.n::r)
 | .l q::r,c=>rK q fun q=>ksK r fun r=>c (.l q::r)
 | .s::r,c=>ksK r fun r=>c (.s::r)
mutual
def sW:SV->Option PV
 | .int k n=>al4 (.int k n)
 | .bool b=>al4 (.bool b)
 | .str x=>al4 (.str x)
 | .eg=>al4 .eg
 | .agg cs=>match qJ cs with|some l=>al4 (.agg l)|none=>al5
 | .cj cs=>match qJ cs with|some l=>al4 (.cj l)|none=>al5
 | .sl r l=>al4 (.sl (al3 r) ala (l.map (RT.pv r)))
 | .nil e c=>al4 (.sl e c [])
 | .bO cs off=>match qJ cs with|some l=>al4 (.bO l off)|none=>al5
 | .eO f a b=>match qJ a,qJ b with
  |some x,al4 y=>al4 (.eO f x y)
  |_,_=>al5
 |_=>al5
def qJ:List SV->Option (List PV)
 | []=>al4 []
 |x::xs=>match sW x,qJ xs with
  |some y,al4 ys=>al4 (y::ys)
  |_,_=>al5
end
structure cA (α:Type) where
 enc:α->List SV
 dec:List SV->Option (α×List SV)
 law: ∀{vs:List SV} {a:α} {rest:List SV} {ps:List PV},dec vs=al4 (a,rest)->qJ vs=al4 ps-> ∃p q,ps=p++q/\qJ (enc a)=al4 p/\qJ rest=al4 q
structure Arg (α:Type) where
 enc:α->SV
 dec:SV->Option α
 law: ∀{v:SV} {a:α} {p:PV},dec v=al4 a->sW v=al4 p->sW (enc a)=al4 p
structure au (α:Type) where
 enc:α->List SV
 dec:List SV->Option α
 law: ∀{vs:List SV} {a:α} {ps:List PV},dec vs=al4 a->qJ vs=al4 ps->qJ (enc a)=al4 ps
inductive Kd where
 |pure
 |mA
 |own
structure tR where
 {α β:Type}
 args:au α
 res:Arg β
 fn:α->Option β
 kd:Kd
 ow:Bool
structure dQ where
 ka:List AK
 ta:List SV
 tb:List SB
 ko:List AK
 tv:SV
 to:List SB
 fn:kC ka->Option (kC ko)
def BM:(p:PT)->PV->Option p.T
 | .i k,.int l n=>bif fO l k then al4 n else al5
 | .b,.bool x=>al4 x
 |_,_=>al5
def HA:(r:List PT)->List PV->Option (RT r)
 | [],[]=>al4 ()
 | [p],[v]=>BM p v
 |p::q::r,v::vs=>match BM p v,HA (q::r) vs with
  |some a,al4 b=>al4 (a,b)
  |_,_=>al5
 |_,_=>al5
def DQ (r:List PT):List (List PV)->Option (List (RT r))
 | []=>al4 []
 |x::xs=>match HA r x,DQ r xs with
  |some a,al4 l=>al4 (a::l)
  |_,_=>al5
structure Srt where
 r:List PT
 g:Option FuncId
 fn:List (RT r)->Option (List (RT r))
def NT:Srt:=⟨[.i .i64],al5,JB⟩
def WX:Option FuncId->List PV->Bool
 |none,[]=>al9
 |some g,[.eO h [] []]=>v6 h g
 |_,_=>ala
def JG (q:Srt) (args:List PV) (aD:cK) (fz:List Nat):Option (PV×cK×List Nat):=
 match args with
 | .own t e off len _ _::r=>match aD[t]? with
  |some (.arr e1 rows)=>if v6 e (al3 q.r)&&v6 off 0&&ady len (al3 rows)&&ady len fa&&!has fz t&&WX q.g r then
   (match DQ q.r (rows.take len) with
   |some l=>match q.fn l with
    |some m=>if v6 (al3 m) (al3 l) then al4 (.cj [],aD.set t (.arr e1 (m.map (RT.pv q.r)++rows.drop len)),fz) else al5
    |none=>al5
   |none=>al5) else al5
  |_=>al5
 |_=>al5
inductive Cd where
 |code (x:aF)
 |ins (esz:Nat)
 |srt (q:Srt)
 |cat
instance:Coe aF Cd:=⟨.code⟩
def Cd.ent:Cd->Ent
 | .code x=> .code x
 | .ins n=> .Hi (I9 n)
 | .srt q=> .Hi (JG q)
 | .cat=> .Hi I7
structure Ctx where
 lp:Option Nat
 con:FuncId->List tR
 fpc:FuncId->List dQ
 code:FuncId->Option Cd
 rk:List (Nat×List PT)
inductive XRS where
 |loc (r:gp)
 |shr (v:SV) (s:List SB) (z:List Nat)
def SV.afd:SV->Bool
 | .own .. | .pre .. | .part .. | .pa .. | .pb .. | .bp .. | .mp .. =>al9
 |_=>ala
def AR:List SV->Bool
 | []=>ala
 |x::xs=>x.afd||AR xs
mutual
def We (ts:List Nat):SV->SV
 | .pa t r i a off=>bif has ts t then .pb t i off else .pa t r i a off
 | .agg cs=> .agg (TE ts cs)
 | .cj cs=> .cj (TE ts cs)
 | .bO cs off=> .bO (TE ts cs) off
 | .eO f a b=> .eO f (TE ts a) (TE ts b)
 |v=>v
def TE (ts:List Nat):List SV->List SV
 | []=>[]
 |x::xs=>We ts x::TE ts xs
end
def dgE (ts:List Nat):SE->SE
 | []=>[]
 |(t,v)::r=>(t,We ts v)::dgE ts r
def WY (ts:List Nat):SB->SB
 | .box cs=> .box (TE ts cs)
 |b=>b
def CC (ts:List Nat):List SB->List SB
 | []=>[]
 |b::r=>WY ts b::CC ts r
def TF:List SB->Nat->SB->List SB
 | [],_,_=>[]
 |_::r,0,b=>b::r
 |x::r,n+1,b=>x::TF r n b
def ry:List (Nat×SB)->List SB->List SB
 | [],s=>s
 |(t,b)::r,s=>ry r (TF s t b)
def yz:List (Nat×SB)->List Nat
 | []=>[]
 |(t,_)::r=>t::yz r
def JH (d:Option Nat) (v:SV) (e:SE):SE:=
 match d with
 |some t=>(t,v)::e
 |none=>e
def apS:List SB->List SB->List SB
 | [],l=>l
 |b::r,l=>b::apS r l
def gp.next (d:Option Nat) (st:qH) (r:gp):qH:=
 match r.wr with
 | []=>{env:=JH d r.v st.env,aD:=apS st.aD r.news,fz:=r.fr++st.fz,kn:=st.kn}
 |w=>{env:=JH d r.v (dgE (yz w) st.env),aD:=apS (CC (yz w) (ry w st.aD)) r.news,fz:=r.fr++st.fz,kn:=st.kn}
def gp.ok (z:List Nat) (r:gp):Bool:=(yz r.wr).all fun t=>!has z t
def gp.tr (nx:Nat) (r:gp):Tr:=
 ⟨r.rd++r.fr,yz r.wr,!r.news.isEmpty,ala,(r.rd++r.fr).all (adQ · nx)&&(yz r.wr).all (adQ · nx),nx,nx+al3 r.news⟩
def TG:Tr:=⟨[],[],al9,al9,al9,0,0⟩
def p4 {R:Type}:List SB->List SB->gM R->gM R
 | [],_,k=>k
 |x::xs,y::ys,k=>match x with
  | .arr r l=>match y with
   | .arr q m=>bif BI r q then gR (al3 m==al3 l) (p4 xs ys k) aM else aM
   | .dead=>p4 xs ys k
   |_=>aM
  | .dead=>match y with
   | .dead=>p4 xs ys k
   |_=>aM
  | .box _=>match y with
   | .box _=>p4 xs ys k
   | .dead=>p4 xs ys k
   |_=>aM
  |_=>p4 xs ys k
 |_,_,_=>aM
abbrev WZ:=FuncId->List SV->List SB->List Nat-> ∀R:Type,(SV->List SB->List Nat->gM R)->gM R
section
variable {R : Type}
def ana (_:FuncId) (_:List SV):gM R:=aM
def arp (_:FuncId) (_:List SV) (_:List SB):gM R:=aM
def NU (f:FuncId) (m:Bool) (s:List SB) (tk:List Nat) (vs:List SV) (k:XRS->gM R):List tR->gM R
 | []=>ana f vs
 |c::r=>match c.args.dec vs with
  |some a=>bif m==c.ow then lG (c.fn a) fun b=>match c.kd with
   | .pure=>k (.loc {v:=c.res.enc b,rd:=tk})
   | .mA=>k (.loc {v:=c.res.enc b,rd:=tk,fr:=tk})
   | .own=>k (.loc {v:=(yw (al3 s) (c.res.enc b)).1,news:=(yw (al3 s) (c.res.enc b)).2,rd:=tk}) else NU f m s tk vs k r
  |none=>NU f m s tk vs k r
mutual
def Lw (g:Nat->Nat):SV->SV
 | .agg cs=> .agg (DR g cs)
 | .cj cs=> .cj (DR g cs)
 | .own t ex=> .own (g t) ex
 | .pre t len cap ex=> .pre (g t) len cap ex
 | .part t off len cap ex=> .part (g t) off len cap ex
 | .pa t _ i _ off=> .pb (g t) i off
 | .pb t i off=> .pb (g t) i off
 | .bp t n off=> .bp (g t) n off
 | .bO cs off=> .bO (DR g cs) off
 | .mp t=> .mp (g t)
 | .eO f a b=> .eO f (DR g a) (DR g b)
 |v=>v
def DR (g:Nat->Nat):List SV->List SV
 | []=>[]
 |x::xs=>Lw g x::DR g xs
end
def TH (g:Nat->Nat):SB->SB
 | .box cs=> .box (DR g cs)
 |b=>b
def Ac (g:Nat->Nat):List Nat->List SB->List (Nat×SB)
 |t::r,b::s=>(t,TH g b)::Ac g r s
 |_,_=>[]
def ad7 (k:Nat) (v:SV) (s:List SB):Bool:=(NO tM v++s.flatMap Ft).all fun t=>adQ t k
def fpS (f : FuncId) (n : Nat) (tk : List Nat) (vs : List SV) (s0 : List SB) (k : XRS -> gM R) : List dQ -> gM R
  | [] => arp f vs s0
  | c :: r => bif yx c.ta vs && Fz c.tb s0 then (match ru c.ka (C4 vs ++ JF s0) with
      | some a => lG (c.fn a) fun b =>
          k (.loc { v := Lw (kH tk n) (tQ c.tv (mW c.ko b)).1, wr := Ac (kH tk n) tk (AQ c.to (tQ c.tv (mW c.ko b)).2).1 })
      | none => fpS f n tk vs s0 k r) else fpS f n tk vs s0 k r
def Ig (cx:Ctx) (inl:WZ) (e:SE) (s:List SB) (z:List Nat) (op:lA) (k:XRS->gM R):gM R:=
 match op with
 | .call m f args=>match m with
  | .V6=>match sV s (kZ s deep) (jW e args) with
   |some vs=>NU f ala s (rX (xZ s deep) (jW e args)) vs k (cx.con f)
   |none=>aM
  | .own=>match sV s (kZ s deep) (jW e args) with
   |some vs=>NU f al9 s (rX (xZ s deep) (jW e args)) vs k (cx.con f)
   |none=>aM
  | .shr=>inl f (jW e args) s z R fun v s' z'=>k (.shr v s' z')
  | .fp=>match NN s (kZ s deep) (jW e args) with
   |false=>aM
   |true=>let tk:=pk (rX (xZ s deep) (jW e args))
    bif tk.all (fun t=>!has z t) then (match uj tk (jW e args),Hz s tk tk with
     |some vs,al4 s0=>fpS f (al3 s) tk vs s0 k (cx.fpc f)
     |_,_=>aM) else aM
 | .xF x args=>match cf e x with
  | .eO f a b=>bif AR (jW e args++b) then inl f (a++jW e args++b) s z R fun v s' z'=>k (.shr v s' z')
   else match sV s (kZ s deep) (a++jW e args++b) with
   |some vs=>NU f ala s (rX (xZ s deep) (a++jW e args++b)) vs k (cx.con f)
   |none=>aM
  |_=>aM
 |op=>mQ e s z op fun r=>k (.loc r)
def PF (d:Option Nat) (st:qH) (tr:List Tr) (k:qH->List Tr->gM R) (x:XRS):gM R:=
 match x with
 | .loc r=>bif r.ok st.fz then WU r.v fun v=>k ({r with v}.next d st) (r.tr (al3 st.aD)::tr) else aM
 | .shr v s z=>WU v fun v=>p4 st.aD s (bif st.fz.all (has z) then k {env:=JH d v (dgE (vD (al3 st.aD)) st.env),aD:=s,fz:=z,kn:=st.kn} (TG::tr) else aM)
def pB (cx:Ctx) (inl:WZ):List bY->qH->List Tr->(qH->List Tr->gM R)->gM R
 | [],st,tr,k=>k st tr
 |o::r,st,tr,k=>
  let run:=fun st:qH=>match o.op with
   | .pick (.t c) a b=>match Hm c st.env with
    | .bool x=>gR x (PF o.dst {st with env:=AO c (.bool al9) st.env} tr (pB cx inl r · · k) (.loc {v:=cf st.env a}))
     (PF o.dst {st with env:=AO c (.bool ala) st.env} tr (pB cx inl r · · k) (.loc {v:=cf st.env b}))
    |_=>aM
   |op=>Ig cx inl st.env st.aD st.fz op (PF o.dst st tr (pB cx inl r · · k))
  let skip:=fun st:qH=>pB cx inl r {st with env:=JH o.dst .jR st.env} (Tr.idle::tr) k
  match o.guard with
  |none=>run st
  |some (s,want)=>match Hm s st.env with
   | .bool x=>bif want then gR x (run {st with env:=AO s (.bool al9) st.env}) (skip {st with env:=AO s (.bool ala) st.env})
    else gR x (skip {st with env:=AO s (.bool al9) st.env}) (run {st with env:=AO s (.bool ala) st.env})
   | .jR=>skip st
   |_=>aM
def Lx (e:SE):List Nat->(SE->gM R)->gM R
 | [],k=>k []
 |s::r,k=>WU (Hm s e) fun v=>Lx e r fun e'=>k ((s,v)::e')
noncomputable def BN (cx:Ctx) (inl:WZ):(c:kz)->(R:Type)->qH->(iA->qH->gM R)->gM R
 | .skip,_,st,k=>k .normal st
 | .region d ops gj,_,st,k=>pB cx inl ops st [] fun la tr=>
  let fin:=Lx la.env gj fun e=>k .normal {la with env:=e}
  match d with
  |none=>fin
  |some bf=>match rS 0 (tr.reverse.zip bf) with
   |true=>fin
   |false=>aM
 | .seq a b,R,st,k=>BN cx inl a R st fun e la=>match e with
  | .normal=>BN cx inl b R la k
  |e=>k e la
 | .cond c a b,R,st,k=>match cf st.env c with
  | .bool x=>gR x (BN cx inl a R st k) (BN cx inl b R st k)
  |_=>aM
 | .block id b,R,st,k=>BN cx inl b R st fun e la=>match e with
  | .exit j=>bif v6 j id then k .normal la else k (.exit j) la
  |e=>k e la
 | .loop live b,_,st,k=>match Fy cx.rk live st with
  |none=>aM
  |some oo=>ksK (afb (xO oo)) fun ks=>match ru ks (xO oo) with
   |none=>aM
   |some y0=>fun ρ w=>Tv cx.lp (fun y:kC ks=>BN cx inl b (Step (kC ks) ρ) (Ab oo (mW ks y)) (fun e Ec=>match e with
    | .normal=>match Fy cx.rk live Ec with
     |some NV=>bif FA oo NV then (match ru ks (xO NV) with
      |some y'=>Ib (.next y')
      |none=>aM) else aM
     |none=>aM
    |e=>fun BO w'=>k e Ec BO fun r=>w' (.done (w r))) (Step (kC ks) ρ) fun z=>z) y0
 | .exit id,_,st,k=>k (.exit id) st
 | .ret,_,st,k=>k .ret st
def NW (st:qH):RV->Option SV
 | .tmp t=>al4 (Hm t st.env)
 | .cell t agg=>match Hm t st.env with
  | .bp t _ off=>match nth st.aD t with
   |some (.box cs)=>z8 agg off cs
   |_=>al5
  | .bO cs off=>z8 agg off cs
  |_=>al5
def zq (st:qH):List RV->Option (List SV)
 | []=>al4 []
 |r::rs=>match NW st r,zq st rs with
  |some v,al4 vs=>al4 (v::vs)
  |_,_=>al5
def C5:List SV->SV
 | [v]=>v
 |vs=> .cj vs
def NX:Nat->List SV->SE
 |_,[]=>[]
 |i,v::r=>(i,v)::NX (i+1) r
noncomputable def Ly (cx:Ctx) (inl:WZ) (x:aF) (R:Type) (args:List SV) (s:List SB) (z:List Nat) (k:SV->List SB->List Nat->gM R):gM R:=
 bif v6 (al3 args) x.DF then BN cx inl x.code R {env:=NX 0 args,aD:=s,fz:=z,kn:=al3 s} fun e st=>match e with
  | .exit _=>aM
  |_=>match zq st x.res with
   |some vs=>k (C5 vs) st.aD st.fz
   |none=>aM
 else aM
def gp.nV (s:List SB) (r:gp):List SB:=
 match r.wr with
 | []=>apS s r.news
 |w=>apS (CC (yz w) (ry w s)) r.news
def DS:Option FuncId->List SV->Bool
 |none,[]=>al9
 |some g,[.eO h [] []]=>v6 h g
 |_,_=>ala
structure anb where
 t:Nat
 r:List PT
 l:List (RT r)
 i:Int
 m:List (RT r)
def W0 (esz:Nat) (args:List SV) (s:List SB) (z:List Nat):Option anb:=
 match args with
 | [.own t _,.int .i64 i,.own u _]=>match nth s t with
  |some (.arr r l)=>match nth s u with
   |some (.arr q m)=>match sU q r m with
    |some m=>bif v6 (al3 r) esz&&!Nat.beq t u&&!has z t then al4 ⟨t,r,l,i,m⟩ else al5
    |none=>al5
   |_=>al5
  |_=>al5
 |_=>al5
def aff (esz:Nat) (args:List SV) (s:List SB) (z:List Nat) (k:SV->List SB->List Nat->gM R):gM R:=
 match W0 esz args s z with
 |some a=>lG (zn a.l a.i a.m) fun l'=>k (.own (al3 s) ala) (gp.nV s {v:= .own (al3 s) ala,news:=[.arr a.r l'],wr:=[(a.t,.dead)]}) z
 |none=>aM
structure anc where
 t:Nat
 r:List PT
 l:List (RT r)
 m:List (RT r)
def W3 (args:List SV) (s:List SB) (z:List Nat):Option anc:=
 match args with
 | [.part t off len _ _]=>match nth s t with
  |some (.box [.sl r l,.sl q m])=>match sU q r m with
   |some m=>bif v6 (al3 r) 1&&v6 off 0&&v6 len 2&&!has z t then al4 ⟨t,r,l,m⟩ else al5
   |none=>al5
  |_=>al5
 |_=>al5
def afg (args:List SV) (s:List SB) (z:List Nat) (k:SV->List SB->List Nat->gM R):gM R:=
 match W3 args s z with
 |some a=>lG (Q8 a.l a.m) fun l'=>k (.own (al3 s) ala) (gp.nV s {v:= .own (al3 s) ala,news:=[.arr a.r l'],wr:=[(a.t,.dead)]}) z
 |none=>aM
def W4 (r:List PT) (g:Option FuncId) (args:List SV) (s:List SB) (z:List Nat):Option (Nat×Option Nat×List (RT r)):=
 match args with
 | .own t _::a=>match nth s t with
  |some (.arr q l)=>match sU q r l with
   |some l=>bif !has z t&&DS g a then al4 (t,al5,l) else al5
   |none=>al5
  |_=>al5
 | .pre t len _ _::a=>match nth s t with
  |some (.arr q l)=>match sU q r l with
   |some l=>bif !has z t&&DS g a then al4 (t,al4 len,l) else al5
   |none=>al5
  |_=>al5
 |_=>al5
def afh (q:Srt) (args:List SV) (s:List SB) (z:List Nat) (k:SV->List SB->List Nat->gM R):gM R:=
 match W4 q.r q.g args s z with
 |some (t,al5,l)=>lG (DP q.fn l) fun m=>k (.cj []) (gp.nV s {v:= .cj [],wr:=[(t,.arr q.r m)]}) z
 |some (t,al4 len,l)=>lG (zo q.fn len l) fun m=>k (.cj []) (gp.nV s {v:= .cj [],wr:=[(t,.arr q.r m)]}) z
 |none=>aM
noncomputable def TI (cx:Ctx):Nat->WZ
 |0=>fun _ _ _ _ _ _=>aM
 |n+1=>fun f args s z R k=>match cx.code f with
  |some (.code x)=>Ly cx (TI cx n) x R args s z k
  |some (.ins e)=>aff e args s z k
  |some (.srt q)=>afh q args s z k
  |some .cat=>afg args s z k
  |none=>aM
def TJ (kd:Kd) {β:Type} (res:Arg β) (v:SV) (s:List SB) (z:List Nat):gM β:=
 match kd with
 | .pure=>bif AP v then lT (res.dec v) Ib else aM
 | .mA=>bif AP v then aM else lT (TB s v) fun u=>lT (res.dec u) Ib
 | .own=>lT (Q9 s z [] v) fun u=>lT (res.dec u.1) Ib
noncomputable def ad8 (cx:Ctx) (x:aF) {α β:Type} (args:au α) (res:Arg β) (kd:Kd) (a:α):Option β:=
 Ly cx (TI cx 8) x β (args.enc a) [] [] (TJ kd res) β fun b=>b
def FB:List SB->Bool
 | []=>al9
 |b::r=>zp b&&FB r
def BP {R:Type}:List SB->List SB->gM R->gM R
 | [],[],k=>k
 |x::xs,y::ys,k=>match x with
  | .arr r l=>match y with
   | .arr q m=>bif BI r q then gR (al3 m==al3 l) (BP xs ys k) aM else aM
   |_=>aM
  | .dead=>match y with
   | .dead=>BP xs ys k
   |_=>aM
  | .box _=>match y with
   | .box _=>BP xs ys k
   |_=>aM
  | .set _=>match y with
   | .set _=>BP xs ys k
   |_=>aM
  | .bA _ _=>match y with
   | .bA _ _=>BP xs ys k
   |_=>aM
 |_,_,_=>aM
noncomputable def arq (wd:Bool) (cx:Ctx) (x:aF) (ka:List AK) (ta:List SV) (tb:List SB) (ko:List AK) (tv:SV) (to:List SB) (a:kC ka):Option (kC ko):=
 Ly cx (TI cx 8) x (kC ko) (rZ ta (mW ka a)).1 (AQ tb (rZ ta (mW ka a)).2).1 [] (fun v s z=>match z with
  | []=>let u:=bif wd then Ie s v else v
   let s1:=s.take (al3 tb)
   bif xP tv u&&Fz to s1&&ad7 (al3 tb) u s1&&u.sure&&FB s1 then BP (AQ tb (rZ ta (mW ka a)).2).1 s1 (lT (ru ko (C3 u++JF s1)) Ib) else aM
  |_=>aM) (kC ko) fun b=>b
end
end Go.Vm
