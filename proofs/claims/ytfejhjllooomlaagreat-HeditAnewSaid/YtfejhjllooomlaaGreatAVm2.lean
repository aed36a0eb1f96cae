/- The logical machine, part 2: VmCall3, VmFp, VmRun, VmInv, VmStep, VmShr, VmOp, VmReg, VmReg2, VmNorm, VmNorm2, VmCode, VmSound, VmPrim, VmIns, VmTab, VmComp, VmLaw, VmSym, SvBase, SvDef. -/
import Derived.Test.YtfejhjllooomlaaGreatAVm1
import Derived.Orders
import Derived.Laws.Sem
import Derived.Laws.Externs
import Derived.Lib.SliceRun
import Derived.Laws.CopyRow
import Derived.ProofKit
import Derived.Carry
import Derived.OpenShut
import Derived.Deep.Slices
import Derived.Deep.Grids
open List renaming getElem?_eq_getElem->lw,getElem?_eq_some_iff->v6,getElem?_append_left->ww,getElem?_append_right->If,mem_append->abJ,all_eq_true->abK,mem_singleton->abM,take_of_length_le->abP,length_append->abT,append_assoc->abU,replicate->abV,mem_cons->abX,mem_cons_of_mem->ac5,getD_eq_getElem?_getD->acr,pairwise_iff_getElem->acx,flatMap_cons->acD,getElem?_take_of_lt->acH,length_drop->acJ,length_take->acK,drop_of_length_le->acO,mem_append_right->acV,getElem?_set_ne->acX,mem_append_left->adc,mem_of_mem_take->adp,mem_of_mem_drop->adF,flatMap_append->aig,nodup_append->aiH,getElem?_set->aiL,any_eq_true->aiP,length_set->aiY,drop_zero->aj1,length->aj3
open Bool renaming and_eq_true->rc,false_eq_true->M2,not_eq_true'->NE,or_eq_true->acQ,true->aj8,false->aj9
open Option.some renaming injEq->ut,inj->acP
open Nat renaming beq->v4,le_refl->Do,lt_trichotomy->PP,lt_or_ge->UV,le_trans->aa4,ble->ab1,zero_le->abI,eq_or_lt_of_le->abL,lt_of_lt_of_le->abS,blt->abZ,le_of_lt->acg,ble_eq->acl,add_mul->ado,mul_le_mul_right->agd,lt_or_gt_of_ne->aiA,le_total->aiD
open Option renaming map_eq_some_iff->AC,some->aj6,none->aj7
open Prod.mk renaming injEq->EQ
open Array renaming getElem?_eq_some_iff->IR,getElem?_setIfInBounds->ab0,getD_eq_getD_getElem?->abH,getElem?_setIfInBounds_self_of_lt->abQ,replicate->abR,getElem?_eq_getElem->acy,size_replicate->adk,size_append->aiN,ext'->aiZ
open Int renaming ofNat_eq_natCast->ac9,ofNat->ai1
open Go.Sem renaming run_bind->ack,run_pure->aj2
open Go.Result renaming andThen_ok->acB
open Go.World renaming cell?->aiS
open Decidable renaming decide->ajf
/- A pure call, whole. -/
namespace Go.Vm
structure yb (im:Im) (loc:Loc) (aD:cI) (w:World) (v:PV) (xL:cI) (Kb:List Nat) (eO:Im) (bu:Loc) (w':World) (u:Value):Prop where
 iw:oj im eO
 eF:mN loc bu
 vr:VR eO bu v u
 sr:SR eO bu xL Kb w'
 os:w'.os=w.os
 tape:Tape w w'
 output:w'.output=w.output
 size:w.heap.size<=w'.heap.size
 frame: ∀b,b<w.heap.size->(∀t li k,loc t=aj6 li->aD[t]? =aj6 k->k.bT=aj8->li.eh≠b)->w'.heap[b]? =w.heap[b]?
 eQ: ∀b o,eO b=aj6 o->im b=aj6 o\/w.heap.size<=b\/ ∃t li k,loc t=aj6 li/\aD[t]? =aj6 k/\k.bT=aj8/\li.eh=b
 oZ: ∀t li,bu t=aj6 li->loc t=aj6 li\/aj3 aD<=t
 own: ∀t li k,bu t=aj6 li->xL[t]? =aj6 k->k.bT=aj8->(w.heap.size<=li.eh\/ ∃u lu ku,loc u=aj6 lu/\aD[u]? =aj6 ku/\ku.bT=aj8/\lu.eh=li.eh)
def uL (P:Program) (f:FuncId) (us:Array Value) (w:World) (R:Value->World->Prop):Prop:=
 (∃v w',(callFunc f us).run P w= .ok (.value v) w'/\R v w')\/
 ((callFunc f us).run P w= .ok (.enter f us) w/\Calls P f us w fun e w'=> ∃v,e= .returned v/\R v w')
theorem uL.mono {P:Program} {f:FuncId} {us:Array Value} {w:World} {R R':Value->World->Prop} (h:uL P f us w R) (hr: ∀v w',R v w'->R' v w'):uL P f us w R':=by
 rcases h with ⟨v,w',h1,h2⟩|⟨h1,h2⟩
 · exact .inl ⟨v,w',h1,hr _ _ h2⟩
 exact .inr ⟨h1,h2.mono fun e w' ⟨v,he,hv⟩=>⟨v,he,hr _ _ hv⟩⟩
def Co (P : Program) (rec : Task -> Option Out) : Prop :=
  ∀ (f : FuncId) (args : List PV) (aD : cI) (fz : List Nat) (v : PV) (xL : cI) (Kb : List Nat), rec (.func f args aD fz) = aj6 (.func v xL Kb) ->
    ∀ (im : Im) (loc : Loc) (w : World) (us : List Value), SR im loc aD fz w -> fF im loc args us ->
      uL P f ⟨us⟩ w fun u w' => ∃ eO bu, yb im loc aD w v xL Kb eO bu w' u
def Ix (P : Program) (f : FuncId) (p : List PV -> Option (PV × cI)) : Prop :=
  ∀ (args : List PV) (v : PV) (news : cI), p args = aj6 (v, news) -> ∀ (im : Im) (w : World) (us : List Value), SR im gF [] [] w -> fF im gF args us ->
    uL P f ⟨us⟩ w fun u w' => ∃ eO bu, yb im gF [] w v news [] eO bu w' u
def PM (P : Program) (f : FuncId) (p : List PV -> cI -> List Nat -> Option (PV × cI × List Nat)) : Prop :=
  ∃ fn c, P.funcs[f]? = aj6 fn /\ (fn.name == "runtime.NumGoroutine") = aj9 /\ fn.body = aj6 c /\
    ∀ (args : List PV) (aD : cI) (fz : List Nat) (v : PV) (xL : cI) (Kb : List Nat), p args aD fz = aj6 (v, xL, Kb) ->
      ∀ (im : Im) (loc : Loc) (w : World) (us : List Value), SR im loc aD fz w -> fF im loc args us ->
        uL P f ⟨us⟩ w fun u w' => ∃ eO bu, yb im loc aD w v xL Kb eO bu w' u
def y8 (P:Program) (F:mY):Prop:=(∀f k p,F f=aj6 (.kS k p)->k=aj9/\Ix P f p)/\ ∀f p,F f=aj6 (.LV p)->PM P f p
section
variable {P : Program} {F : mY} {rec : Task -> Option Out} {im : Im} {loc : Loc} {aD : cI} {w : World}
theorem SR.empty (h: ∀b o,im b=aj6 o->w.heap[b]? =aj6 o):SR im gF [] [] w where
 bQ:=h
 eh:=fun t li h=>by cases h
 jV:=fun t u li lj k k' h=>by cases h
 free:=fun t li k h=>by cases h
theorem PN {r:od} {v:PV} {u:Value} {ot:cI} {GH:List Nat} {im0 D2:Im} {di:Loc} {w1:World} (hk:jS im loc aD w r) (hr:r.v=v) (hn:r.news=[]) (hw:r.wr=[]) (hno:v.la=aj8)
 (hp:yb im0 gF [] w v ot GH D2 di w1 u): ∃eO bu,VR eO bu r.v u/\tN im loc aD w r eO bu w1:=by
 refine ⟨im,loc,by rw [hr];exact J' hno hp.vr,?_⟩;have vp: ∀b,b<w.heap.size->w1.heap[b]? =w.heap[b]?:=fun b hb=>hp.frame b hb fun t li k h=>by cases h
 exact {
  iw:= .refl _,eF:= .refl _
  bQ:=fun b o h=>by have h1:=hk.bQ b o h;have dW:b<w.heap.size:=(IR.1 h1).1;rw [vp b dW];exact h1
  eQ:=fun _ _ h=> .inl h
  os:=hp.os,tape:=hp.tape,output:=hp.output,size:=hp.size
  frame:=fun b hb _=>vp b hb
  Py:=fun t k h=>by rw [hw] at h;cases h
  wr:=fun t k li h=>by rw [hw] at h;cases h
  lL:=fun _ _ h=> .inl h
  news:=fun j k li h=>by rw [hn] at h;simp at h
  distinct:=fun i j ki kj li lj h=>by rw [hn] at h;simp at h}
theorem RA {r:od} {v v':PV} {u:Value} {ot:cI} {GH tk:List Nat} {D2:Im} {di:Loc} {w1:World} (hr:r.v=v') (hn:r.news=[]) (hw:r.wr=[]) (hf:r.fr=tk)
 (hp:yb (grow im w (Ai loc aD tk)) gF [] w v ot GH D2 di w1 u) (hi:yY ot v=aj6 v'): ∃eO bu,VR eO bu r.v u/\tN im loc aD w r eO bu w1:=by
 have vp: ∀b,b<w.heap.size->w1.heap[b]? =w.heap[b]?:=fun b hb=>hp.frame b hb fun t li k h=>by cases h
 let D3:Im:=fun b=>match D2 b with
  |some o=>aj6 o
  |none=>if (Ai di ot (jH tz v)).contains b&&ab1 w.heap.size b then w1.heap[b]? else aj7
 have mB:oj D2 D3:=fun b o h=>by simp only [D3,h]
 have Ac: ∀b o,D3 b=aj6 o->w1.heap[b]? =aj6 o:=by
  intro b o h;simp only [D3] at h;split at h
  · rename_i o' ho;injection h with h;subst h;exact hp.sr.bQ b _ ho
  split at h
  · exact h
  cases h
 have aj': ∀t,t∈jH tz v->EG D2 D3 di ot w1 t:=by
  intro t ht li hl;obtain ⟨k,jG,uK⟩:=hp.sr.eh t li hl;refine ⟨k,jG,uK,fun hs=>?_⟩;have hge:w.heap.size<=li.eh:=by
   rcases hp.own t li k hl jG hs with h|⟨u,lu,ku,h,_⟩
   · exact h
   cases h
  simp only [D3];split
  · rename_i o ho;exact (hp.sr.bQ _ _ ho).symm
  rw [lm]
  simp only [rc,acl];exact ⟨by simpa using Aj.2 ⟨t,li,k,ht,hl,jG,hs,rfl⟩,hge⟩
 refine ⟨D3,loc,by rw [hr];exact Rx mB aj' hp.vr hi,?_⟩;exact {
  iw:=(It im w _).trans (hp.iw.trans mB),eF:= .refl _
  bQ:=Ac
  eQ:=fun b o h=>by
   simp only [D3] at h;split at h
   · rename_i o' ho
     injection h with h;subst h;rcases hp.eQ b _ ho with h1|h1|⟨t,li,k,h1,_⟩
     · rcases Rv h1 with h2|h2
       · exact .inl h2
       obtain ⟨t,li,k,ht,hl,vu,hs,hb⟩:=Aj.1 h2
       exact .inr (.inr ⟨t,li,k,by rw [hf];exact pV.2 ht,hl,vu,hs,hb⟩)
     · exact .inr (.inl h1)
     cases h1
   split at h
   · rename_i hc
     simp only [rc,acl] at hc;exact .inr (.inl hc.2)
   cases h
  os:=hp.os,tape:=hp.tape,output:=hp.output,size:=hp.size
  frame:=fun b hb _=>vp b hb
  Py:=fun t k h=>by rw [hw] at h;cases h
  wr:=fun t k li h=>by rw [hw] at h;cases h
  lL:=fun _ _ h=> .inl h
  news:=fun j k li h=>by rw [hn] at h;simp at h
  distinct:=fun i j ki kj li lj h=>by rw [hn] at h;simp at h}
theorem N7 {r:od} {v v':PV} {u:Value} {ot:cI} {GH seen':List Nat} {im0 D2:Im} {di:Loc} {w1:World} {news:cI} (hk:jS im loc aD w r) (hr:r.v=v') (hn:r.news=news) (hw:r.wr=[])
 (hp:yb im0 gF [] w v ot GH D2 di w1 u) (hi:zI ot GH (aj3 aD) [] v=aj6 (v',news,seen')): ∃eO bu,VR eO bu r.v u/\tN im loc aD w r eO bu w1:=by
 have vp: ∀b,b<w.heap.size->w1.heap[b]? =w.heap[b]?:=fun b hb=>hp.frame b hb fun t li k h=>by cases h
 obtain ⟨Ka,ts,h1,h2⟩:=Rz (fun t li hl=>hp.sr.eh t li hl) hp.vr hi
 let rl:Loc:=fun t=>if t<(aj3 aD) then loc t else match Ka[t-(aj3 aD)]? with
  |some li=>aj6 li
  |none=>loc t
 have A7: ∀(j:Nat) (li:LI),Ka[j]? =aj6 li->rl (aj3 aD+j)=aj6 li:=by intro j li hj;simp only [rl];rw [ls (by omega),show (aj3 aD)+j-(aj3 aD)=j by omega,hj]
 have mB:mN loc rl:=by
  intro t li hl;simp only [rl];split
  · exact hl
  rename_i dW
  split
  · rename_i l2 JW
    have hj:=(v6.1 JW).1;have:=hk.fresh (t-(aj3 aD)) (by rw [hn,<- h1.Iv];exact hj);rw [show (aj3 aD)+(t-(aj3 aD))=t by omega,hl] at this;cases this
  exact hl
 have hli: ∀(j:Nat) (k:lz),news[j]? =aj6 k-> ∃li,Ka[j]? =aj6 li:=by intro j k hj;have:=(v6.1 hj).1;exact ⟨_,lw (by rw [h1.Iv];exact this)⟩
 have hts: ∀(j:Nat) (k:lz),news[j]? =aj6 k->k.bT=aj8-> ∃t,ts[j]? =aj6 (aj6 t):=by
  intro j k hj hs;have dW:=(v6.1 hj).1;cases hg:ts[j]? with
  |none=>have:=List.getElem?_eq_none_iff.1 hg;have:=h1.JN;omega
  |some x=>
   cases x with
   |some t=>exact ⟨t,rfl⟩
   |none=>rw [h1.dum j k hj hg] at hs;cases hs
 refine ⟨im,rl,by rw [hr];exact h2 im rl A7,?_⟩;exact {
  iw:= .refl _,eF:=mB
  bQ:=fun b o h=>by have h1:=hk.bQ b o h;have dW:b<w.heap.size:=(IR.1 h1).1;rw [vp b dW];exact h1
  eQ:=fun _ _ h=> .inl h
  os:=hp.os,tape:=hp.tape,output:=hp.output,size:=hp.size
  frame:=fun b hb _=>vp b hb
  Py:=fun t k h=>by rw [hw] at h;cases h
  wr:=fun t k li h=>by rw [hw] at h;cases h
  lL:=fun t li h=>by
   simp only [rl] at h;split at h
   · exact .inl h
   rename_i dW
   split at h
   · rename_i l2 JW
     have hj:=(v6.1 JW).1;exact .inr ⟨by omega,by rw [hn,<- h1.Iv];omega⟩
   exact .inl h
  news:=Cf fun j k hj=>by
   rw [hn] at hj;obtain ⟨li,hl⟩:=hli j k hj;obtain ⟨⟨e,rows,rfl⟩,uK⟩:=h1.br j k li hj hl;refine ⟨li,A7 j li hl,uK,fun hs=>?_⟩;obtain ⟨t,ht⟩:=hts j _ hj hs;obtain ⟨a1,a2,a3,_,_⟩:=h1.own j _ li t hj hl ht;have hge:w.heap.size<=li.eh:=by
    rcases hp.own t li _ a1 a2 hs with h|⟨u,lu,ku,h,_⟩
    · exact h
    cases h
   refine ⟨?_,.inl hge⟩;cases hb:im li.eh with
   |none=>rfl
   |some o=>have:=(IR.1 (hk.bQ _ _ hb)).1;omega
  distinct:=fun i j ki kj li lj qY hj' U8 PO aoE aoF Q8=>by rw [hn] at qY hj';obtain ⟨l1,G9⟩:=hli i ki qY;obtain ⟨l2,JW⟩:=hli j kj hj';have e1:=A7 i l1 G9;have e2:=A7 j l2 JW;rw [aoE] at e1;rw [aoF] at e2;injection e1 with e1;injection e2 with e2;subst e1 e2;obtain ⟨t1,ht1⟩:=hts i ki qY U8;obtain ⟨t2,ht2⟩:=hts j kj hj' PO;obtain ⟨a1,a2,_⟩:=h1.own i ki li t1 qY G9 ht1;obtain ⟨b1,b2,_⟩:=h1.own j kj lj t2 hj' JW ht2;have:=hp.sr.jV t1 t2 li lj ki kj a1 b1 a2 b2 U8 PO Q8;subst this;exact h1.inj i j t1 ht1 ht2}
theorem Ak {own:Bool} {f:FuncId} {nF:List PV} {tk:List Nat} {r:od}
 (h:(match rec (.func f nF [] []) with
  |some (.func v s1 z1)=>
   if own then match zI s1 z1 (aj3 aD) [] v with
    |some (v',n2,_)=>aj6 {v:=v',news:=n2,rd:=tk}
    |none=>aj7
   else if v.la then aj6 {v,rd:=tk}
   else match yY s1 v with
    |some v'=>aj6 {v:=v',rd:=tk,fr:=tk}
    |none=>aj7
  |_=>aj7)=aj6 r):r.rd=tk:=by
 split at h
 · split at h
   · split at h
     · injection h with h;subst h;rfl
     cases h
   split at h
   · injection h with h;subst h;rfl
   split at h
   · injection h with h;subst h;rfl
   cases h
 cases h
theorem yc (EB:Co P rec) {own:Bool} {f:FuncId} {nF:List PV} {tk:List Nat} {r:od} {us:List Value}
 (h:(match rec (.func f nF [] []) with
  |some (.func v s1 z1)=>
   if own then match zI s1 z1 (aj3 aD) [] v with
    |some (v',n2,_)=>aj6 {v:=v',news:=n2,rd:=tk}
    |none=>aj7
   else if v.la then aj6 {v,rd:=tk}
   else match yY s1 v with
    |some v'=>aj6 {v:=v',rd:=tk,fr:=tk}
    |none=>aj7
  |_=>aj7)=aj6 r) (ha:fF (grow im w (Ai loc aD tk)) gF nF us) (hk:jS im loc aD w r):
 uL P f ⟨us⟩ w fun u w'=> ∃eO bu,VR eO bu r.v u/\tN im loc aD w r eO bu w':=by
 cases hr:rec (.func f nF [] []) with
 |none=>rw [hr] at h;cases h
 |some o=>
  rw [hr] at h;cases o with
  |code e st=>cases h
  |func v s1 z1=>
   dsimp only at h;refine (EB f nF [] [] v s1 z1 hr _ gF w us (SR.empty (N4 hk.bQ)) ha).mono fun u w' hq=>?_
   obtain ⟨D2,di,hp⟩:=hq;split at h
   · cases hio:zI s1 z1 (aj3 aD) [] v with
     |none=>rw [hio] at h;cases h
     |some q2=>obtain ⟨v',n2,s2⟩:=q2;rw [hio] at h;simp only [ut] at h;subst h;exact N7 hk rfl rfl rfl hp hio
   split at h
   · rename_i hno
     simp only [ut] at h;subst h;exact PN hk rfl rfl rfl hno hp
   cases hif:yY s1 v with
   |none=>rw [hif] at h;cases h
   |some v'=>rw [hif] at h;simp only [ut] at h;subst h;exact RA rfl rfl rfl rfl hp hif
theorem Iy (EB:Co P rec) (A':y8 P F) {own:Bool} {f:FuncId} {args:List PV} {fz:List Nat} {r:od} {us:List Value}
 (h:dz F rec own f args aD fz=aj6 r) (ha:fF im loc args us) (hk:jS im loc aD w r):
 uL P f ⟨us⟩ w fun u w'=> ∃eO bu,VR eO bu r.v u/\tN im loc aD w r eO bu w':=by
 have aoH: ∀(rd:List Nat),(∀b o,im b=aj6 o->w.heap[b]? =aj6 o)-> ∀b o,grow im w (Ai loc aD rd) b=aj6 o->w.heap[b]? =aj6 o:=fun rd h=>N4 h
 have Me: ∀(nF:List PV),B8 aD (xT aD deep) args=aj6 nF->(∀t,t∈dF (df aD deep) args-> ∀li,loc t=aj6 li-> ∃k,aD[t]? =aj6 k/\BR im loc w li k)->(∀b o,im b=aj6 o->w.heap[b]? =aj6 o)->
  fF (grow im w (Ai loc aD (dF (df aD deep) args))) gF nF us:=by
  intro nF hx aoI Ac;refine ya (w:=w) (It _ _ _) (fun t=>N5 (It _ _ _) deep t) (fun t ht li hl=>?_) ha hx;obtain ⟨k,jG,uK⟩:=aoI t ht li hl;exact ⟨k,jG,uK,fun hs=>U6 Ac (Aj.2 ⟨t,li,k,ht,hl,jG,hs,rfl⟩)⟩
 unfold dz at h;cases hx:B8 aD (xT aD deep) args with
 |none=>rw [hx] at h;cases h
 |some nF=>
  rw [hx] at h;dsimp only at h;cases hF:F f with
  |none=>rw [hF] at h;dsimp only at h;have GN:r.rd=dF (df aD deep) args:=Ak h;exact yc EB h (Me nF hx (fun t ht=>hk.tok t (.inl (by rw [GN];exact ht))) hk.bQ) hk
  |some en=>
   rw [hF] at h;cases en with
   |kS NV p=>
    dsimp only at h;obtain ⟨rfl,hpo⟩:=A'.1 f NV p hF;cases RC:p nF with
    |none=>rw [RC] at h;cases h
    |some q=>
     obtain ⟨v,news⟩:=q;rw [RC] at h;dsimp only at h;cases hio:zI news [] (aj3 aD) [] v with
     |none=>rw [hio] at h;cases h
     |some q2=>
      obtain ⟨v',n2,s2⟩:=q2;rw [hio] at h;simp only [M2,if_false,ut] at h;subst h;refine (hpo nF v news RC _ w us (SR.empty (aoH _ hk.bQ)) (Me nF hx (fun t ht=>hk.tok t (.inl ht)) hk.bQ)).mono fun u w' hq=>?_
      obtain ⟨D2,di,hp⟩:=hq;exact N7 hk rfl rfl rfl hp hio
   |code x=>dsimp only at h;have GN:r.rd=dF (df aD deep) args:=Ak h;exact yc EB h (Me nF hx (fun t ht=>hk.tok t (.inl (by rw [GN];exact ht))) hk.bQ) hk
   |LV x=>dsimp only at h;have GN:r.rd=dF (df aD deep) args:=Ak h;exact yc EB h (Me nF hx (fun t ht=>hk.tok t (.inl (by rw [GN];exact ht))) hk.bQ) hk
end
end Go.Vm
/- A call that works on the blocks that its arguments lead to, numbered anew: what it does to the memory. -/
namespace Go.Vm
theorem hO {α:Type} {l:List α} {i:Nat} {x:α} (h:l[i]? =aj6 x):i<(aj3 l):=(v6.1 h).1
theorem Cp: ∀{l:List Nat} {t:Nat},t∈o6 l↔t∈l
 | [],t=>by simp [o6]
 |a::r,t=>by
  rw [o6];split
  · rename_i h
    rw [Cp];have:=pV.1 h;constructor
    · exact fun h=>by simp [h]
    intro h
    rcases abX.1 h with h|h
    · subst h;exact this
    exact h
  simp [Cp]
theorem tT: ∀{l:List Nat},(o6 l).Nodup
 | []=>by simp [o6]
 |a::r=>by
  rw [o6];split
  · exact tT
  rename_i h
  rw [List.nodup_cons];exact ⟨fun hm=>h (pV.2 (Cp.1 hm)),tT⟩
theorem EH: ∀{a b:cI},v9 a b=aj8-> ∀(i:Nat) (x:lz),a[i]? =aj6 x-> ∃y,b[i]? =aj6 y/\x.bT=y.bT
 | [],_,_,i,x,h=>by simp at h
 |c::r,d::q,hf,i,x,h=>by
  simp only [v9,rc] at hf;cases i with
  |zero=>simp at h;subst h;refine ⟨d,rfl,?_⟩;have:=hf.1;split at this<;>first|(rename_i h1 h2;rw [h1,h2])|cases this
  |succ i=>simpa using EH hf.2 i x (by simpa using h)
 |_::_,[],hf,_,_,_=>by cases hf
theorem EI {g:Nat->Nat}: ∀{tk:List Nat} {s:cI} {t:Nat} {k:lz},(t,k)∈o9 g tk s↔ ∃(i:Nat) (b:lz),tk[i]? =aj6 t/\s[i]? =aj6 b/\k=zJ g b
 | [],s,t,k=>by simp [o9]
 |a::r,[],t,k=>by simp [o9]
 |a::r,b::s,t,k=>by
  simp only [o9,abX,EQ,EI];constructor
  · rintro (⟨rfl,rfl⟩|⟨i,c,h1,h2,h3⟩)
    · exact ⟨0,b,rfl,rfl,rfl⟩
    exact ⟨i+1,c,by simpa using h1,by simpa using h2,h3⟩
  rintro ⟨i,c,h1,h2,h3⟩
  cases i with
  |zero=>simp at h1 h2;subst h1;subst h2;exact .inl ⟨rfl,h3⟩
  |succ i=>exact .inr ⟨i,c,by simpa using h1,by simpa using h2,h3⟩
theorem Hb {g:Nat->Nat}: ∀(s:cI) (i:Nat),(A2 g s)[i]? =(s[i]?).map (zJ g)
 | [],i=>by simp [A2]
 |b::r,0=>by simp [A2]
 |b::r,i+1=>by simpa [A2] using Hb r i
theorem Ba {g:Nat->Nat}: ∀(s:cI),(A2 g s).length=aj3 s
 | []=>rfl
 |b::r=>by simp [A2,Ba r]
section
variable {P : Program} {F : mY} {rec : Task -> Option Out} {im : Im} {loc : Loc} {aD : cI} {w : World} {tk : List Nat} {g : Nat -> Nat} {l1 l2 : Loc}
mutual
theorem VR.zM: ∀{x:PV} {v:Value},VR im l1 x v->(∀u,u∈jH tz x-> ∀li,l1 u=aj6 li->l2 (g u)=aj6 li)->VR im l2 (B9 g x) v
 |_,_,.undef v,_=> .undef v
 |_,_,.ke,_=> .ke
 |_,_,.int k n,_=> .int k n
 |_,_,.bool b,_=> .bool b
 |_,_,.str s,_=> .str s
 |_,_,.agg cs vs h,hg=> .agg _ vs (fF.zM h (fun u hu=>hg u (by simpa [jH] using hu)))
 |_,_,.b8 cs vs h,hg=> .b8 _ vs (fF.zM h (fun u hu=>hg u (by simpa [jH] using hu)))
 |_,_,.sl esz q8 rows a cap hc hk h,_=> .sl esz q8 rows a cap hc hk h
 |_,_,.own t esz off len cap ex li a dh h1 h2 h3 h4 h5 h6 h7,hg=> .own _ esz off len cap ex li a dh (hg _ (by simp [jH]) _ h1) h2 h3 h4 h5 h6 h7
 |_,_,.ptr t esz row off li h1 h2 h3,hg=> .ptr _ esz row off li (hg _ (by simp [jH]) _ h1) h2 h3
 |_,_,.bM cs off b o vs h hv,hg=> .bM _ off b o vs (fF.zM h (fun u hu=>hg u (by simpa [jH] using hu))) hv
 |_,_,.mp t li h,hg=> .mp _ li (hg _ (by simp [jH]) _ h)
 |_,_,.fh fn a b as bs ha hb,hg=> .fh fn _ _ as bs (fF.zM ha (fun u hu=>hg u (by simp [jH,hu]))) (fF.zM hb (fun u hu=>hg u (by simp [jH,hu])))
 |_,_,.eo,_=> .eo
theorem fF.zM: ∀{x:List PV} {v:List Value},fF im l1 x v->(∀u,u∈dF tz x-> ∀li,l1 u=aj6 li->l2 (g u)=aj6 li)->fF im l2 (xu g x) v
 |_,_,.nil,_=> .nil
 |_,_,.cons x v xs vs h hs,hg=> .cons _ v _ vs (VR.zM h (fun u hu=>hg u (by simp [dF,hu]))) (fF.zM hs (fun u hu=>hg u (by simp [dF,hu])))
end
theorem VR.B9 {x:PV} {v:Value} (hg: ∀u,u∈jH tz x-> ∀li,l1 u=aj6 li->l2 (g u)=aj6 li) (h:VR im l1 x v):VR im l2 (Vm.B9 g x) v:=h.zM hg
theorem fF.B9 {x:List PV} {v:List Value} (hg: ∀u,u∈dF tz x-> ∀li,l1 u=aj6 li->l2 (g u)=aj6 li) (h:fF im l1 x v):fF im l2 (xu g x) v:=h.zM hg
theorem Bb: ∀(x:List PV),(xu g x).length=aj3 x
 | []=>rfl
 |x::xs=>by simp [xu,Bb xs]
theorem BR.B9 {li:LI} {k:lz} (hg: ∀u,u∈rO k-> ∀li,l1 u=aj6 li->l2 (g u)=aj6 li) (h:BR im l1 w li k):BR im l2 w li (zJ g k):=by
 cases k with
 |arr e rows=>exact h
 |box cs=>obtain ⟨a1,a2,a3,vs,el,a4,a5,a6⟩:=h;exact ⟨by rw [Bb];exact a1,a2,a3,vs,el,a4,a5,a6.B9 hg⟩
 |map es=>exact h
 |dead=>trivial
theorem yd (k:lz):(zJ g k).bT=k.bT:=by cases k<;>rfl
theorem Ml (EB:Co P rec) {f:FuncId} {args:List PV} {fz:List Nat} {r:od} {us:List Value}
 (h:uE rec f args aD fz=aj6 r) (ha:fF im loc args us) (hk:jS im loc aD w r):
 uL P f ⟨us⟩ w fun u w'=> ∃eO bu,VR eO bu r.v u/\tN im loc aD w r eO bu w':=by
 unfold uE at h;have GI:(o6 (dF (df aD deep) args)).Nodup:=tT;generalize Cm:o6 (dF (df aD deep) args)=tk at h GI;split at h
 · cases h
 rename_i a s0 EJ;unfold UR at EJ;split at EJ
 case isFalse=>cases EJ
 rename_i aoJ;simp only [abK,NE] at aoJ;split at EJ
 case h_2=>cases EJ
 rename_i a' s0' hra UZ;simp only [ut,EQ] at EJ;obtain ⟨rfl,rfl⟩:=EJ;split at h
 case h_2=>cases h
 rename_i v s hr;unfold El at h;split at h
 case isFalse=>cases h
 rename_i RD;injection h with h;obtain ⟨LX,Iz⟩:=Ca UZ;have hf0:=EH RD;have mB:(aj3 tk)<=(aj3 s):=by
  rcases Nat.eq_zero_or_pos (aj3 tk) with h0|h0
  · omega
  obtain ⟨y,hy,_⟩:=hf0 (aj3 tk-1) (s0'[aj3 tk-1]'(by omega)) (lw _)
  have:=hO hy;omega
 let Mm:Loc:=fun u=>match tk[u]? with|some t=>loc t|none=>aj7
 have EK:Ren tk loc Mm:=fun u t hu=>by simp only [Mm,hu]
 have hC: ∀u li,Mm u=aj6 li-> ∃t,tk[u]? =aj6 t/\loc t=aj6 li:=by
  intro u li hl;simp only [Mm] at hl;split at hl
  · rename_i t ht;exact ⟨t,ht,hl⟩
  cases hl
 have RE: ∀t k,(t,k)∈r.wr↔ ∃(i:Nat) (b:lz),tk[i]? =aj6 t/\s[i]? =aj6 b/\k=zJ (kT tk (aj3 aD)) b:=fun t k=>by rw [<- h];exact EI
 have acW: ∀u t,tk[u]? =aj6 t->(t∈r.rd\/ ∃b,(t,b)∈r.wr):=fun u t ht=>by have:=hO ht;exact .inr ⟨_,(RE t _).2 ⟨u,_,ht,lw (by omega),rfl⟩⟩
 have xJ: ∀(u t:Nat) (k:lz),tk[u]? =aj6 t->s0'[u]? =aj6 k-> ∃k0:lz,aD[t]? =aj6 k0/\k.bT=k0.bT:=fun u t k ht hs=>by obtain ⟨k0,k',g1,g2,g3⟩:=Iz u t ht;rw [hs] at g3;injection g3 with g3;subst g3;exact ⟨k0,g1,A4 g2⟩
 have hSR:SR im Mm s0' [] w:={
  bQ:=hk.bQ
  eh:=fun u li hl=>by obtain ⟨t,h1,h2⟩:=hC u li hl;obtain ⟨k,jG,uK⟩:=hk.tok t (acW u t h1) li h2;obtain ⟨k0,k',g1,g2,g3⟩:=Iz u t h1;rw [jG] at g1;injection g1 with g1;subst g1;exact ⟨k',g3,G7 EK g2 uK⟩
  jV:=fun t u li lj k k' hl mS hs we DN aoL hb=>by
   obtain ⟨a1,h1,h2⟩:=hC t li hl;obtain ⟨a2,h3,h4⟩:=hC u lj mS;obtain ⟨k0,g1,g2⟩:=xJ t a1 k h1 hs;obtain ⟨k0',g1',g2'⟩:=xJ u a2 k' h3 we;have:=hk.jV a1 a2 li lj k0 k0' (acW t a1 h1) (acW u a2 h3) h2 h4 g1 g1' (by rw [<- g2];exact DN) (by rw [<- g2'];exact aoL) hb;subst this;have pw:=acx.1 GI;obtain ⟨l1,e1⟩:=v6.1 h1;obtain ⟨l2,e2⟩:=v6.1 h3;rcases PP t u with h|h|h
   · exact absurd (e1.trans e2.symm) (pw t u l1 l2 h)
   · exact h
   exact absurd (e2.trans e1.symm) (pw u t l2 l1 h)
  free:=fun t li k hl hs DN _=>by obtain ⟨a1,h1,h2⟩:=hC t li hl;obtain ⟨k0,g1,g2⟩:=xJ t a1 k h1 hs;have dW:=hO h1;exact hk.free a1 _ ((RE a1 _).2 ⟨t,_,h1,lw (by omega),rfl⟩) li k0 h2 g1 (by rw [<- g2];exact DN)}
 refine (EB f a' s0' [] v s [] hr im Mm w us hSR (tM EK ha hra)).mono fun u w' ⟨eO,Kc,hf⟩=>?_
 let bu:Loc:=fun t=>match loc t with
  |some li=>aj6 li
  |none=>if (aj3 aD)<=t/\t-(aj3 aD)<(aj3 r.news) then Kc (t-(aj3 aD)+aj3 tk) else aj7
 have ake:mN loc bu:=fun t li hl=>by simp only [bu,hl]
 have GO:(iQ (aj3 tk) v s=aj8/\r.news=[])\/(iQ (aj3 tk) v s=aj9/\r.news=A2 (kT tk (aj3 aD)) (s.drop (aj3 tk))):=by
  rw [<- h];cases PI:iQ (aj3 tk) v s with
  |true=>exact .inl ⟨rfl,by simp⟩
  |false=>exact .inr ⟨rfl,by simp⟩
 have akf:iQ (aj3 tk) v s=aj9->aj3 r.news=aj3 s-(aj3 tk):=fun h1=>by
  rcases GO with ⟨h2,_⟩|⟨_,h2⟩
  · rw [h1] at h2;cases h2
  rw [h2];simp [Ba]
 have aoM: ∀u li,Kc u=aj6 li->u<(aj3 s):=fun u li hl=>let ⟨k,jG,_⟩:=hf.sr.eh u li hl;hO jG
 have RF: ∀j li,bu (aj3 aD+j)=aj6 li->j<aj3 r.news->Kc (aj3 tk+j)=aj6 li:=fun j li hl hj=>by simp only [bu,hk.fresh j hj] at hl;rw [lm ⟨by omega,by omega⟩] at hl;rw [show (aj3 aD)+j-(aj3 aD)+aj3 tk=aj3 tk+j by omega] at hl;exact hl
 have hg: ∀u,(u<aj3 tk\/iQ (aj3 tk) v s=aj9)-> ∀li,Kc u=aj6 li->bu (kT tk (aj3 aD) u)=aj6 li:=by
  intro u U9 li hl;unfold kT;split
  · rename_i t ht
    rcases hf.oZ u li hl with h1|h1
    · obtain ⟨t',h2,h3⟩:=hC u li h1
      rw [ht] at h2;injection h2 with h2;subst h2;exact ake _ _ h3
    have:=hO ht;omega
  rename_i hn
  have hu:(aj3 tk)<=u:=by simpa using hn
  rcases U9 with U9|U9
  · omega
  have dW:=aoM u li hl;have GO:=akf U9;simp only [bu,hk.fresh (u-(aj3 tk)) (by omega)];rw [lm ⟨by omega,by omega⟩,show (aj3 aD)+(u-(aj3 tk)) -(aj3 aD)+aj3 tk=u by omega];exact hl
 have PI: ∀u,iQ (aj3 tk) v s=aj8->(u∈jH tz v\/ ∃i b,i<aj3 tk/\s[i]? =aj6 b/\u∈rO b)->u<(aj3 tk):=fun u h1 h2=>by
  unfold iQ at h1;have h3:=abK.1 h1 u (by
   rcases h2 with h2|⟨i,b,g1,g2,g3⟩
   · simp [h2]
   refine abJ.2 (.inr (List.mem_flatMap.2 ⟨b,?_,g3⟩))
   exact List.mem_of_getElem? (i:=i) (by rw [List.getElem?_take];simp [g1,g2]))
  simpa using h3
 have hgv: ∀u,u∈jH tz v-> ∀li,Kc u=aj6 li->bu (kT tk (aj3 aD) u)=aj6 li:=fun u hu=>hg u (by
  cases hq:iQ (aj3 tk) v s with
  |true=>exact .inl (PI u hq (.inl hu))
  |false=>exact .inr rfl)
 have hgb: ∀i b,i<aj3 tk->s[i]? =aj6 b-> ∀u,u∈rO b-> ∀li,Kc u=aj6 li->bu (kT tk (aj3 aD) u)=aj6 li:=fun i b hi hb u hu=>hg u (by
  cases hq:iQ (aj3 tk) v s with
  |true=>exact .inl (PI u hq (.inr ⟨i,b,hi,hb,hu⟩))
  |false=>exact .inr rfl)
 have hMC: ∀u t li,tk[u]? =aj6 t->loc t=aj6 li->Kc u=aj6 li:=fun u t li ht hl=>hf.eF u li (by simp only [Mm,ht];exact hl)
 refine ⟨eO,bu,by rw [<- h];exact hf.vr.B9 hgv,?_⟩;have RG: ∀(j:Nat) (k:lz),r.news[j]? =aj6 k-> ∃b,s[aj3 tk+j]? =aj6 b/\k=zJ (kT tk (aj3 aD)) b:=fun j k hj=>by
  rcases GO with ⟨_,h0⟩|⟨_,h0⟩
  · rw [h0] at hj;simp at hj
  rw [h0] at hj;simp only [Hb,List.getElem?_drop,AC] at hj;obtain ⟨b,h1,h2⟩:=hj;exact ⟨b,h1,h2.symm⟩
 have U': ∀t li,Kc t=aj6 li->aj3 tk<=t-> ∀k,s[t]? =aj6 k->k.bT=aj8->w.heap.size<=li.eh:=by
  intro t li hl ht k hs DN;rcases hf.own t li k hl hs DN with h1|⟨u,lu,ku,h1,h2,h3,h4⟩
  · exact h1
  exfalso
  obtain ⟨a1,g1,g2⟩:=hC u lu h1;obtain ⟨y,y1,y2⟩:=hf0 u ku h2;have:=hf.sr.jV u t lu li y k (hMC u a1 lu g1 g2) hl y1 hs (by rw [<- y2];exact h3) DN h4;subst this;have:=hO g1;omega
 exact {
  iw:=hf.iw,eF:=ake
  bQ:=hf.sr.bQ
  eQ:=fun b o hb=>by
   rcases hf.eQ b o hb with h1|h1|⟨t,li,k,h1,h2,h3,h4⟩
   · exact .inl h1
   · exact .inr (.inl h1)
   exfalso
   obtain ⟨a1,g1,g2⟩:=hC t li h1;obtain ⟨y,y1,y2⟩:=hf0 t k h2;have:=hf.sr.free t li y (hMC t a1 li g1 g2) y1 (by rw [<- y2];exact h3) rfl;rw [h4,hb] at this;cases this
  os:=hf.os,tape:=hf.tape,output:=hf.output,size:=hf.size
  frame:=fun b hb hh=>hf.frame b hb fun t li k hl hs DN=>by obtain ⟨a1,g1,g2⟩:=hC t li hl;obtain ⟨k0,e1,e2⟩:=xJ t a1 k g1 hs;have dW:=hO g1;exact hh a1 _ li k0 ((RE a1 _).2 ⟨t,_,g1,lw (by omega),rfl⟩) g2 e1 (by rw [<- e2];exact DN)
  Py:=fun t k hm DN=>by obtain ⟨i,b,g1,g2,rfl⟩:=(RE t k).1 hm;rw [yd] at DN;have dW:=hO g1;have e:=lw (l:=s0') (i:=i) (by omega);obtain ⟨y,y1,y2⟩:=hf0 i _ e;rw [g2] at y1;injection y1 with y1;subst y1;obtain ⟨k0,e1,e2⟩:=xJ i t _ g1 e;exact ⟨k0,e1,by rw [<- e2,y2];exact DN⟩
  wr:=fun t k li hm hl=>by obtain ⟨i,b,g1,g2,rfl⟩:=(RE t k).1 hm;obtain ⟨k',jG,uK⟩:=hf.sr.eh i li (hMC i t li g1 hl);rw [g2] at jG;injection jG with jG;subst jG;exact uK.B9 (hgb i b (hO g1) g2)
  lL:=fun t li hl=>by
   simp only [bu] at hl;cases LX:loc t with
   |some lj=>rw [LX] at hl;exact .inl hl
   |none=>
    rw [LX] at hl;dsimp only at hl;split at hl
    · rename_i hn
      exact .inr ⟨hn.1,by omega⟩
    cases hl
  news:=fun j k li hj hl=>by
   have Mb:j<(aj3 r.news):=hO hj;obtain ⟨b,hb,rfl⟩:=RG j k hj;have LX:=RF j li hl Mb;obtain ⟨k',jG,uK⟩:=hf.sr.eh _ li LX;rw [hb] at jG;injection jG with jG;subst jG;have hq:iQ (aj3 tk) v s=aj9:=by
    rcases GO with ⟨_,h0⟩|⟨h0,_⟩
    · rw [h0] at Mb;simp at Mb
    exact h0
   refine ⟨uK.B9 (fun u _=>hg u (.inr hq)),fun DN=>?_⟩;rw [yd] at DN;exact ⟨hf.sr.free _ li b LX hb DN rfl,.inl (U' _ li LX (by omega) b hb DN)⟩
  distinct:=fun i j ki kj li lj hi hj U8 PO hli hlj hb=>by obtain ⟨b1,e1,rfl⟩:=RG i ki hi;obtain ⟨b2,e2,rfl⟩:=RG j kj hj;rw [yd] at U8 PO;have h1:=RF i li hli (hO hi);have h2:=RF j lj hlj (hO hj);have:=hf.sr.jV _ _ li lj b1 b2 h1 h2 e1 e2 U8 PO hb;omega}
end
end Go.Vm
/- A region's run in the order of the text, step by step; what a block holds when aj6 of its operations are done. -/
namespace Go.Vm
structure ye (F:mY) (rec:Task->Option Out) (ops:List bW) (S:Nat->St) (X:Nat->Option XR):Prop where
 steps: ∀(i:Nat) (o:bW),ops[i]? =aj6 o->
  (wanted o.guard (S i).env=aj6 aj8/\ ∃x,xw F rec (S i).env (S i).aD (S i).fz o.op=aj6 x/\x.ok (S i).fz=aj8/\X i=aj6 x/\S (i+1)=x.next o.dst (S i))\/
  (wanted o.guard (S i).env=aj6 aj9/\X i=aj7/\S (i+1)={S i with env:=jm o.dst .ke (S i).env})
def zG (x:Option XR) (s:St):Tr:=
 match x with
 |some x=>x.tr (aj3 s.aD)
 |none=>Tr.idle
def zN (S:Nat->St) (X:Nat->Option XR) (n:Nat):List Tr:=(List.range n).map fun i=>zG (X i) (S i)
theorem Mn (S:Nat->St) (X:Nat->Option XR) (n:Nat):zN S X (n+1)=zG (X 0) (S 0)::zN (fun i=>S (i+1)) (fun i=>X (i+1)) n:=by unfold zN;rw [List.range_succ_eq_map];simp [List.map_map,Function.comp_def]
theorem Cq {F:mY} {rec:Task->Option Out}: ∀(ops:List bW) (st:St) (tr:List Tr) (lA:St) (PQ:List Tr),mT F rec ops st tr=aj6 (lA,PQ)->
 ∃S X,S 0=st/\S (aj3 ops)=lA/\ye F rec ops S X/\PQ=(zN S X (aj3 ops)).reverse++tr
 | [],st,tr,lA,PQ,h=>by simp only [mT,ut,EQ] at h;obtain ⟨rfl,rfl⟩:=h;exact ⟨fun _=>st,fun _=>aj7,rfl,rfl,⟨fun i o h=>by simp at h⟩,by simp [zN]⟩
 |o::l,st,tr,lA,PQ,h=>by
  simp only [mT] at h;have mk: ∀(s1:St) (x:Option XR) (t1:Tr),zG x st=t1->mT F rec l s1 (t1::tr)=aj6 (lA,PQ)->
   ((wanted o.guard st.env=aj6 aj8/\ ∃y,xw F rec st.env st.aD st.fz o.op=aj6 y/\y.ok st.fz=aj8/\x=aj6 y/\s1=y.next o.dst st)\/
    (wanted o.guard st.env=aj6 aj9/\x=aj7/\s1={st with env:=jm o.dst .ke st.env}))->
   ∃S X,S 0=st/\S (o::l).length=lA/\ye F rec (o::l) S X/\PQ=(zN S X (o::l).length).reverse++tr:=by
   intro s1 x t1 ht he hs;obtain ⟨S,X,h0,hn,cf,htr⟩:=Cq l s1 (t1::tr) lA PQ he;refine ⟨fun i=>match i with|0=>st|i+1=>S i,fun i=>match i with|0=>x|i+1=>X i,rfl,hn,⟨fun i o' ho=>?_⟩,?_⟩
   · cases i with
     |zero=>
      simp at ho;subst ho;rcases hs with ⟨a,y,b,c,d,e⟩|⟨a,b,c⟩
      · exact .inl ⟨a,y,b,c,d,by rw [<- e];exact h0⟩
      exact .inr ⟨a,b,by rw [<- c];exact h0⟩
     |succ i=>exact cf.steps i o' (by simpa using ho)
   rw [List.length_cons,Mn,htr]
   simp [ht]
  cases hw:wanted o.guard st.env with
  |none=>rw [hw] at h;cases h
  |some b=>
   rw [hw] at h;cases b with
   |false=>exact mk _ aj7 _ rfl h (.inr ⟨hw,rfl,rfl⟩)
   |true=>
    dsimp only at h;cases hx:xw F rec st.env st.aD st.fz o.op with
    |none=>rw [hx] at h;cases h
    |some x=>
     rw [hx] at h;dsimp only at h;split at h
     · rename_i Ac
       exact mk _ (aj6 x) _ rfl h (.inl ⟨hw,x,hx,Ac,rfl,rfl⟩)
     cases h
theorem fY: ∀(wr:List (Nat×lz)) (s:cI),(gH wr s).length=aj3 s
 | [],s=>rfl
 |(t,b)::r,s=>by rw [gH,fY r];simp
theorem uM: ∀(wr:List (Nat×lz)) (s:cI) (t:Nat),(∀k,(t,k)∉wr)->(gH wr s)[t]? =s[t]?
 | [],s,t,_=>rfl
 |(u,b)::r,s,t,h=>by
  rw [gH,uM r _ t (fun k hk=>h k (by simp [hk]))];have:u≠t:=fun e=>h b (by rw [e];simp)
  rw [acX this]
theorem EL: ∀(wr:List (Nat×lz)) (s:cI),wa wr=aj8-> ∀{t:Nat} {k:lz},(t,k)∈wr->t<aj3 s->(gH wr s)[t]? =aj6 k
 |(u,b)::r,s,hn,t,k,hm,dW=>by
  simp only [wa,rc,abK,NE] at hn;rw [gH];rcases abX.1 hm with h|h
  · injection h with h1 h2
    subst h1 h2;rw [uM r _ t fun k' hk=>by simpa using hn.1 (t,k') hk];simp [dW]
  exact EL r _ hn.2 h (by simpa using dW)
section
variable {F : mY} {rec : Task -> Option Out} {ops : List bW} {S : Nat -> St} {X : Nat -> Option XR}
def W (X:Nat->Option XR) (i t:Nat):Prop:=
 match X i with
 |some (.loc r)=> ∃k,(t,k)∈r.wr
 |some (.shr ..)=>True
 |none=>False
def FR (X:Nat->Option XR) (i t:Nat):Prop:=
 match X i with
 |some (.loc r)=>t∈r.fr
 |some (.shr _ _ z)=>t∈z
 |none=>False
def Bc (S:Nat->St) (X:Nat->Option XR) (n:Nat) (done:Nat->Prop) (t:Nat) (k:lz):Prop:=
 ∃m,m<=n/\(∀i,i<n->W X i t->(done i↔i<m))/\(∀c,c<n->(S c).aD.length<=t->t<(S (c+1)).aD.length->c<m)/\(S m).aD[t]? =aj6 k
theorem N8 {e:Env} {aD:cI} {fz:List Nat} {op:lJ} {v:PV} {s:cI} {z:List Nat} (h:xw F rec e aD fz op=aj6 (.shr v s z)):(aj3 aD)<=aj3 s/\ ∀t,t∈fz->t∈z:=by
 have key: ∀{f:FuncId} {args:List PV},gy rec f args aD fz=aj6 (.shr v s z)->aj3 aD<=aj3 s/\ ∀t,t∈fz->t∈z:=by
  intro f args h;unfold gy at h;split at h
  · split at h
    · rename_i hc
      simp only [rc,acl,abK] at hc;simp only [ut,XR.shr.injEq] at h;obtain ⟨rfl,rfl,rfl⟩:=h;exact ⟨hc.1,fun t ht=>pV.1 (hc.2 t ht)⟩
    cases h
  cases h
 cases op with
 |call m f args=>
  cases m with
  |UB=>simp [xw] at h
  |own=>simp [xw] at h
  |shr=>exact key h
  |fp=>simp [xw] at h
 |xt x args=>
  simp only [xw] at h;split at h
  · split at h
    · exact key h
    simp at h
  cases h
 |_=>simp [xw] at h
theorem ye.acY (hr:ye F rec ops S X) {i:Nat} (hi:i<aj3 ops):(S i).aD.length<=(S (i+1)).aD.length:=by
 rcases hr.steps i _ (lw hi) with ⟨_,x,hx,_,_,hn⟩|⟨_,_,hn⟩
 · rw [hn]
   cases x with
   |loc r=>simp [XR.next,rS,fY]
   |shr v s z=>exact (N8 hx).1
 rw [hn];exact Do _
theorem ye.iR (hr : ye F rec ops S X) {i j : Nat} (nJ : i <= j) (hj : j <= (aj3 ops)) : (S i).aD.length <= (S j).aD.length := by
  induction j with
  | zero => have : i = 0 := by omega
            subst this; exact Do _
  | succ j ih =>
    rcases abL nJ with h | h
    · subst h; exact Do _
    exact aa4 (ih (by omega) (by omega)) (hr.acY (by omega))
theorem ye.same (hr:ye F rec ops S X) {i t:Nat} (hi:i<aj3 ops) (hw: ¬W X i t) (ht:t<(S i).aD.length):(S (i+1)).aD[t]? =(S i).aD[t]?:=by
 rcases hr.steps i _ (lw hi) with ⟨_,x,hx,_,hX,hn⟩|⟨_,_,hn⟩
 · rw [hn]
   cases x with
   |loc r=>simp only [XR.next,rS];rw [ww (by rw [fY];exact ht)];exact uM _ _ _ fun k hk=>hw (by unfold W;rw [hX];exact ⟨k,hk⟩)
   |shr v s z=>exact absurd (by unfold W;rw [hX];trivial) hw
 rw [hn]
theorem ye.y9 (hr : ye F rec ops S X) {m m' t : Nat} (hm : m <= m') (Cr : m' <= (aj3 ops)) (hw : ∀ i, m <= i -> i < m' -> ¬ W X i t) (ht : t < (S m).aD.length) : (S m').aD[t]? = (S m).aD[t]? := by
  induction m' with
  | zero => have : m = 0 := by omega
            subst this; rfl
  | succ j ih =>
    rcases abL hm with h | h
    · subst h; rfl
    rw [hr.same (by omega) (hw j (by omega) (by omega)) (abS ht (hr.iR (by omega) (by omega)))]
    exact ih (by omega) (by omega) fun i h1 h2 => hw i h1 (by omega)
theorem cJ {α:Type} {l:List α} {i:Nat} {x:α} (h:l[i]? =aj6 x):i<(aj3 l):=(v6.1 h).1
theorem Bc.unique (hr:ye F rec ops S X) {done:Nat->Prop} {t:Nat} {k k':lz} (h:Bc S X (aj3 ops) done t k) (h':Bc S X (aj3 ops) done t k'):k=k':=by
 obtain ⟨m,hm,hw,hc,hs⟩:=h;obtain ⟨m',Cr,hw',Ci,we⟩:=h';rcases aiD m m' with h|h
 · have:=hr.y9 h Cr (fun i h1 h2 hW=>by
    have a:=hw i (by omega) hW;have b:=hw' i (by omega) hW;have:=a.1 (b.2 h2);omega) (cJ hs)
   rw [hs,we] at this;exact (acP this).symm
 have:=hr.y9 h hm (fun i h1 h2 hW=>by
  have a:=hw i (by omega) hW;have b:=hw' i (by omega) hW;have:=b.1 (a.2 h2);omega) (cJ we)
 rw [hs,we] at this;exact acP this
theorem ye.RH (hr:ye F rec ops S X) {i t:Nat} (hi:i<aj3 ops) (hd:(ops[i]).dst≠aj6 t):lk t (S (i+1)).env=lk t (S i).env:=by
 have key: ∀(d:Option Nat) (v:PV) (e:Env),d≠aj6 t->lk t (jm d v e)=lk t e:=by
  intro d v e h;cases d with
  |none=>rfl
  |some s=>simp only [jm];rw [rU,ls (fun e=>h (by rw [e]))]
 rcases hr.steps i _ (lw hi) with ⟨_,x,hx,_,hX,hn⟩|⟨_,_,hn⟩
 · rw [hn]
   cases x with
   |loc r=>exact key _ _ _ hd
   |shr v s z=>exact key _ _ _ hd
 rw [hn];exact key _ _ _ hd
theorem ye.Mo (hr : ye F rec ops S X) {m m' t : Nat} (hm : m <= m') (Cr : m' <= (aj3 ops)) (hd : ∀ i (hi : i < (aj3 ops)), m <= i -> i < m' -> (ops[i]).dst ≠ aj6 t) : lk t (S m').env = lk t (S m).env := by
  induction m' with
  | zero => have : m = 0 := by omega
            subst this; rfl
  | succ j ih =>
    rcases abL hm with h | h
    · subst h; rfl
    rw [hr.RH (by omega) (hd j (by omega) (by omega) (by omega))]
    exact ih (by omega) (by omega) fun i hi h1 h2 => hd i hi h1 (by omega)
end
end Go.Vm
/- A region: what holds while aj6 of its operations are done, and that one more keeps it. -/
namespace Go.Vm
def ay (x:bW):List Nat:=(x.op.fH.filterMap fun| .t n=>aj6 n| .c _=>aj7)++(match x.guard with|some (s,_)=>[s]|none=>[])
def vA (ops:Array Oper):Option (Nat×Bool)->Option (Nat×Bool)->Bool
 |none,aj7=>aj8
 |some (s,b),aj6 (j,c)=>b==c&&((ops[j]?).bind (·.dst))==aj6 s
 |_,_=>aj9
def rW (P:Program) (prims:FuncId->Bool) (nt:Nat) (ops:Array Oper) (x:bW) (o:Oper):Bool:=
 x.dst==o.dst&&(match x.dst with|some d=>abZ d nt|none=>aj8)&&vA ops x.guard o.guard&&xy P prims o.type x.op o.op
def rJ (X:Nat->Option XR) (i:Nat):Prop:= ∃v s z,X i=aj6 (.shr v s z)
def iu (X:Nat->Option XR) (i:Nat):Prop:=
 match X i with
 |some (.loc r)=>r.rd≠[]\/r.fr≠[]\/r.wr≠[]\/r.news≠[]
 |some (.shr ..)=>True
 |none=>False
def A (X:Nat->Option XR) (i t:Nat):Prop:=
 match X i with
 |some (.loc r)=>t∈r.rd\/t∈r.fr
 |_=>False
structure Ord (ops:List bW) (S:Nat->St) (X:Nat->Option XR) (xM:Nat->Nat->Prop):Prop where
 EM: ∀(i j t:Nat) (x y:bW),i<j->ops[i]? =aj6 x->ops[j]? =aj6 y->x.dst=aj6 t->(t∈ay y\/y.dst=aj6 t)->xM i j
 RI: ∀(i j t:Nat) (x y:bW),i<j->ops[i]? =aj6 x->ops[j]? =aj6 y->y.dst=aj6 t->t∈ay x->xM i j
 Mp: ∀i j t,i<j->j<aj3 ops->W X i t->(A X j t\/W X j t)->xM i j
 acZ: ∀i j t,i<j->j<aj3 ops->A X i t->W X j t->xM i j
 ac0: ∀i j t,i<j->j<aj3 ops-> ¬rJ X i->(S i).aD.length<=t->t<(S (i+1)).aD.length-> ¬rJ X j->W X j t->xM i j
 JL: ∀i j,i<j->j<aj3 ops->(rJ X i/\iu X j\/iu X i/\rJ X j)->xM i j
 cl: ∀i t,i<aj3 ops-> ¬rJ X i->(A X i t\/W X i t)->t<(S i).aD.length\/ ∀c,i<c->c<aj3 ops->xM i c
structure Inv (ops:List bW) (S:Nat->St) (X:Nat->Option XR) (im0:Im) (loc0:Loc) (w0:World) (nt:Nat) (done:Nat->Prop) (im:Im) (loc:Loc) (a:Act) (w:World):Prop where
 tm: ∀t,∃m,m<=aj3 ops/\(∀i x,ops[i]? =aj6 x->x.dst=aj6 t->(done i↔i<m))/\VR im loc (lk t (S m).env) (a.tmps.getD t Go.undef)
 bQ: ∀b o,im b=aj6 o->w.heap[b]? =aj6 o
 tok: ∀t li,loc t=aj6 li-> ∃k,Bc S X (aj3 ops) done t k/\BR im loc w li k
 jV: ∀t u li lj k k',loc t=aj6 li->loc u=aj6 lj->Bc S X (aj3 ops) done t k->Bc S X (aj3 ops) done u k'->k.bT=aj8->k'.bT=aj8->li.eh=lj.eh->t=u
 free: ∀t li k,loc t=aj6 li->Bc S X (aj3 ops) done t k->k.bT=aj8->t∉(S 0).fz->(∀i,i<aj3 ops->done i-> ¬FR X i t)->im li.eh=aj7
 fresh: ∀i,i<aj3 ops-> ¬done i-> ∀t,(S i).aD.length<=t->t<(S (i+1)).aD.length->loc t=aj7
 iw:oj im0 im
 eF:mN loc0 loc
 os:w.os=w0.os
 tape:Tape w0 w
 output:w.output=w0.output
 size:w0.heap.size<=w.heap.size
 frame: ∀b,b<w0.heap.size->(∀t li k,loc0 t=aj6 li->(S 0).aD[t]? =aj6 k->k.bT=aj8->li.eh≠b)->w.heap[b]? =w0.heap[b]?
 eQ: ∀b o,im b=aj6 o->im0 b=aj6 o\/w0.heap.size<=b\/ ∃t li k,loc0 t=aj6 li/\(S 0).aD[t]? =aj6 k/\k.bT=aj8/\li.eh=b
 oZ: ∀t li,loc t=aj6 li->loc0 t=aj6 li\/(S 0).aD.length<=t
 own: ∀t li k,loc t=aj6 li->Bc S X (aj3 ops) done t k->k.bT=aj8->(w0.heap.size<=li.eh\/ ∃u lu ku,loc0 u=aj6 lu/\(S 0).aD[u]? =aj6 ku/\ku.bT=aj8/\lu.eh=li.eh)
 defers:a.defers=[]
 L1:a.tmps.size=nt
def plus (done:Nat->Prop) (i:Nat):Nat->Prop:=fun j=>done j\/j=i
section
variable {F : mY} {rec : Task -> Option Out} {ops : List bW} {S : Nat -> St} {X : Nat -> Option XR} {xM : Nat -> Nat -> Prop} {im0 : Im} {loc0 : Loc} {w0 : World} {nt : Nat}
  {done : Nat -> Prop} {im : Im} {loc : Loc} {a : Act} {w : World} {i : Nat}
structure Place (ops:List bW) (xM:Nat->Nat->Prop) (done:Nat->Prop) (i:Nat):Prop where
 lt:i<aj3 ops
 nd: ¬done i
 pre: ∀j,j<aj3 ops->xM j i->done j
 fh: ∀k,k<aj3 ops->done k-> ∀j,j<aj3 ops->xM j k->done j
theorem Place.yf (hp:Place ops xM done i) {k:Nat} (hk:k<aj3 ops) (h:xM i k): ¬done k:=fun hd=>hp.nd (hp.fh k hk hd i hp.lt h)
theorem Inv.slot (hr:ye F rec ops S X) (ho:Ord ops S X xM) (hv:Inv ops S X im0 loc0 w0 nt done im loc a w) (hp:Place ops xM done i) {x:bW} (hx:ops[i]? =aj6 x) {t:Nat} (ht:t∈ay x):
 VR im loc (lk t (S i).env) (a.tmps.getD t Go.undef):=by
 obtain ⟨m,hm,hd,oY⟩:=hv.tm t;have hwr: ∀j y,ops[j]? =aj6 y->y.dst=aj6 t->(done j↔j<i):=by
  intro j y hy N9;rcases PP j i with h|h|h
  · exact ⟨fun _=>h,fun _=>hp.pre j (cJ hy) (ho.EM j i t y x h hy hx N9 (.inl ht))⟩
  · subst h;exact ⟨fun hd=>absurd hd hp.nd,fun h=>by omega⟩
  exact ⟨fun Ke=>absurd Ke (hp.yf (cJ hy) (ho.RI i j t x y h hx hy N9 ht)),fun h'=>by omega⟩
 have same:lk t (S i).env=lk t (S m).env:=by
  rcases aiD m i with h|h
  · refine hr.Mo h (acg hp.lt) fun j hj h1 h2 tD=>?_
    have a1:=hd j _ (lw hj) tD;have a2:=hwr j _ (lw hj) tD;have:=a1.1 (a2.2 h2);omega
  refine (hr.Mo h hm fun j hj h1 h2 tD=>?_).symm
  have a1:=hd j _ (lw hj) tD;have a2:=hwr j _ (lw hj) tD;have:=a2.1 (a1.2 h2);omega
 rw [same];exact oY
theorem Inv.cur (hr:ye F rec ops S X) (ho:Ord ops S X xM) (hv:Inv ops S X im0 loc0 w0 nt done im loc a w) (hp:Place ops xM done i) {t:Nat} {li:LI} (hl:loc t=aj6 li)
 (ht:(A X i t\/W X i t)) {k:lz} (hc:Bc S X (aj3 ops) done t k):(S i).aD[t]? =aj6 k:=by
 obtain ⟨m,hm,hw,hcr,hs⟩:=hc;have dd:t<(S i).aD.length:=by
  rcases UV t (S i).aD.length with h|h
  · exact h
  exfalso
  have hmi:i<m:=by
   rcases UV i m with h'|h'
   · exact h'
   have:=hr.iR h' (acg hp.lt);have:=cJ hs;omega
  have: ∃c,i<=c/\c<m/\(S c).aD.length<=t/\t<(S (c+1)).aD.length:=by
   have hex: ∀d,i+d<=m->t<(S (i+d)).aD.length-> ∃c,i<=c/\c<i+d/\(S c).aD.length<=t/\t<(S (c+1)).aD.length:=by
    intro d
    induction d with
    |zero=>intro _ h2;exact absurd h2 (by simpa using h)
    |succ d ih=>
     intro h1 h2;rcases UV t (S (i+d)).aD.length with h3|h3
     · obtain ⟨c,c1,c2,c3,c4⟩:=ih (by omega) h3
       exact ⟨c,c1,by omega,c3,c4⟩
     exact ⟨i+d,by omega,by omega,h3,h2⟩
   obtain ⟨c,c1,c2,c3,c4⟩:=hex (m-i) (by omega) (by rw [show i+(m-i)=m by omega];exact cJ hs);exact ⟨c,c1,by omega,c3,c4⟩
  obtain ⟨c,c1,c2,c3,c4⟩:=this;have hcn:c<(aj3 ops):=by omega
  have aoP: ¬done c:=by
   intro hdc;rcases abL c1 with e|e
   · subst e;exact hp.nd hdc
   by_cases hsh:rJ X i
   · refine hp.yf hcn (ho.JL i c e hcn (.inl ⟨hsh,?_⟩)) hdc
     rcases hr.steps c _ (lw hcn) with ⟨_,x,hx,_,hX,hn⟩|⟨_,_,hn⟩
     · unfold iu;rw [hX]
       cases x with
       |loc r=>refine .inr (.inr (.inr fun GS=>?_));rw [hn] at c4;simp [XR.next,rS,fY,GS] at c4;omega
       |shr v s z=>trivial
     rw [hn] at c4;simp at c4;omega
   rcases ho.cl i t hp.lt hsh ht with h'|h'
   · omega
   exact hp.yf hcn (h' c e hcn) hdc
  have:=hv.fresh c hcn aoP t c3 c4;rw [hl] at this;cases this
 have hwr: ∀j,j<aj3 ops->W X j t->(done j↔j<i):=by
  intro j hj hW;rcases PP j i with h|h|h
  · exact ⟨fun _=>h,fun _=>hp.pre j hj (ho.Mp j i t h hp.lt hW ht)⟩
  · subst h;exact ⟨fun hd=>absurd hd hp.nd,fun h=>by omega⟩
  refine ⟨fun Ke=>absurd Ke (hp.yf hj ?_),fun h'=>by omega⟩
  rcases ht with ht|ht
  · exact ho.acZ i j t h hj ht hW
  exact ho.Mp i j t h hj ht (.inr hW)
 rcases aiD m i with h|h
 · rw [hr.y9 h (acg hp.lt) (fun j h1 h2 hW=>by
    have a1:=hw j (by have:=hp.lt;omega) hW;have a2:=hwr j (by have:=hp.lt;omega) hW;have:=a1.1 (a2.2 h2);omega) (cJ hs)]
   exact hs
 rw [<- hr.y9 h hm (fun j h1 h2 hW=>by
  have a1:=hw j (by omega) hW;have a2:=hwr j (by omega) hW;have:=a2.1 (a1.2 h2);omega) dd]
 exact hs
end
end Go.Vm
/- A region: one more operation keeps what holds. -/
namespace Go.Vm
theorem BR.akg {im eO:Im} {loc bu:Loc} {w w':World} {li:LI} {k:lz} (h:BR im loc w li k) (hi:oj im eO) (hl:mN loc bu)
 (hw:k.bT=aj8->w'.heap[li.eh]? =w.heap[li.eh]?):BR eO bu w' li k:=by
 cases hs:k.bT with
 |true=>exact h.mono hi hl (hw hs)
 |false=>
  cases k with
  |arr e rows=>
   cases rows with
   |nil=>exact ⟨h.1,h.2.1,fun dK=>absurd rfl dK⟩
   |cons _ _=>cases hs
  |box _=>cases hs
  |map _=>cases hs
  |dead=>trivial
section
variable {F : mY} {rec : Task -> Option Out} {ops : List bW} {S : Nat -> St} {X : Nat -> Option XR} {xM : Nat -> Nat -> Prop} {im0 : Im} {loc0 : Loc} {w0 : World} {nt : Nat}
  {done : Nat -> Prop} {im : Im} {loc : Loc} {a : Act} {w : World} {i : Nat}
theorem ye.akh (hr:ye F rec ops S X) {j:Nat} (hj:j<aj3 ops): ∀t,t∈(S j).fz->t∈(S (j+1)).fz:=by
 intro t ht;rcases hr.steps j _ (lw hj) with ⟨_,x,hx,_,_,hn⟩|⟨_,_,hn⟩
 · rw [hn]
   cases x with
   |loc r=>simp only [XR.next];exact acV _ ht
   |shr v s z=>exact (N8 hx).2 t ht
 rw [hn];exact ht
theorem ye.D4 (hr : ye F rec ops S X) {m m' : Nat} (h : m <= m') (hm : m' <= (aj3 ops)) : ∀ t, t ∈ (S m).fz -> t ∈ (S m').fz := by
  induction m' with
  | zero => have : m = 0 := by omega
            subst this; exact fun _ h => h
  | succ j ih =>
    rcases abL h with e | e
    · subst e; exact fun _ h => h
    exact fun t ht => hr.akh (by omega) t (ih (by omega) (by omega) t ht)
theorem ye.ab2 (hr:ye F rec ops S X) {j:Nat} (hj:j<aj3 ops) {t:Nat} (h:FR X j t):t∈(S (j+1)).fz:=by
 rcases hr.steps j _ (lw hj) with ⟨_,x,hx,_,hX,hn⟩|⟨_,hX,_⟩
 · rw [hn]
   unfold FR at h;rw [hX] at h;cases x with
   |loc r=>exact adc _ h
   |shr v s z=>exact h
 unfold FR at h;rw [hX] at h;exact h.elim
theorem aki {j t:Nat} (h:FR X j t):A X j t\/W X j t:=by
 unfold FR at h;unfold A W;cases hX:X j with
 |none=>rw [hX] at h;exact h.elim
 |some x=>
  rw [hX] at h;cases x with
  |loc r=>exact .inl (.inr h)
  |shr v s z=>exact .inr trivial
theorem Inv.EN (hr:ye F rec ops S X) (ho:Ord ops S X xM) (hp:Place ops xM done i) {t:Nat} (hW:W X i t) (hz:t∉(S i).fz):
 t∉(S 0).fz/\ ∀j,j<aj3 ops->done j-> ¬FR X j t:=by
 refine ⟨fun h=>hz (hr.D4 (abI _) (acg hp.lt) t h),fun j hj hd hf=>?_⟩;rcases PP j i with h|h|h
 · exact hz (hr.D4 h (acg hp.lt) t (hr.ab2 hj hf))
 · subst h;exact hp.nd hd
 exact hp.yf hj (ho.Mp i j t h hj hW (aki hf)) hd
theorem Inv.known (hr:ye F rec ops S X) (ho:Ord ops S X xM) (hv:Inv ops S X im0 loc0 w0 nt done im loc a w) (hp:Place ops xM done i) {r:od} (hX:X i=aj6 (.loc r)) (Ac:(XR.loc r).ok (S i).fz=aj8)
 (hn:(S (i+1)).aD.length=(S i).aD.length+aj3 r.news):jS im loc (S i).aD w r where
 bQ:=hv.bQ
 tok:=fun t ht li hl=>by
  obtain ⟨k,hc,uK⟩:=hv.tok t li hl;refine ⟨k,hv.cur hr ho hp hl ?_ hc,uK⟩;rcases ht with ht|ht
  · exact .inl (by unfold A;rw [hX];exact .inl ht)
  exact .inr (by unfold W;rw [hX];exact ht)
 free:=fun t k hm li k' hl hs mD=>by
  have hW:W X i t:=by unfold W;rw [hX];exact ⟨k,hm⟩
  simp only [XR.ok,rc,abK,NE] at Ac;have hz:t∉(S i).fz:=kr.1 (Ac.1 (t,k) hm);obtain ⟨h0,h1⟩:=Inv.EN hr ho hp hW hz;obtain ⟨k2,hc,_⟩:=hv.tok t li hl;have:=hv.cur hr ho hp hl (.inr hW) hc;rw [hs] at this;injection this with this;subst this;exact hv.free t li k' hl hc mD h0 h1
 fresh:=fun j hj=>hv.fresh i hp.lt hp.nd _ (by omega) (by omega)
 jV:=fun t u li lj k k' ht hu hl mS hs we mD Hc hb=>by
  have aw: ∀t,(t∈r.rd\/ ∃b,(t,b)∈r.wr)->A X i t\/W X i t:=fun t h=>by
   rcases h with h|h
   · exact .inl (by unfold A;rw [hX];exact .inl h)
   exact .inr (by unfold W;rw [hX];exact h)
  obtain ⟨k1,AY,_⟩:=hv.tok t li hl;obtain ⟨k2,Cl,_⟩:=hv.tok u lj mS;have e1:=hv.cur hr ho hp hl (aw t ht) AY;have e2:=hv.cur hr ho hp mS (aw u hu) Cl;rw [hs] at e1;injection e1 with e1;subst e1;rw [we] at e2;injection e2 with e2;subst e2;exact hv.jV t u li lj _ _ hl mS AY Cl mD Hc hb
theorem Inv.Bd (hr:ye F rec ops S X) (ho:Ord ops S X xM) (hv:Inv ops S X im0 loc0 w0 nt done im loc a w) (hp:Place ops xM done i) {x:bW} (hx:ops[i]? =aj6 x) {r:od} (hX:X i=aj6 (.loc r))
 (Ac:(XR.loc r).ok (S i).fz=aj8) (hS:S (i+1)=(XR.loc r).next x.dst (S i)) {v':Value} {eO:Im} {bu:Loc} {w':World} (oY:VR eO bu r.v v') (he:tN im loc (S i).aD w r eO bu w')
 (tD: ∀d,x.dst=aj6 d->d<nt):Inv ops S X im0 loc0 w0 nt (plus done i) eO bu (a.put x.dst v') w':=by
 have dd:(S (i+1)).aD.length=(S i).aD.length+(aj3 r.news):=by rw [hS];simp [XR.next,rS,fY]
 have rq:=hp.lt;have A6:wa r.wr=aj8:=by simp only [XR.ok,rc] at Ac;exact Ac.2
 have qz:(S (i+1)).aD=gH r.wr (S i).aD++r.news:=by rw [hS];exact rS _ _
 have akj: ∀t k,(t,k)∈r.wr->t<(S i).aD.length->(S (i+1)).aD[t]? =aj6 k:=by intro t k hm dW;rw [qz,ww (by rw [fY];exact dW)];exact EL _ _ A6 hm dW
 have ac1: ∀j k,r.news[j]? =aj6 k->(S (i+1)).aD[(S i).aD.length+j]? =aj6 k:=by intro j k hj;rw [qz,If (by rw [fY];omega),fY,show (S i).aD.length+j- (S i).aD.length=j by omega];exact hj
 have wlt: ∀t li,loc t=aj6 li->W X i t->t<(S i).aD.length:=by intro t li hl hW;obtain ⟨k,hc,_⟩:=hv.tok t li hl;exact cJ (hv.cur hr ho hp hl (.inr hW) hc)
 have IA: ∀t k li,(t,k)∈r.wr->loc t=aj6 li->Bc S X (aj3 ops) (plus done i) t k:=by
  intro t k li hm hl;have hW:W X i t:=by unfold W;rw [hX];exact ⟨k,hm⟩
  have dW:=wlt t li hl hW;refine ⟨i+1,rq,fun j hj Oa=>?_,fun c hc h1 h2=>?_,akj t k hm dW⟩
  · rcases PP j i with h|h|h
    · exact ⟨fun _=>by omega,fun _=> .inl (hp.pre j hj (ho.Mp j i t h rq Oa (.inr hW)))⟩
    · subst h;exact ⟨fun _=>by omega,fun _=> .inr rfl⟩
    refine ⟨fun hd=>?_,fun h'=>by omega⟩
    rcases hd with hd|hd
    · exact absurd hd (hp.yf hj (ho.Mp i j t h hj hW (.inr Oa)))
    omega
  rcases UV c (i+1) with h|h
  · exact h
  have:=hr.iR (show i<=c by omega) (by omega);omega
 have za: ∀j k,r.news[j]? =aj6 k->Bc S X (aj3 ops) (plus done i) ((S i).aD.length+j) k:=by
  intro j k hj;have Mb:=cJ hj;refine ⟨i+1,rq,fun q hq hWq=>?_,fun c hc h1 h2=>?_,ac1 j k hj⟩
  · rcases PP q i with h|h|h
    · refine ⟨fun _=>by omega,fun _=> .inl ?_⟩
      by_cases hs:rJ X q
      ·
       refine hp.pre q hq (ho.JL q i h rq (.inl ⟨hs,?_⟩));unfold iu;rw [hX];exact .inr (.inr (.inr (by intro e;rw [e] at hj;simp at hj)))
      rcases ho.cl q _ hq hs (.inr hWq) with h'|h'
      · have:=hr.iR (show q<=i by omega) (by omega);omega
      exact hp.pre q hq (h' i h rq)
    · subst h;exact ⟨fun _=>by omega,fun _=> .inr rfl⟩
    refine ⟨fun hd=>?_,fun h'=>by omega⟩
    rcases hd with hd|hd
    · exfalso
      by_cases hs:rJ X q
      · refine hp.yf hq (ho.JL i q h hq (.inr ⟨?_,hs⟩)) hd
        unfold iu;rw [hX];exact .inr (.inr (.inr (by intro e;rw [e] at hj;simp at hj)))
      exact hp.yf hq (ho.ac0 i q _ h hq (by rintro ⟨v,s,z,e⟩;rw [hX] at e;cases e) (by omega) (by omega) hs hWq) hd
    omega
  rcases UV c (i+1) with h|h
  · exact h
  have:=hr.iR (show i+1<=c by omega) (by omega);omega
 have Ob: ∀t k,¬W X i t->Bc S X (aj3 ops) done t k->Bc S X (aj3 ops) (plus done i) t k:=by
  intro t k hW hc;obtain ⟨m,hm,h1,h2,h3⟩:=hc;refine ⟨m,hm,fun j hj Oa=>?_,h2,h3⟩;have dK:j≠i:=fun e=>hW (e▸Oa)
  have:=h1 j hj Oa;exact ⟨fun hd=>this.1 (hd.resolve_right dK),fun h=> .inl (this.2 h)⟩
 have anu: ¬rJ X i:=by rintro ⟨v,s,z,e⟩;rw [hX] at e;cases e
 have zb: ∀t li,bu t=aj6 li->(∃j k,t=(S i).aD.length+j/\r.news[j]? =aj6 k/\loc t=aj7)\/loc t=aj6 li:=by
  intro t li hl;rcases he.lL t li hl with h|⟨h1,h2⟩
  · exact .inr h
  refine .inl ⟨t- (S i).aD.length,r.news[t- (S i).aD.length],by omega,lw (by omega),?_⟩
  exact hv.fresh i rq hp.nd t h1 (by omega)
 have old: ∀t li k,loc t=aj6 li->Bc S X (aj3 ops) (plus done i) t k->k.bT=aj8-> ∃k0,Bc S X (aj3 ops) done t k0/\k0.bT=aj8/\BR im loc w li k0/\(¬W X i t->k0=k)/\(W X i t->(t,k)∈r.wr):=by
  intro t li k hl hc hs;obtain ⟨k0,GJ,uK⟩:=hv.tok t li hl
  by_cases hW:W X i t
  · have PR:=hW
    unfold W at PR;rw [hX] at PR;obtain ⟨k2,hm⟩:=PR;have e:=(IA t k2 li hm hl).unique hr hc;subst e;obtain ⟨k3,h3,h4⟩:=he.Py t k2 hm hs;have:=hv.cur hr ho hp hl (.inr hW) GJ;rw [h3] at this;injection this with this;subst this;exact ⟨k3,GJ,h4,uK,fun h=>absurd hW h,fun _=>hm⟩
  have e:=(Ob t k0 hW GJ).unique hr hc
  subst e;exact ⟨k0,GJ,hs,uK,fun _=>rfl,fun h=>absurd h hW⟩
 have IB: ∀t k li k0,(t,k)∈r.wr->loc t=aj6 li->(S i).aD[t]? =aj6 k0->Bc S X (aj3 ops) done t k0:=by intro t k li k0 hm hl hs;obtain ⟨k1,AY,_⟩:=hv.tok t li hl;have:=hv.cur hr ho hp hl (.inr (by unfold W;rw [hX];exact ⟨k,hm⟩)) AY;rw [hs] at this;injection this with this;subst this;exact AY
 have RJ: ∀t li k0,t∈r.fr->loc t=aj6 li->(S i).aD[t]? =aj6 k0->Bc S X (aj3 ops) done t k0:=by intro t li k0 hm hl hs;obtain ⟨k1,AY,_⟩:=hv.tok t li hl;have:=hv.cur hr ho hp hl (.inl (by unfold A;rw [hX];exact .inr hm)) AY;rw [hs] at this;injection this with this;subst this;exact AY
 refine {
  tm:=fun t=>?_
  bQ:=he.bQ
  tok:=fun t li hl=>?_
  jV:=fun t u li lj k k' hl mS hc Ci hs we hb=>?_
  free:=fun t li k hl hc hs h0 hf=>?_
  fresh:=fun j hj GI t h1 h2=>?_
  iw:=hv.iw.trans he.iw
  eF:=hv.eF.trans he.eF
  os:=he.os.trans hv.os
  tape:=he.tape.trans hv.tape
  output:=he.output.trans hv.output
  size:=aa4 hv.size he.size
  frame:=fun b hb hh=>?_
  eQ:=fun b o hb=>?_
  oZ:=fun t li hl=>?_
  own:=fun t li k hl hc hs=>?_
  defers:=by cases hd:x.dst<;>simp [Act.put,hv.defers]
  L1:=by cases hd:x.dst<;>simp [Act.put,hv.L1]}
 ·
  by_cases hd:x.dst=aj6 t
  · refine ⟨i+1,rq,fun j y hy N9=>?_,?_⟩
    · rcases PP j i with h|h|h
      · exact ⟨fun _=>by omega,fun _=> .inl (hp.pre j (cJ hy) (ho.EM j i t y x h hy hx N9 (.inr hd)))⟩
      · subst h;exact ⟨fun _=>by omega,fun _=> .inr rfl⟩
      refine ⟨fun Ke=>?_,fun h'=>by omega⟩
      rcases Ke with Ke|Ke
      · exact absurd Ke (hp.yf (cJ hy) (ho.EM i j t x y h hx hy hd (.inr N9)))
      omega
    rw [hS]
    simp only [XR.next,hd,jm,rU,if_true,Act.put];have:=tD t hd;simp [hv.L1,this,oY]
  obtain ⟨m,hm,h1,h2⟩:=hv.tm t
  refine ⟨m,hm,fun j y hy N9=>?_,?_⟩
  · have dK:j≠i:=by intro e;subst e;rw [hx] at hy;injection hy with hy;subst hy;exact hd N9
    have:=h1 j y hy N9;exact ⟨fun Ke=>this.1 (Ke.resolve_right dK),fun h=> .inl (this.2 h)⟩
  have:=h2.mono he.iw he.eF
  cases hxd:x.dst with
  |none=>simpa [Act.put] using this
  |some d=>
   have dK:d≠t:=fun e=>hd (by rw [hxd,e])
   simpa [Act.put,ab0,dK] using this
 ·
  rcases zb t li hl with ⟨j,k,rfl,hj,_⟩|PK
  · obtain ⟨h2,_⟩:=he.news j k li hj hl
    exact ⟨k,za j k hj,h2⟩
  obtain ⟨k0,GJ,uK⟩:=hv.tok t li PK
  by_cases hW:W X i t
  · have PR:=hW
    unfold W at PR;rw [hX] at PR;obtain ⟨k2,hm⟩:=PR;exact ⟨k2,IA t k2 li hm PK,he.wr t k2 li hm PK⟩
  refine ⟨k0,Ob t k0 hW GJ,uK.akg he.iw he.eF fun hs=>?_⟩
  refine he.frame _ (uK.lt hs) fun t2 k2 l2 k3 hm JW hs3 mD Q8=>?_
  have:=hv.jV t2 t l2 li k3 k0 JW PK (IB t2 k2 l2 k3 hm JW hs3) GJ mD hs Q8;subst this;exact hW (by unfold W;rw [hX];exact ⟨k2,hm⟩)
 ·
  have RK: ∀t u li lj k k',(∃j k,t=(S i).aD.length+j/\r.news[j]? =aj6 k/\loc t=aj7)->loc u=aj6 lj->bu t=aj6 li->Bc S X (aj3 ops) (plus done i) t k->Bc S X (aj3 ops) (plus done i) u k'->
   k.bT=aj8->k'.bT=aj8->li.eh=lj.eh->False:=by
   intro t u li lj k k' hj hlu hl hc Ci hs we hb;obtain ⟨j,k1,rfl,hj,_⟩:=hj;have e:=(za j k1 hj).unique hr hc;subst e;obtain ⟨h2,h3⟩:=he.news j k1 li hj hl;obtain ⟨k0,GJ,Oc,ac2,hk0,hw0⟩:=old u lj k' hlu Ci we;have dW:=ac2.lt Oc;rcases (h3 hs).2 with h|⟨td,lt,kd,hm,hld,hsd,RM,hbd⟩
   · omega
   have:=hv.jV td u lt lj kd k0 hld hlu (IB td _ lt kd hm hld hsd) GJ RM Oc (by rw [hbd,hb])
   subst this;have Mj:=hw0 (by unfold W;rw [hX];exact ⟨_,hm⟩);have e2:=(IA td _ lj hm hlu).unique hr (IA td _ lj Mj hlu);subst e2;cases we
  rcases zb t li hl with h1|h1
  · rcases zb u lj mS with h2|h2
    · obtain ⟨j1,k1,rfl,hj1,_⟩:=h1
      obtain ⟨j2,k2,rfl,hj2,_⟩:=h2;have e1:=(za j1 k1 hj1).unique hr hc;have e2:=(za j2 k2 hj2).unique hr Ci;subst e1 e2;rw [he.distinct j1 j2 k1 k2 li lj hj1 hj2 hs we hl mS hb]
    exact (RK t u li lj k k' h1 h2 hl hc Ci hs we hb).elim
  rcases zb u lj mS with h2|h2
  · exact (RK u t lj li k' k h2 h1 mS Ci hc we hs hb.symm).elim
  obtain ⟨k0,GJ,Oc,_⟩:=old t li k h1 hc hs
  obtain ⟨k1,AY,hs1,_⟩:=old u lj k' h2 Ci we;exact hv.jV t u li lj k0 k1 h1 h2 GJ AY Oc hs1 hb
 ·
  rcases zb t li hl with ⟨j,k1,rfl,hj,_⟩|PK
  · have e:=(za j k1 hj).unique hr hc
    subst e;obtain ⟨h2,h3⟩:=he.news j k1 li hj hl;exact (h3 hs).1
  obtain ⟨k0,GJ,Oc,ac2,_,_⟩:=old t li k PK hc hs
  have hn:=hv.free t li k0 PK GJ Oc h0 (fun j hj hd=>hf j hj (.inl hd));cases hb:eO li.eh with
  |none=>rfl
  |some o=>
   rcases he.eQ _ _ hb with h|h|⟨t2,l2,k2,h1,h2,h3,h4,h5⟩
   · rw [hn] at h;cases h
   · have:=ac2.lt Oc;omega
   have hm:=pV.1 h1
   have:=hv.jV t2 t l2 li k2 k0 h2 PK (RJ t2 l2 k2 hm h2 h3) GJ h4 Oc h5;subst this;exact absurd (by unfold FR;rw [hX];exact hm) (hf i rq (.inr rfl))
 ·
  have Va:j≠i:=fun e=>GI (.inr e)
  have ac3: ¬done j:=fun h=>GI (.inl h)
  cases hl:bu t with
  |none=>rfl
  |some li=>
   exfalso;rcases he.lL t li hl with h|⟨h3,h4⟩
   · rw [hv.fresh j hj ac3 t h1 h2] at h;cases h
   rcases aiA Va with h|h
   · have:=hr.iR (show j+1<=i by omega) (by omega);omega
   have:=hr.iR (show i+1<=j by omega) (by omega);omega
 ·
  have RN:b<w.heap.size:=abS hb hv.size;rw [he.frame b RN (fun t k li k0 hm hl hs mD Q8=>?_)]
  · exact hv.frame b hb hh
  rcases hv.own t li k0 hl (IB t k li k0 hm hl hs) mD with h|⟨u,lu,ku,h1,h2,h3,h4⟩
  · omega
  exact hh u lu ku h1 h2 h3 (by omega)
 · rcases he.eQ b o hb with h|h|⟨t,li,k,h1,h2,h3,h4,h5⟩
   · exact hv.eQ b o h
   · exact .inr (.inl (aa4 hv.size h))
   rcases hv.own t li k h2 (RJ t li k (pV.1 h1) h2 h3) h4 with h|⟨u,lu,ku,g1,g2,g3,g4⟩
   · exact .inr (.inl (by omega))
   exact .inr (.inr ⟨u,lu,ku,g1,g2,g3,by omega⟩)
 · rcases he.lL t li hl with h|⟨h,_⟩
   · exact hv.oZ t li h
   exact .inr (aa4 (hr.iR (abI _) (by omega)) h)
 rcases zb t li hl with ⟨j,k1,rfl,hj,_⟩|PK
 · have e:=(za j k1 hj).unique hr hc
   subst e;obtain ⟨h2,h3⟩:=he.news j k1 li hj hl;rcases (h3 hs).2 with h|⟨td,lt,kd,hm,hld,hsd,RM,hbd⟩
   · exact .inl (aa4 hv.size h)
   rcases hv.own td lt kd hld (IB td _ lt kd hm hld hsd) RM with h|⟨u,lu,ku,g1,g2,g3,g4⟩
   · exact .inl (by omega)
   exact .inr ⟨u,lu,ku,g1,g2,g3,by omega⟩
 obtain ⟨k0,GJ,Oc,_⟩:=old t li k PK hc hs
 exact hv.own t li k0 PK GJ Oc
end
end Go.Vm
/- A region: a call that works on the blocks themselves, and a skipped operation. -/
namespace Go.Vm
section
variable {F : mY} {rec : Task -> Option Out} {ops : List bW} {S : Nat -> St} {X : Nat -> Option XR} {xM : Nat -> Nat -> Prop} {im0 : Im} {loc0 : Loc} {w0 : World} {nt : Nat}
  {done : Nat -> Prop} {im : Im} {loc : Loc} {a : Act} {w : World} {i : Nat}
theorem Hd {v:PV} {s:cI} {z:List Nat} (hX:X i=aj6 (.shr v s z)) (t:Nat):W X i t:=by unfold W;rw [hX];trivial
theorem wm {j t:Nat} (h:W X j t):iu X j:=by
 unfold W at h;unfold iu;cases hX:X j with
 |none=>rw [hX] at h;exact h.elim
 |some x=>
  rw [hX] at h;cases x with
  |loc r=>obtain ⟨k,hk⟩:=h;exact .inr (.inr (.inl (by intro e;rw [e] at hk;cases hk)))
  |shr v s z=>trivial
theorem Inv.sr (hr:ye F rec ops S X) (ho:Ord ops S X xM) (hv:Inv ops S X im0 loc0 w0 nt done im loc a w) (hp:Place ops xM done i) {v:PV} {s:cI} {z:List Nat} (hX:X i=aj6 (.shr v s z)):
 SR im loc (S i).aD (S i).fz w where
 bQ:=hv.bQ
 eh:=fun t li hl=>by obtain ⟨k,hc,hb⟩:=hv.tok t li hl;exact ⟨k,hv.cur hr ho hp hl (.inr (Hd hX t)) hc,hb⟩
 jV:=fun t u li lj k k' hl mS hs we h h' hb=>by obtain ⟨k1,AY,_⟩:=hv.tok t li hl;obtain ⟨k2,Cl,_⟩:=hv.tok u lj mS;have e1:=hv.cur hr ho hp hl (.inr (Hd hX t)) AY;have e2:=hv.cur hr ho hp mS (.inr (Hd hX u)) Cl;rw [hs] at e1;injection e1 with e1;subst e1;rw [we] at e2;injection e2 with e2;subst e2;exact hv.jV t u li lj _ _ hl mS AY Cl h h' hb
 free:=fun t li k hl hs h hz=>by obtain ⟨k1,AY,_⟩:=hv.tok t li hl;have e1:=hv.cur hr ho hp hl (.inr (Hd hX t)) AY;rw [hs] at e1;injection e1 with e1;subst e1;obtain ⟨h0,h1⟩:=Inv.EN hr ho hp (Hd hX t) (kr.1 hz);exact hv.free t li _ hl AY h h0 h1
theorem Inv.RO {S:Nat->St} (ho:Ord ops S X xM) (hp:Place ops xM done i) {x:bW} (hx:ops[i]? =aj6 x) {v:PV} {v':Value} {eO:Im} {bu:Loc}
 (hv:Inv ops S X im0 loc0 w0 nt done im loc a w) (hi:oj im eO) (hl:mN loc bu) (hS:(S (i+1)).env=jm x.dst v (S i).env) (oY:VR eO bu v v') (tD: ∀d,x.dst=aj6 d->d<nt):
 ∀t,∃m,m<=aj3 ops/\(∀j y,ops[j]? =aj6 y->y.dst=aj6 t->(plus done i j↔j<m))/\VR eO bu (lk t (S m).env) ((a.put x.dst v').tmps.getD t Go.undef):=by
 intro t;have rq:=hp.lt
 by_cases hd:x.dst=aj6 t
 · refine ⟨i+1,rq,fun j y hy N9=>?_,?_⟩
   · rcases PP j i with h|h|h
     · exact ⟨fun _=>by omega,fun _=> .inl (hp.pre j (cJ hy) (ho.EM j i t y x h hy hx N9 (.inr hd)))⟩
     · subst h;exact ⟨fun _=>by omega,fun _=> .inr rfl⟩
     refine ⟨fun Ke=>?_,fun h'=>by omega⟩
     rcases Ke with Ke|Ke
     · exact absurd Ke (hp.yf (cJ hy) (ho.EM i j t x y h hx hy hd (.inr N9)))
     omega
   rw [hS]
   simp only [hd,jm,rU,if_true,Act.put];have:=tD t hd;simp [hv.L1,this,oY]
 obtain ⟨m,hm,h1,h2⟩:=hv.tm t
 refine ⟨m,hm,fun j y hy N9=>?_,?_⟩
 · have dK:j≠i:=by intro e;subst e;rw [hx] at hy;injection hy with hy;subst hy;exact hd N9
   have:=h1 j y hy N9;exact ⟨fun Ke=>this.1 (Ke.resolve_right dK),fun h=> .inl (this.2 h)⟩
 have:=h2.mono hi hl
 cases hxd:x.dst with
 |none=>simpa [Act.put] using this
 |some d=>
  have dK:d≠t:=fun e=>hd (by rw [hxd,e])
  simpa [Act.put,ab0,dK] using this
theorem put_defers (a:Act) (d:Option Nat) (v:Value):(a.put d v).defers=a.defers:=by cases d<;>rfl
theorem Kf (a:Act) (d:Option Nat) (v:Value):(a.put d v).tmps.size=a.tmps.size:=by cases d<;>simp [Act.put]
theorem Inv.RP (hr:ye F rec ops S X) (ho:Ord ops S X xM) (hv:Inv ops S X im0 loc0 w0 nt done im loc a w) (hp:Place ops xM done i) {x:bW} (hx:ops[i]? =aj6 x) {v:PV} {s:cI} {z:List Nat}
 (hX:X i=aj6 (.shr v s z)) (hS:S (i+1)=(XR.shr v s z).next x.dst (S i)) {v':Value} {eO:Im} {bu:Loc} {w':World} (hf:yb im loc (S i).aD w v s z eO bu w' v')
 (tD: ∀d,x.dst=aj6 d->d<nt):Inv ops S X im0 loc0 w0 nt (plus done i) eO bu (a.put x.dst v') w':=by
 have rq:=hp.lt;have qz:(S (i+1)).aD=s:=by rw [hS];rfl
 have ac4: ∀t li,loc t=aj6 li-> ∀k,(S i).aD[t]? =aj6 k->Bc S X (aj3 ops) done t k:=by intro t li hl k hs;obtain ⟨k1,AY,_⟩:=hv.tok t li hl;have e1:=hv.cur hr ho hp hl (.inr (Hd hX t)) AY;rw [hs] at e1;injection e1 with e1;subst e1;exact AY
 have Vb: ∀t k,s[t]? =aj6 k->Bc S X (aj3 ops) (plus done i) t k:=by
  intro t k hs;refine ⟨i+1,rq,fun j hj Oa=>?_,fun c hc h1 h2=>?_,by rw [qz];exact hs⟩
  · rcases PP j i with h|h|h
    · exact ⟨fun _=>by omega,fun _=> .inl (hp.pre j hj (ho.JL j i h rq (.inr ⟨wm Oa,⟨v,s,z,hX⟩⟩)))⟩
    · subst h;exact ⟨fun _=>by omega,fun _=> .inr rfl⟩
    refine ⟨fun hd=>?_,fun h'=>by omega⟩
    rcases hd with hd|hd
    · exact absurd hd (hp.yf hj (ho.JL i j h hj (.inl ⟨⟨v,s,z,hX⟩,wm Oa⟩)))
    omega
  rcases UV c (i+1) with h|h
  · exact h
  have:=hr.iR (show i+1<=c by omega) (by omega)
  have:=cJ hs;rw [qz] at*;omega
 have IC: ∀t li,bu t=aj6 li-> ∀k,Bc S X (aj3 ops) (plus done i) t k->s[t]? =aj6 k:=by intro t li hl k hc;obtain ⟨k1,h1,_⟩:=hf.sr.eh t li hl;have:=hc.unique hr (Vb t k1 h1);subst this;exact h1
 refine {
  tm:=Inv.RO ho hp hx hv hf.iw hf.eF (by rw [hS];rfl) hf.vr tD
  bQ:=hf.sr.bQ
  tok:=fun t li hl=>by obtain ⟨k,h1,h2⟩:=hf.sr.eh t li hl;exact ⟨k,Vb t k h1,h2⟩
  jV:=fun t u li lj k k' hl mS hc Ci hs we hb=>hf.sr.jV t u li lj k k' hl mS (IC t li hl k hc) (IC u lj mS k' Ci) hs we hb
  free:=fun t li k hl hc hs h0 vp=>by refine hf.sr.free t li k hl (IC t li hl k hc) hs (kr.2 ?_);have:=vp i rq (.inr rfl);unfold FR at this;rw [hX] at this;exact this
  fresh:=fun j hj GI t h1 h2=>?_
  iw:=hv.iw.trans hf.iw
  eF:=hv.eF.trans hf.eF
  os:=hf.os.trans hv.os
  tape:=hf.tape.trans hv.tape
  output:=hf.output.trans hv.output
  size:=aa4 hv.size hf.size
  frame:=fun b hb hh=>?_
  eQ:=fun b o hb=>?_
  oZ:=fun t li hl=>?_
  own:=fun t li k hl hc hs=>?_
  defers:=by rw [put_defers];exact hv.defers
  L1:=by rw [Kf];exact hv.L1}
 · have Va:j≠i:=fun e=>GI (.inr e)
   have ac3: ¬done j:=fun h=>GI (.inl h)
   cases hl:bu t with
   |none=>rfl
   |some li=>
    exfalso;obtain ⟨k,hk,_⟩:=hf.sr.eh t li hl;have dW:=cJ hk;rcases hf.oZ t li hl with h|h
    · rw [hv.fresh j hj ac3 t h1 h2] at h;cases h
    rcases aiA Va with h'|h'
    · have:=hr.iR (show j+1<=i by omega) (by omega);omega
    have:=hr.iR (show i+1<=j by omega) (by omega)
    rw [qz] at this;omega
 · rw [hf.frame b (abS hb hv.size) fun t li k hl hs mD Q8=>?_]
   · exact hv.frame b hb hh
   rcases hv.own t li k hl (ac4 t li hl k hs) mD with h|⟨u,lu,ku,g1,g2,g3,g4⟩
   · omega
   exact hh u lu ku g1 g2 g3 (by omega)
 · rcases hf.eQ b o hb with h|h|⟨t,li,k,h1,h2,h3,h4⟩
   · exact hv.eQ b o h
   · exact .inr (.inl (aa4 hv.size h))
   rcases hv.own t li k h1 (ac4 t li h1 k h2) h3 with h|⟨u,lu,ku,g1,g2,g3,g4⟩
   · exact .inr (.inl (by omega))
   exact .inr (.inr ⟨u,lu,ku,g1,g2,g3,by omega⟩)
 · rcases hf.oZ t li hl with h|h
   · exact hv.oZ t li h
   exact .inr (aa4 (hr.iR (abI _) (by omega)) h)
 rcases hf.own t li k hl (IC t li hl k hc) hs with h|⟨u,lu,ku,h1,h2,h3,h4⟩
 · exact .inl (aa4 hv.size h)
 rcases hv.own u lu ku h1 (ac4 u lu h1 ku h2) h3 with h|⟨u',lu',ku',g1,g2,g3,g4⟩
 · exact .inl (by omega)
 exact .inr ⟨u',lu',ku',g1,g2,g3,by omega⟩
theorem Inv.step_skip (_hr:ye F rec ops S X) (ho:Ord ops S X xM) (hv:Inv ops S X im0 loc0 w0 nt done im loc a w) (hp:Place ops xM done i) {x:bW} (hx:ops[i]? =aj6 x)
 (hX:X i=aj7) (hS:S (i+1)={S i with env:=jm x.dst .ke (S i).env}) (tD: ∀d,x.dst=aj6 d->d<nt):Inv ops S X im0 loc0 w0 nt (plus done i) im loc (a.put x.dst Go.undef) w:=by
 have rq:=hp.lt;have hnW: ∀t,¬W X i t:=fun t h=>by unfold W at h;rw [hX] at h;exact h
 have qz:(S (i+1)).aD=(S i).aD:=by rw [hS]
 have Vb: ∀t k,Bc S X (aj3 ops) done t k->Bc S X (aj3 ops) (plus done i) t k:=by
  intro t k ⟨m,hm,h1,h2,h3⟩;refine ⟨m,hm,fun j hj Oa=>?_,h2,h3⟩;have dK:j≠i:=fun e=>hnW t (e▸Oa)
  have:=h1 j hj Oa;exact ⟨fun hd=>this.1 (hd.resolve_right dK),fun h=> .inl (this.2 h)⟩
 have IC: ∀t k,Bc S X (aj3 ops) (plus done i) t k->Bc S X (aj3 ops) done t k:=by
  intro t k ⟨m,hm,h1,h2,h3⟩;refine ⟨m,hm,fun j hj Oa=>?_,h2,h3⟩;have dK:j≠i:=fun e=>hnW t (e▸Oa)
  have:=h1 j hj Oa;exact ⟨fun hd=>this.1 (.inl hd),fun h=>(this.2 h).resolve_right dK⟩
 refine {
  tm:=Inv.RO ho hp hx hv (.refl _) (.refl _) (by rw [hS]) .ke tD
  bQ:=hv.bQ
  tok:=fun t li hl=>let ⟨k,h1,h2⟩:=hv.tok t li hl;⟨k,Vb t k h1,h2⟩
  jV:=fun t u li lj k k' hl mS hc Ci hs we hb=>hv.jV t u li lj k k' hl mS (IC t k hc) (IC u k' Ci) hs we hb
  free:=fun t li k hl hc hs h0 vp=>hv.free t li k hl (IC t k hc) hs h0 fun j hj hd=>vp j hj (.inl hd)
  fresh:=fun j hj GI t h1 h2=>hv.fresh j hj (fun h=>GI (.inl h)) t h1 h2
  iw:=hv.iw
  eF:=hv.eF
  os:=hv.os
  tape:=hv.tape
  output:=hv.output
  size:=hv.size
  frame:=hv.frame
  eQ:=hv.eQ
  oZ:=hv.oZ
  own:=fun t li k hl hc hs=>hv.own t li k hl (IC t k hc) hs
  defers:=by rw [put_defers];exact hv.defers
  L1:=by rw [Kf];exact hv.L1}
theorem Inv.start {st:St} (h0:S 0=st) (oW:SR im0 loc0 st.aD st.fz w0) (her:ER im0 loc0 st.env a.tmps) (hd:a.defers=[]) (hn:a.tmps.size=nt) (hr:ye F rec ops S X):
 Inv ops S X im0 loc0 w0 nt (fun _=>False) im0 loc0 a w0:=by
 subst h0;have dW: ∀t li,loc0 t=aj6 li->t<(S 0).aD.length:=fun t li hl=>let ⟨k,h,_⟩:=oW.eh t li hl;cJ h
 have cur: ∀t li k,loc0 t=aj6 li->Bc S X (aj3 ops) (fun _=>False) t k->(S 0).aD[t]? =aj6 k:=by intro t li k hl ⟨m,hm,h1,h2,h3⟩;rw [<- hr.y9 (abI m) hm (fun j _ hj hW=>(h1 j (by omega) hW).2 hj) (dW t li hl)];exact h3
 exact {
  tm:=fun t=>⟨0,abI _,fun j y _ _=>⟨fun h=>h.elim,fun h=>by omega⟩,her t⟩
  bQ:=oW.bQ
  tok:=fun t li hl=>by obtain ⟨k,h1,h2⟩:=oW.eh t li hl;refine ⟨k,⟨0,abI _,fun j _ _=>⟨fun h=>h.elim,fun h=>by omega⟩,fun c hc h3 h4=>?_,h1⟩,h2⟩;have:=dW t li hl;have:=hr.iR (abI c) (by omega);omega
  jV:=fun t u li lj k k' hl mS hc Ci=>oW.jV t u li lj k k' hl mS (cur t li k hl hc) (cur u lj k' mS Ci)
  free:=fun t li k hl hc hs hz _=>oW.free t li k hl (cur t li k hl hc) hs (kr.2 hz)
  fresh:=fun j hj _ t h1 h2=>by
   cases hl:loc0 t with
   |none=>rfl
   |some li=>have:=dW t li hl;have:=hr.iR (abI j) (by omega);omega
  iw:= .refl _
  eF:= .refl _
  os:=rfl
  tape:= .refl _
  output:=rfl
  size:=Do _
  frame:=fun _ _ _=>rfl
  eQ:=fun _ _ h=> .inl h
  oZ:=fun _ _ h=> .inl h
  own:=fun t li k hl hc hs=> .inr ⟨t,li,k,hl,cur t li k hl hc,hs,rfl⟩
  defers:=hd
  L1:=hn}
structure Kept (im0:Im) (loc0:Loc) (jI:cI) (w0:World) (st:St) (im:Im) (loc:Loc) (w:World):Prop where
 sr:SR im loc st.aD st.fz w
 iw:oj im0 im
 eF:mN loc0 loc
 os:w.os=w0.os
 tape:Tape w0 w
 output:w.output=w0.output
 size:w0.heap.size<=w.heap.size
 frame: ∀b,b<w0.heap.size->(∀t li k,loc0 t=aj6 li->jI[t]? =aj6 k->k.bT=aj8->li.eh≠b)->w.heap[b]? =w0.heap[b]?
 eQ: ∀b o,im b=aj6 o->im0 b=aj6 o\/w0.heap.size<=b\/ ∃t li k,loc0 t=aj6 li/\jI[t]? =aj6 k/\k.bT=aj8/\li.eh=b
 oZ: ∀t li,loc t=aj6 li->loc0 t=aj6 li\/aj3 jI<=t
 own: ∀t li k,loc t=aj6 li->st.aD[t]? =aj6 k->k.bT=aj8->(w0.heap.size<=li.eh\/ ∃u lu ku,loc0 u=aj6 lu/\jI[u]? =aj6 ku/\ku.bT=aj8/\lu.eh=li.eh)
theorem Inv.finish (hr : ye F rec ops S X) (hv : Inv ops S X im0 loc0 w0 nt done im loc a w) (hd : ∀ j, j < (aj3 ops) -> done j) :
    Kept im0 loc0 (S 0).aD w0 (S (aj3 ops)) im loc w /\ ER im loc (S (aj3 ops)).env a.tmps /\ a.defers = [] /\ a.tmps.size = nt := by
  have cur : ∀ t k, Bc S X (aj3 ops) done t k -> (S (aj3 ops)).aD[t]? = aj6 k := by
    intro t k ⟨m, hm, h1, h2, h3⟩
    rw [hr.y9 hm (Do _) (fun j h4 h5 hW => by have := (h1 j h5 hW).1 (hd j h5); omega) (cJ h3)]
    exact h3
  have Vc : ∀ t li k, loc t = aj6 li -> (S (aj3 ops)).aD[t]? = aj6 k -> Bc S X (aj3 ops) done t k := by
    intro t li k hl hs
    obtain ⟨k1, hc, _⟩ := hv.tok t li hl
    have := cur t k1 hc
    rw [hs] at this; injection this with this; subst this; exact hc
  refine ⟨{
    sr := { bQ := hv.bQ
            eh := fun t li hl => let ⟨k, h1, h2⟩ := hv.tok t li hl; ⟨k, cur t k h1, h2⟩
            jV := fun t u li lj k k' hl mS hs we => hv.jV t u li lj k k' hl mS (Vc t li k hl hs) (Vc u lj k' mS we)
            free := fun t li k hl hs mD hz => by
              have hz := kr.1 hz
              refine hv.free t li k hl (Vc t li k hl hs) mD (fun h => hz (hr.D4 (abI _) (Do _) t h)) fun j hj _ hf => ?_
              exact hz (hr.D4 (show j + 1 <= (aj3 ops) from hj) (Do _) t (hr.ab2 hj hf)) }
    iw := hv.iw, eF := hv.eF, os := hv.os, tape := hv.tape, output := hv.output, size := hv.size, frame := hv.frame, eQ := hv.eQ, oZ := hv.oZ
    own := fun t li k hl hs => hv.own t li k hl (Vc t li k hl hs) }, fun t => ?_, hv.defers, hv.L1⟩
  obtain ⟨m, hm, h1, h2⟩ := hv.tm t
  rw [hr.Mo hm (Do _) fun j hj h3 h4 tD => ?_]
  · exact h2
  have := (h1 j _ (lw hj) tD).1 (hd j hj); omega
end
end Go.Vm
/- One operation of a region, in the model. -/
namespace Go.Vm
theorem Cs {P:Program} {o:Oper} {a:Act} {w:World} {f:FuncId} {us:Array Value} {R:Value->World->Prop} {next:Act->World->Prop} {Q:Exit->Act->World->Prop}
 (h:(execOp a.eval o).run P w=(callFunc f us).run P w) (hc:uL P f us w R) (hR: ∀v w',R v w'->next (a.put o.dst v) w'):o.wp P a w next Q:=by
 unfold Oper.wp;rw [h];rcases hc with ⟨v,w',h1,h2⟩|⟨h1,h2⟩
 · rw [h1,Oper.upon_value];exact hR v w' h2
 rw [h1,Oper.upon_enter]
 refine h2.mono fun e w' ⟨v,he,hv⟩=>?_
 subst he;exact hR v w' hv
theorem Mq {im:Im} {loc:Loc} {e:Env} {a:Act} (x:fU) (h: ∀t,x= .t t->VR im loc (lk t e) (a.tmps.getD t Go.undef)) (o:Operand) (hc:bH x o=aj8):VR im loc (x.ev e) (a.eval o):=by
 unfold bH at hc;split at hc
 · rename_i n m
   have:n=m:=by simpa using hc
   subst this;exact h n rfl
 · exact Il hc
 · rename_i f g
   have:f=g:=by simpa using hc
   subst this;exact .fh f [] [] [] [] .nil .nil
 · exact .undef _
 cases hc
section
variable {P : Program} {F : mY} {rec : Task -> Option Out} {ops : List bW} {S : Nat -> St} {X : Nat -> Option XR} {xM : Nat -> Nat -> Prop} {im0 : Im} {loc0 : Loc} {w0 : World} {nt : Nat}
  {done : Nat -> Prop} {im : Im} {loc : Loc} {a : Act} {w : World} {i : Nat} {prims : FuncId -> Bool} {jx : Array Oper}
theorem VR.Vd {v:Value} (h:VR im loc .ke v):v=Go.undef:=by cases h;rfl
theorem wq {r:od} {d:Option Nat} {st:St}:((XR.loc r).next d st).aD.length=aj3 st.aD+(aj3 r.news):=by simp [XR.next,rS,fY]
theorem He {x:bW} {o:Oper} {e:Env} {b:Bool} (hc:vA jx x.guard o.guard=aj8) (hs: ∀s c,x.guard=aj6 (s,c)->VR im loc (lk s e) (a.tmps.getD s Go.undef)) (h:wanted x.guard e=aj6 b):
 Region.wanted o (yielded jx a.tmps)=b:=by
 unfold Region.wanted;cases hg:x.guard with
 |none=>
  rw [hg] at hc h;cases ho:o.guard with
  |none=>simp [wanted] at h;subst h;rfl
  |some q=>rw [ho] at hc;simp [vA] at hc
 |some q=>
  obtain ⟨s,c⟩:=q;rw [hg] at hc h;cases ho:o.guard with
  |none=>rw [ho] at hc;simp [vA] at hc
  |some q'=>
   obtain ⟨j,c'⟩:=q';rw [ho] at hc;simp only [vA,rc,beq_iff_eq] at hc;obtain ⟨rfl,hd⟩:=hc;have hv:=hs s c hg;dsimp only;unfold yielded;rw [hd];simp only [wanted] at h;simp only [Option.bind_some];split at h
   · rename_i b' hl
     rw [hl] at hv;have:=hv.kq;have ht:a.tmps[s]? =aj6 (.bool b'):=by
      simp only [abH] at this;cases hq:a.tmps[s]? with
      |none=>rw [hq] at this;simp [Go.undef] at this
      |some u=>rw [hq] at this;exact congrArg aj6 this
     rw [ht];rw [ut] at h;rw [<- h];cases b'<;>cases c<;>rfl
   · rename_i hl
     rw [hl] at hv;have:a.tmps.getD s Go.undef=Go.undef:=hv.Vd;injection h with h;subst h;have ht: ∀b',a.tmps[s]?≠aj6 (.bool b'):=by intro b' hq;simp only [abH,hq,Option.getD_some,Go.undef] at this;cases this
     split
     · rename_i b' hq
       exact absurd hq (ht b')
     rfl
   cases h
structure ID (P:Program) (F:mY) (rec:Task->Option Out):Prop where
 func:Co P rec
 kS:y8 P F
theorem Inv.wpOp (hE:ID P F rec) (hr:ye F rec ops S X) (ho:Ord ops S X xM) (hv:Inv ops S X im0 loc0 w0 nt done im loc a w) (hp:Place ops xM done i) {x:bW} {o:Oper} (hx:ops[i]? =aj6 x) (hmo:jx[i]? =aj6 o)
 (hc:rW P prims nt jx x o=aj8) {Q:Exit->Act->World->Prop} {K:Act->World->Prop}
 (hK: ∀eO bu a' w',Inv ops S X im0 loc0 w0 nt (plus done i) eO bu a' w'->K a' w'):Go.wpOp P jx Q i K a w:=by
 unfold rW at hc;simp only [rc,beq_iff_eq] at hc;obtain ⟨⟨⟨tD,hnt⟩,hg⟩,fR⟩:=hc;have hd: ∀d,x.dst=aj6 d->d<nt:=by intro d h;rw [h] at hnt;simpa using hnt
 have ab3: ∀t,t∈ay x->VR im loc (lk t (S i).env) (a.tmps.getD t Go.undef):=fun t ht=>hv.slot hr ho hp hx ht
 have PS: ∀y∈x.op.fH,∀o',bH y o'=aj8->VR im loc (y.ev (S i).env) (a.eval o'):=by intro y hy o' hco;refine Mq y (fun t ht=>ab3 t ?_) o' hco;subst ht;exact adc _ (List.mem_filterMap.2 ⟨.t t,hy,rfl⟩)
 have hgs: ∀s c,x.guard=aj6 (s,c)->VR im loc (lk s (S i).env) (a.tmps.getD s Go.undef):=by intro s c h;refine ab3 s (acV _ ?_);rw [h];simp
 unfold Go.wpOp;simp only [hmo];rcases hr.steps i x hx with ⟨hw,xr,gW,Ac,hX,hS⟩|⟨hw,hX,hS⟩
 · rw [He hg hgs hw]
   simp only [if_true];left;have EO: ∀{own:Bool} {f:FuncId} {args:List PV} {us:List Value} {r:od},xr= .loc r->dz F rec own f args (S i).aD (S i).fz=aj6 r->fF im loc args us->
    (execOp a.eval o).run P w=(callFunc f ⟨us⟩).run P w->o.wp P a w K Q:=by
    intro own f args us r hxr hcp B2 cf;subst hxr;have hk:=hv.known hr ho hp hX Ac (by rw [hS];exact wq);refine Cs cf (Iy hE.func hE.kS hcp B2 hk) fun v' w' ⟨eO,bu,oY,xK⟩=>?_
    exact hK _ _ _ _ (tD▸hv.Bd hr ho hp hx hX Ac hS oY xK hd)
   have Kg: ∀{f:FuncId} {args:List PV} {us:List Value},gy rec f args (S i).aD (S i).fz=aj6 xr->fF im loc args us->
    (execOp a.eval o).run P w=(callFunc f ⟨us⟩).run P w->o.wp P a w K Q:=by
    intro f args us np B2 cf;unfold gy at np;split at np
    · rename_i v s z EB
      split at np
      · injection np with np;subst np
        refine Cs cf (hE.func f args _ _ v s z EB im loc w us (hv.sr hr ho hp hX) B2) fun v' w' ⟨eO,bu,hf⟩=>?_
        exact hK _ _ _ _ (tD▸hv.RP hr ho hp hx hX hS hf hd)
      cases np
    cases np
   have ac6: ∀{r:od},xr= .loc r->bJ (S i).env (S i).aD (S i).fz x.op=aj6 r->o.wp P a w K Q:=by
    intro r hxr he;subst hxr;have hk:=hv.known hr ho hp hX Ac (by rw [hS];exact wq);obtain ⟨nx,w',bu,cf,hnx,xK⟩:=Rt fR PS he hk;unfold Oper.wp;rw [cf];rcases hnx with ⟨rfl,hu⟩|⟨v,rfl,oY⟩
    · rw [Oper.upon_skip]
      exact hK _ _ _ _ (tD▸hv.Bd hr ho hp hx hX Ac hS (by rw [hu];exact .undef _) xK hd)
    rw [Oper.upon_value]
    exact hK _ _ _ _ (tD▸hv.Bd hr ho hp hx hX Ac hS oY xK hd)
   cases UG:x.op with
   |call m f args=>
    rw [UG] at gW fR PS;have RQ: ∃as UH,o.op= .call {callee:= .value (.func f),args:=as,argTypes:=UH}/\fw args as.toList=aj8:=by
     cases Q9:o.op with
     |call c=>
      obtain ⟨callee,as,UH⟩:=c;rw [Q9] at fR;cases callee with
      |value g=>
       cases g with
       |func g=>simp only [xy,rc,beq_iff_eq] at fR;obtain ⟨⟨rfl,_⟩,h⟩:=fR;exact ⟨as,UH,rfl,h⟩
       |_=>simp [xy] at fR
      |_=>simp [xy] at fR
     |_=>rw [Q9] at fR;simp [xy] at fR
    obtain ⟨as,UH,Q9,hco⟩:=RQ;have vz:fF im loc (Eh (S i).env args) (as.toList.map a.eval):=nI (fun y hy=>PS y (by simpa [lJ.fH] using hy)) hco;have cf:(execOp a.eval o).run P w=(callFunc f ⟨as.toList.map a.eval⟩).run P w:=by
     have:(⟨as.toList.map a.eval⟩:Array Value)=as.map a.eval:=by apply aiZ;simp
     rw [this];simp [execOp,Q9,resolve,Act.eval,Deferred.ofValue,invoke]
    cases m with
    |UB=>simp only [xw,AC] at gW;obtain ⟨r,PU,RR⟩:=gW;exact EO RR.symm PU vz cf
    |own=>simp only [xw,AC] at gW;obtain ⟨r,PU,RR⟩:=gW;exact EO RR.symm PU vz cf
    |shr=>exact Kg gW vz cf
    |fp=>
     simp only [xw,AC] at gW;obtain ⟨r,PU,RR⟩:=gW;subst RR;have hk:=hv.known hr ho hp hX Ac (by rw [hS];exact wq);refine Cs cf (Ml hE.func PU vz hk) fun v' w' ⟨eO,bu,oY,xK⟩=>?_
     exact hK _ _ _ _ (tD▸hv.Bd hr ho hp hx hX Ac hS oY xK hd)
   |xt y args=>
    rw [UG] at gW fR PS;have RQ: ∃t as UH,o.op= .call {callee:= .value (.tmp t),args:=as,argTypes:=UH}/\bH y (.tmp t)=aj8/\fw args as.toList=aj8:=by
     cases Q9:o.op with
     |call c=>
      obtain ⟨callee,as,UH⟩:=c;rw [Q9] at fR;cases callee with
      |value g=>
       cases g with
       |tmp g=>simp only [xy,rc] at fR;exact ⟨g,as,UH,rfl,fR.1,fR.2⟩
       |_=>simp [xy] at fR
      |_=>simp [xy] at fR
     |_=>rw [Q9] at fR;simp [xy] at fR
    obtain ⟨t,as,UH,Q9,hcy,hco⟩:=RQ;have vz:fF im loc (Eh (S i).env args) (as.toList.map a.eval):=nI (fun y hy=>PS y (by simp [lJ.fH,hy])) hco;have hy:=PS y (by simp [lJ.fH]) (.tmp t) hcy;simp only [xw] at gW;split at gW
    · rename_i f p q RS
      rw [RS] at hy;generalize hgv:a.eval (.tmp t)=gv at hy;cases hy with
      |fh _ _ _ us vs h1 h2=>
      have lO:=(h1.append vz).append h2;have cf:(execOp a.eval o).run P w=(callFunc f ⟨us++as.toList.map a.eval++vs⟩).run P w:=by
       have:(⟨us++as.toList.map a.eval++vs⟩:Array Value)=(⟨us⟩++as.map a.eval)++⟨vs⟩:=by apply aiZ;simp
       rw [this];simp [execOp,Q9,resolve,hgv,Deferred.ofValue,invoke]
      split at gW
      · exact Kg gW lO cf
      rw [AC] at gW
      obtain ⟨r,PU,RR⟩:=gW;exact EO RR.symm PU lO cf
    cases gW
   |_=>rw [UG] at gW;simp only [xw,AC] at gW;obtain ⟨r,PU,RR⟩:=gW;exact ac6 RR.symm (by rw [UG];exact PU)
 rw [He hg hgs hw]
 simp only [M2,if_false];exact hK _ _ _ _ (tD▸hv.step_skip hr ho hp hx hX hS hd)
end
end Go.Vm
/- A region, in the order of the text or in a drawn one. -/
namespace Go.Vm
def vB (P:Program) (prims:FuncId->Bool) (nt:Nat) (jx:Array Oper):List bW->List Oper->Bool
 | [],[]=>aj8
 |x::xs,o::os=>rW P prims nt jx x o&&vB P prims nt jx xs os
 |_,_=>aj9
theorem Be {P:Program} {prims:FuncId->Bool} {nt:Nat} {jx:Array Oper}: ∀{xs:List bW} {os:List Oper},vB P prims nt jx xs os=aj8->
 (aj3 xs)=aj3 os/\ ∀(i:Nat) (x:bW) (o:Oper),xs[i]? =aj6 x->os[i]? =aj6 o->rW P prims nt jx x o=aj8
 | [],[],_=>⟨rfl,fun i x o h=>by simp at h⟩
 |x::xs,o::os,h=>by
  simp only [vB,rc] at h;obtain ⟨h1,h2⟩:=Be h.2;refine ⟨by simp [h1],fun i y p hy hp=>?_⟩;cases i with
  |zero=>simp at hy hp;subst hy hp;exact h.1
  |succ i=>exact h2 i y p (by simpa using hy) (by simpa using hp)
 | [],_::_,h=>by simp [vB] at h
 |_::_,[],h=>by simp [vB] at h
def bit (m i:Nat):Bool:=Nat.testBit m i
def nK (jT:List Nat) (j:Nat):List Edge->Option Nat
 | []=>aj6 0
 |e::es=>match nK jT j es with
  |some m=>if Region.binds .any e then (if abZ e.on j then aj6 (m|||((jT.getD e.on 0)|||(1<<<e.on))) else aj7) else aj6 m
  |none=>aj7
def vC (jT:List Nat):Nat->List Nat->List Oper->Bool
 |_,[],[]=>aj8
 |j,m::ms,o::os=>(match nK jT j o.after.toList with|some m'=>m==m'|none=>aj9)&&vC jT (j+1) ms os
 |_,_,_=>aj9
def vD (i : Nat) (x : bW) (ux : List Nat) : List bW -> List Nat -> Bool
  | [], _ => aj8
  | y :: ys, m :: ms => (bit m i || ((match x.dst with
      | some d => !has (ay y) d && (match y.dst with | some d' => !(v4 d d') | none => aj8)
      | none => aj8) && (match y.dst with | some d => !has ux d | none => aj8))) && vD i x ux ys ms
  | _ :: _, [] => aj9
def vE:Nat->List bW->List Nat->Bool
 |_,[],_=>aj8
 |i,x::xs,_::ms=>vD i x (ay x) xs ms&&vE (i+1) xs ms
 |_,_::_,[]=>aj9
def Ct (P:Program) (prims:FuncId->Bool) (nt:Nat) (draw:Option (List Nat)) (ac7:List bW) (jx:Array Oper) (flag:Bool):Bool:=
 vB P prims nt jx ac7 jx.toList&&match draw with
 |none=>!flag
 |some bf=>flag&&v4 (aj3 bf) (aj3 ac7)&&vC bf 0 bf jx.toList&&vE 0 ac7 bf
section
variable {P : Program} {F : mY} {rec : Task -> Option Out} {ops : List bW} {S : Nat -> St} {X : Nat -> Option XR} {xM : Nat -> Nat -> Prop} {im0 : Im} {loc0 : Loc} {w0 : World} {nt : Nat}
  {done : Nat -> Prop} {im : Im} {loc : Loc} {a : Act} {w : World} {i : Nat} {prims : FuncId -> Bool} {jx : Array Oper}
theorem Ord.text:Ord ops S X (· < ·) where
 EM:=fun _ _ _ _ _ h _ _ _ _=>h
 RI:=fun _ _ _ _ _ h _ _ _ _=>h
 Mp:=fun _ _ _ h _ _ _=>h
 acZ:=fun _ _ _ h _ _ _=>h
 ac0:=fun _ _ _ h _ _ _ _ _ _=>h
 JL:=fun _ _ h _ _=>h
 cl:=fun _ _ _ _ _=> .inr fun _ h _=>h
theorem EP (hE:ID P F rec) (hr:ye F rec ops S X) (hc: ∀(i:Nat) (x:bW) (o:Oper),ops[i]? =aj6 x->jx[i]? =aj6 o->rW P prims nt jx x o=aj8) (dd:(aj3 ops)=jx.size)
 {Q:Exit->Act->World->Prop} (hQ: ∀im loc a w,Inv ops S X im0 loc0 w0 nt (fun i=>i<aj3 ops) im loc a w->Q .normal a w):
 ∀(d n:Nat) (im:Im) (loc:Loc) (a:Act) (w:World),n+d=aj3 ops->Inv ops S X im0 loc0 w0 nt (fun i=>i<n) im loc a w->wpOps P jx Q (List.range' n d) a w
 |0,n,im,loc,a,w,hn,hv=>by
  have:n=(aj3 ops):=by omega
  subst this;exact hQ im loc a w hv
 |d+1,n,im,loc,a,w,hn,hv=>by
  rw [List.range'_succ,wpOps_cons];have hx:=lw (show n<(aj3 ops) by omega);have ho:=acy (show n<jx.size by omega);refine Inv.wpOp hE hr Ord.text hv {lt:=by omega,nd:=by omega,pre:=fun j _ h=>h,fh:=fun k _ h1 j _ h2=>by omega} hx ho (hc n _ _ hx ho) fun eO bu a' w' h'=>?_
  refine EP hE hr hc dd hQ d (n+1) eO bu a' w' (by omega) ?_;have e:plus (fun i=>i<n) n=fun i=>i<n+1:=by
   funext j;unfold plus;apply propext;omega
  rw [e] at h';exact h'
def Ve (jT:List Nat) (i j:Nat):Prop:=bit (jT.getD j 0) i=aj8
theorem wz {jT:List Nat} {j:Nat}: ∀{es:List Edge} {m:Nat},nK jT j es=aj6 m->(∀e∈es,Region.binds .any e=aj8->e.on<j)/\
 ∀i,bit m i=aj8-> ∃e∈es,Region.binds .any e=aj8/\(e.on=i\/bit (jT.getD e.on 0) i=aj8)
 | [],m,h=>by simp only [nK,ut] at h;subst h;exact ⟨fun e h=>(by cases h),fun i h=>by simp [bit] at h⟩
 |e::es,m,h=>by
  simp only [nK] at h;split at h
  · rename_i m' Cr
    obtain ⟨h1,h2⟩:=wz Cr;split at h
    · rename_i hb
      split at h
      · rename_i dW
        injection h with h;subst h;refine ⟨fun e' B0 AW=>?_,fun i hi=>?_⟩
        · rcases abX.1 B0 with rfl|B0
          · simpa using dW
          exact h1 e' B0 AW
        simp only [bit,Nat.testBit_or,acQ] at hi
        rcases hi with hi|hi|hi
        · obtain ⟨e',B0,h3⟩:=h2 i hi
          exact ⟨e',ac5 _ B0,h3⟩
        · exact ⟨e,by simp,hb,.inr hi⟩
        refine ⟨e,by simp,hb,.inl ?_⟩
        rw [Nat.one_shiftLeft,Nat.testBit_two_pow] at hi;simpa using hi
      cases h
    rename_i hb
    injection h with h;subst h;refine ⟨fun e' B0 AW=>?_,fun i hi=>?_⟩
    · rcases abX.1 B0 with rfl|B0
      · exact absurd AW hb
      exact h1 e' B0 AW
    obtain ⟨e',B0,h3⟩:=h2 i hi
    exact ⟨e',ac5 _ B0,h3⟩
  cases h
theorem De {jT:List Nat}: ∀{j:Nat} {ms:List Nat} {os:List Oper},vC jT j ms os=aj8->aj3 ms=aj3 os/\
 ∀(k:Nat) (m:Nat) (o:Oper),ms[k]? =aj6 m->os[k]? =aj6 o->nK jT (j+k) o.after.toList=aj6 m
 |j,[],[],_=>⟨rfl,fun k m o h=>by simp at h⟩
 |j,m::ms,o::os,h=>by
  simp only [vC,rc] at h;obtain ⟨h1,h2⟩:=h;obtain ⟨h3,h4⟩:=De h2;refine ⟨by simp [h3],fun k m' o' hm ho=>?_⟩;cases k with
  |zero=>
   simp at hm ho;subst hm ho;split at h1
   · rename_i m2 Mj
     have:m=m2:=by simpa using h1
     subst this;exact Mj
   cases h1
  |succ k=>have:=h4 k m' o' (by simpa using hm) (by simpa using ho);rw [show j+(k+1)=j+1+k by omega];exact this
 |j,[],_::_,h=>by simp [vC] at h
 |j,_::_,[],h=>by simp [vC] at h
theorem Bf {i:Nat} {x:bW} {ux:List Nat}: ∀{ys:List bW} {ms:List Nat},vD i x ux ys ms=aj8-> ∀(k:Nat) (y:bW),ys[k]? =aj6 y->
 bit (ms.getD k 0) i=aj8\/((∀d,x.dst=aj6 d->d∉ay y/\y.dst≠aj6 d)/\ ∀d,y.dst=aj6 d->d∉ux)
 | [],_,_,k,y,h=>by simp at h
 |z::ys,[],h,k,y,hy=>by simp [vD] at h
 |z::ys,m::ms,h,k,y,hy=>by
  simp only [vD,rc,acQ] at h;obtain ⟨h1,h2⟩:=h;cases k with
  |succ k=>simpa using Bf h2 k y (by simpa using hy)
  |zero=>
   simp at hy;subst hy;rcases h1 with h1|⟨h1,h3⟩
   · exact .inl (by simpa using h1)
   refine .inr ⟨fun d hd=>?_,fun d hd=>?_⟩
   · rw [hd] at h1
     simp only [rc,NE] at h1;refine ⟨kr.1 h1.1,fun hz=>?_⟩;rw [hz] at h1;simp at h1
   rw [hd] at h3
   simp only [NE] at h3;exact kr.1 h3
theorem yg: ∀{i0:Nat} {xs:List bW} {ms:List Nat},vE i0 xs ms=aj8-> ∀(i j:Nat) (x y:bW),i<j->xs[i]? =aj6 x->xs[j]? =aj6 y->
 bit (ms.getD j 0) (i0+i)=aj8\/((∀d,x.dst=aj6 d->d∉ay y/\y.dst≠aj6 d)/\ ∀d,y.dst=aj6 d->d∉ay x)
 |i0,[],_,_,i,j,x,y,_,hx,_=>by simp at hx
 |i0,z::xs,[],h,i,j,x,y,_,hx,_=>by simp [vE] at h
 |i0,z::xs,m::ms,h,i,j,x,y,nJ,hx,hy=>by
  simp only [vE,rc] at h;obtain ⟨h1,h2⟩:=h;cases j with
  |zero=>omega
  |succ j=>
   cases i with
   |zero=>simp at hx;subst hx;simpa using Bf h1 j y (by simpa using hy)
   |succ i=>have:=yg h2 i j x y (by omega) (by simpa using hx) (by simpa using hy);rw [show i0+(i+1)=i0+1+i by omega];simpa using this
theorem Hf {i:Nat} {t:Tr}: ∀{l:List (Tr×Nat)},Ig i t l=aj8-> ∀(k:Nat) (b:Tr) (m:Nat),l[k]? =aj6 (b,m)->t.vj b=aj8->bit m i=aj8
 | [],_,k,b,m,h,_=>by simp at h
 |(b',m')::r,h,k,b,m,hk,hc=>by
  simp only [Ig,rc,acQ,NE] at h;cases k with
  |zero=>
   simp at hk;obtain ⟨rfl,rfl⟩:=hk;rcases h.1 with h1|h1
   · rw [hc] at h1;cases h1
   exact h1
  |succ k=>exact Hf h.2 k b m (by simpa using hk) hc
theorem ES: ∀{i0:Nat} {l:List (Tr×Nat)},rT i0 l=aj8->(∀(i:Nat) (t:Tr) (m:Nat),l[i]? =aj6 (t,m)->t.cl=aj8)/\
 ∀(i j:Nat) (t b:Tr) (m m':Nat),i<j->l[i]? =aj6 (t,m)->l[j]? =aj6 (b,m')->t.vj b=aj8->bit m' (i0+i)=aj8
 |_,[],_=>⟨fun i t m h=>by simp at h,fun i j t b m m' _ h=>by simp at h⟩
 |i0,(t0,m0)::r,h=>by
  simp only [rT,rc] at h;obtain ⟨⟨h1,h2⟩,h3⟩:=h;obtain ⟨h4,h5⟩:=ES h3;refine ⟨fun i t m hi=>?_,fun i j t b m m' nJ hi hj hc=>?_⟩
  · cases i with
    |zero=>simp at hi;obtain ⟨rfl,rfl⟩:=hi;exact h1
    |succ i=>exact h4 i t m (by simpa using hi)
  cases j with
  |zero=>omega
  |succ j=>
   cases i with
   |zero=>simp at hi;obtain ⟨rfl,rfl⟩:=hi;exact Hf h2 j b m' (by simpa using hj) hc
   |succ i=>rw [show i0+(i+1)=i0+1+i by omega];exact h5 i j t b m m' (by omega) (by simpa using hi) (by simpa using hj) hc
theorem ET {l m:List Nat} {t:Nat} (h1:t∈l) (h2:t∈m):meets l m=aj8:=by unfold meets;rw [aiP];exact ⟨t,h1,pV.2 h2⟩
theorem Ord.drawn (hr : ye F rec ops S X) {jT : List Nat} (UE : (aj3 jT) = (aj3 ops)) (hs : vE 0 ops jT = aj8) (ho : rT 0 ((zN S X (aj3 ops)).zip jT) = aj8) : Ord ops S X (Ve jT) := by
  obtain ⟨zK, hcz⟩ := ES ho
  have Iz : ∀ i, i < (aj3 ops) -> ((zN S X (aj3 ops)).zip jT)[i]? = aj6 (zG (X i) (S i), jT.getD i 0) := by
    intro i hi
    rw [List.getElem?_zip_eq_some]
    refine ⟨?_, ?_⟩
    · unfold zN; simp [hi]
    rw [acr, lw (by omega)]; rfl
  have vj : ∀ i j, i < j -> j < (aj3 ops) -> (zG (X i) (S i)).vj (zG (X j) (S j)) = aj8 -> Ve jT i j := by
    intro i j nJ hj hc
    have := hcz i j _ _ _ _ nJ (Iz i (by omega)) (Iz j hj) hc
    unfold Ve; simpa using this
  have tch : ∀ j, iu X j -> (zG (X j) (S j)).iu = aj8 := by
    intro j h
    unfold iu at h
    unfold zG
    cases hX : X j with
    | none => rw [hX] at h; exact h.elim
    | some x =>
      rw [hX] at h
      cases x with
      | shr v s z => rfl
      | loc r =>
        simp only [XR.tr, Tr.iu, Bool.or_false]
        rcases h with h | h | h | h
        · cases GN : r.rd with
          | nil => exact absurd GN h
          | cons _ _ => simp
        · cases GN : r.fr with
          | nil => exact absurd GN h
          | cons _ _ => simp
        · cases GN : r.wr with
          | nil => exact absurd GN h
          | cons _ _ => simp
        cases GN : r.news with
        | nil => exact absurd GN h
        | cons _ _ => simp
  have brr : ∀ j, rJ X j -> (zG (X j) (S j)).JL = aj8 := by
    rintro j ⟨v, s, z, h⟩; rw [h]; rfl
  have tW : ∀ j t, W X j t -> iu X j := fun j t h => wm h
  have tA : ∀ j t, A X j t -> iu X j := by
    intro j t h
    unfold A at h; unfold iu
    cases hX : X j with
    | none => rw [hX] at h; exact h.elim
    | some x =>
      rw [hX] at h
      cases x with
      | shr v s z => exact h.elim
      | loc r =>
        rcases h with h | h
        · exact .inl (by intro e; rw [e] at h; cases h)
        exact .inr (.inl (by intro e; rw [e] at h; cases h))
  have JL : ∀ i j, i < j -> j < (aj3 ops) -> (rJ X i /\ iu X j \/ iu X i /\ rJ X j) -> Ve jT i j := by
    intro i j nJ hj h
    refine vj i j nJ hj ?_
    unfold Tr.vj
    rcases h with ⟨h1, h2⟩ | ⟨h1, h2⟩
    · rw [brr i h1, tch j h2]; simp
    rw [brr j h2, tch i h1]; simp
  have wrT : ∀ j t, W X j t -> ¬ rJ X j -> t ∈ (zG (X j) (S j)).wr := by
    intro j t h hn
    unfold W at h
    cases hX : X j with
    | none => rw [hX] at h; exact h.elim
    | some x =>
      rw [hX] at h
      cases x with
      | shr v s z => exact absurd ⟨v, s, z, hX⟩ hn
      | loc r =>
        obtain ⟨k, hk⟩ := h
        exact List.mem_map.2 ⟨(t, k), hk, rfl⟩
  have rdT : ∀ j t, A X j t -> t ∈ (zG (X j) (S j)).rd := by
    intro j t h
    unfold A at h
    cases hX : X j with
    | none => rw [hX] at h; exact h.elim
    | some x =>
      rw [hX] at h
      cases x with
      | shr v s z => exact h.elim
      | loc r => exact abJ.2 h
  exact {
    EM := fun i j t x y nJ hx hy hd hu => by
      rcases yg hs i j x y nJ hx hy with h | ⟨h, _⟩
      · unfold Ve; simpa using h
      rcases hu with hu | hu
      · exact absurd hu (h t hd).1
      exact absurd hu (h t hd).2
    RI := fun i j t x y nJ hx hy hd hu => by
      rcases yg hs i j x y nJ hx hy with h | ⟨_, h⟩
      · unfold Ve; simpa using h
      exact absurd hu (h t hd)
    Mp := fun i j t nJ hj hW hAW => by
      by_cases hi : rJ X i
      · exact JL i j nJ hj (.inl ⟨hi, hAW.elim (tA j t) (tW j t)⟩)
      by_cases PO : rJ X j
      · exact JL i j nJ hj (.inr ⟨tW i t hW, PO⟩)
      refine vj i j nJ hj ?_
      unfold Tr.vj
      rcases hAW with h | h
      · rw [ET (wrT i t hW hi) (rdT j t h)]; simp
      rw [ET (wrT i t hW hi) (wrT j t h PO)]; simp
    acZ := fun i j t nJ hj hA hW => by
      by_cases PO : rJ X j
      · exact JL i j nJ hj (.inr ⟨tA i t hA, PO⟩)
      refine vj i j nJ hj ?_
      unfold Tr.vj
      rw [ET (rdT i t hA) (wrT j t hW PO)]; simp
    ac0 := fun i j t nJ hj U8 h1 h2 PO hW => by
      refine vj i j nJ hj ?_
      unfold Tr.vj
      have : ((zG (X j) (S j)).wr.any fun t => ab1 (zG (X i) (S i)).lo t && abZ t (zG (X i) (S i)).hi) = aj8 := by
        rw [aiP]
        refine ⟨t, wrT j t hW PO, ?_⟩
        rcases hr.steps i _ (lw (show i < (aj3 ops) by omega)) with ⟨_, x, hx, _, hX, hn⟩ | ⟨_, hX, hn⟩
        · cases x with
          | shr v s z => exact absurd ⟨v, s, z, hX⟩ U8
          | loc r =>
            rw [hn, wq] at h2
            rw [hX]
            simp only [zG, XR.tr, rc, acl]
            exact ⟨h1, by simpa using h2⟩
        rw [hn] at h2; dsimp only at h2; omega
      rw [this]; simp
    JL := JL
    cl := fun i t hi U8 hAW => by
      left
      have hc := zK i _ _ (Iz i hi)
      cases hX : X i with
      | none => rcases hAW with h | h
                · unfold A at h; rw [hX] at h; exact h.elim
                unfold W at h; rw [hX] at h; exact h.elim
      | some x =>
        cases x with
        | shr v s z => exact absurd ⟨v, s, z, hX⟩ U8
        | loc r =>
          have hb : ∀ u v : Nat, abZ u v = aj8 -> u < v := fun u v h => by simpa using h
          rw [hX] at hc
          simp only [zG, XR.tr, rc, abK] at hc
          rcases hAW with h | h
          · unfold A at h; rw [hX] at h
            exact hb _ _ (hc.1 t (abJ.2 h))
          unfold W at h; rw [hX] at h
          obtain ⟨k, hk⟩ := h
          exact hb _ _ (hc.2 (t, k) hk) }
end
end Go.Vm
/- A region: the theorem. -/
namespace Go.Vm
section
variable {P : Program} {F : mY} {rec : Task -> Option Out} {ops : List bW} {S : Nat -> St} {X : Nat -> Option XR} {im0 : Im} {loc0 : Loc} {w0 : World} {nt : Nat}
  {im : Im} {loc : Loc} {a : Act} {w : World} {i : Nat} {prims : FuncId -> Bool} {jx : Array Oper} {jT : List Nat}
def kU (l:Array Bool) (i:Nat):Prop:=l.getD i aj9=aj8
theorem Kh (hE:ID P F rec) (hr:ye F rec ops S X) (ho:Ord ops S X (Ve jT)) (hc: ∀(i:Nat) (x:bW) (o:Oper),ops[i]? =aj6 x->jx[i]? =aj6 o->rW P prims nt jx x o=aj8) (dd:(aj3 ops)=jx.size)
 (hm: ∀(k:Nat) (o:Oper),jx[k]? =aj6 o->nK jT k o.after.toList=aj6 (jT.getD k 0))
 {Q:Exit->Act->World->Prop} (hQ: ∀im loc a w (done:Nat->Prop),(∀i,i<aj3 ops->done i)->Inv ops S X im0 loc0 w0 nt done im loc a w->Q .normal a w):
 ∀(Al:Nat) (l:Array Bool) (im:Im) (loc:Loc) (a:Act) (w:World),l.size=aj3 ops->Al+l.toList.count aj8=aj3 ops->(∀k j,kU l k->Ve jT j k->kU l j)->
  Inv ops S X im0 loc0 w0 nt (kU l) im loc a w->wpAny P .any jx Q Al l a w:=by
 have full: ∀l:Array Bool,l.size=aj3 ops->Region.ready .any jx l=[]-> ∀i,i<aj3 ops->kU l i:=by
  intro l hl GS i
  induction i using Nat.strongRecOn with
  |_ i ih=>
   intro hi
   by_cases h:kU l i
   · exact h
   exfalso
   have zF:i∈Region.ready .any jx l:=by
    rw [mem_ready];have ho:=acy (show i<jx.size by omega);refine ⟨?_,_,ho,fun e he hb=>?_⟩
    · unfold kU at h
      have dW:i<l.size:=by omega
      simp [dW] at h ⊢;exact h
    have:=(wz (hm i _ ho)).1 e (by simpa using he) hb
    exact ih e.on this (by omega)
   rw [GS] at zF;cases zF
 intro Al
 induction Al with
 |zero=>
  intro l im loc a w hl akq Vf hv;have rV: ∀b∈l.toList,aj8=b:=by
   have:l.toList.count aj8=(aj3 l.toList):=by simp only [Array.length_toList];omega
   exact List.count_eq_length.1 this
  have Oe: ∀i,i<aj3 ops->kU l i:=by
   intro i hi;have dW:i<l.size:=by omega
   have:=rV (l[i]) (by simp);unfold kU;simp [dW,<- this]
  refine ⟨?_,hQ im loc a w _ Oe hv⟩;cases GN:Region.ready .any jx l with
  |nil=>rfl
  |cons x xs=>
   exfalso;have zF:x∈Region.ready .any jx l:=by rw [GN];simp
   obtain ⟨h0,o,hox,_⟩:=mem_ready.1 zF;have dW:=(IR.1 hox).1;have:=Oe x (by omega);unfold kU at this;have Ki:x<l.size:=by omega
   simp [Ki] at this h0;rw [this] at h0;cases h0
 |succ Al ih=>
  intro l im loc a w hl akq Vf hv;refine ⟨fun GS=>hQ im loc a w _ (full l hl GS) hv,fun i hi=>?_⟩;obtain ⟨h0,o,hox,rV⟩:=mem_ready.1 hi;have dW:=(IR.1 hox).1;have Ki:i<l.size:=by omega
  have hx:=lw (show i<(aj3 ops) by omega);have akr: ∀j,Ve jT j i->kU l j:=by
   intro j hj;obtain ⟨e,he,hb,h⟩:=(wz (hm i o hox)).2 j hj;have mB:kU l e.on:=rV e (by simpa using he) hb;rcases h with rfl|h
   · exact mB
   exact Vf _ _ mB h
  have GI: ¬kU l i:=by unfold kU;simp [Ki] at h0 ⊢;exact h0
  refine Inv.wpOp hE hr ho hv {lt:=by omega,nd:=GI,pre:=fun j _ h=>akr j h,fh:=fun k _ h1 j _ h2=>Vf k j h1 h2} hx hox (hc i _ _ hx hox) fun eO bu a' w' h'=>?_
  have e:plus (kU l) i=kU (l.setIfInBounds i aj8):=by
   funext j
   apply propext;unfold plus kU
   by_cases nJ:i=j
   · subst nJ;simp [Ki]
   simp only [getD_set_ne aj9 nJ]
   exact ⟨fun h=>h.elim id fun h=>absurd h.symm nJ,.inl⟩
  rw [e] at h';refine ih _ eO bu a' w' (by simpa using hl) ?_ ?_ h'
  · rw [Array.toList_setIfInBounds,List.count_set (by simpa using Ki)]
    have:l.toList[i]=aj9:=by simp [Ki] at h0;simpa using h0
    rw [this];simp only [Array.count_toList] at akq ⊢;simp;omega
  intro k j hk hj
  rw [<- e] at hk ⊢;rcases hk with hk|rfl
  · exact .inl (Vf k j hk hj)
  exact .inl (akr j hj)
theorem ER.gG {st:Env} {gG:List Nat} (h:ER im loc st a.tmps):ER im loc (gG.map fun s=>(s,lk s st)) a.tmps:=by
 intro t;have:lk t (gG.map fun s=>(s,lk s st))=lk t st\/lk t (gG.map fun s=>(s,lk s st))= .undef:=by
  induction gG with
  |nil=>exact .inr rfl
  |cons s r ih=>
   simp only [List.map_cons,rU];split
   · rename_i e;subst e;exact .inl rfl
   exact ih
 rcases this with h'|h'
 · rw [h'];exact h t
 rw [h'];exact .undef _
structure xA (im:Im) (loc:Loc) (nt:Nat) (st:St) (a:Act):Prop where
 env:ER im loc st.env a.tmps
 defers:a.defers=[]
 L1:a.tmps.size=nt
theorem Kept.world {jI : cI} {st : St} {w1 : World} (h : Kept im0 loc0 jI w1 st im loc w) (hh : w1.heap = w0.heap) (ho : w1.os = w0.os) (ht : Tape w0 w1) (hp : w1.output = w0.output) : Kept im0 loc0 jI w0 st im loc w :=
  { sr := h.sr, iw := h.iw, eF := h.eF, os := h.os.trans ho, tape := h.tape.trans ht, output := h.output.trans hp, size := by have := h.size; rw [hh] at this; exact this
    frame := by have := h.frame; rw [hh] at this; exact this
    eQ := by have := h.eQ; rw [hh] at this; exact this
    oZ := h.oZ
    own := by have := h.own; rw [hh] at this; exact this }
theorem SR.world {aD:cI} {fz:List Nat} {w1:World} (h:SR im loc aD fz w) (hh:w1.heap=w.heap):SR im loc aD fz w1 where
 bQ:=by rw [hh];exact h.bQ
 eh:=fun t li hl=>let ⟨k,h1,h2⟩:=h.eh t li hl;⟨k,h1,h2.mono (.refl _) (.refl _) (by rw [hh])⟩
 jV:=h.jV
 free:=h.free
theorem Mr (hE:ID P F rec) (qB:P.follows .mixedOrders=aj8) {draw:Option (List Nat)} {gG:List Nat} {id:Nat} {flag:Bool} {st lA:St}
 (hc:Ct P prims nt draw ops jx flag=aj8) (gW:lT F rec draw ops gG st=aj6 lA) (oW:SR im0 loc0 st.aD st.fz w0) (ha:xA im0 loc0 nt st a) {Q:Exit->Act->World->Prop}
 (hQ: ∀im loc a' w',Kept im0 loc0 st.aD w0 lA im loc w'->xA im loc nt lA a'->Q .normal a' w'):(Code.region id jx flag).wp P Q a w0:=by
 unfold Ct at hc;simp only [rc] at hc;obtain ⟨PW,hd⟩:=hc;obtain ⟨dd,Vg⟩:=Be PW;have dd:(aj3 ops)=jx.size:=by simpa using dd
 have Vg: ∀(i:Nat) (x:bW) (o:Oper),ops[i]? =aj6 x->jx[i]? =aj6 o->rW P prims nt jx x o=aj8:=fun i x o hx ho=>Vg i x o hx (by simpa using ho)
 unfold lT at gW;cases he:mT F rec ops st [] with
 |none=>rw [he] at gW;cases gW
 |some q=>
  obtain ⟨oh,tr⟩:=q;rw [he] at gW;dsimp only at gW;obtain ⟨S,X,h0,hn,hr,htr⟩:=Cq ops st [] oh tr he;have fin: ∀(w1:World),w1.heap=w0.heap->w1.os=w0.os->Tape w0 w1->w1.output=w0.output->lA={oh with env:=gG.map fun s=>(s,lk s oh.env)}-> ∀im loc a' w' (done:Nat->Prop),(∀i,i<aj3 ops->done i)->
   Inv ops S X im0 loc0 w1 nt done im loc a' w'->Q .normal a' w':=by
   intro w1 q1 q2 q3 q4 cA im loc a' w' done hdn hv;obtain ⟨hk,her,hdf,hns⟩:=hv.finish hr hdn;rw [hn] at hk her;rw [h0] at hk;subst cA;have hk:=hk.world q1 q2 q3 q4;exact hQ im loc a' w' {sr:=hk.sr,iw:=hk.iw,eF:=hk.eF,os:=hk.os,tape:=hk.tape,output:=hk.output,size:=hk.size,frame:=hk.frame,eQ:=hk.eQ,oZ:=hk.oZ,own:=hk.own} ⟨her.gG,hdf,hns⟩
  cases draw with
  |none=>
   dsimp only at hd gW;have:flag=aj9:=by simpa using hd
   subst this;injection gW with gW;refine wp_region ?_;rw [List.range_eq_range'];refine EP hE hr Vg dd (fun im loc a w hv=>fin w0 rfl rfl (.refl _) rfl gW.symm im loc a w _ (fun i h=>h) hv) jx.size 0 im0 loc0 a w0 (by omega) ?_;have:=Inv.start (ops:=ops) (X:=X) (w0:=w0) h0 oW ha.env ha.defers ha.L1 hr;have e:(fun _:Nat=>False)=fun i=>i<0:=by funext i;apply propext;exact ⟨fun h=>h.elim,fun h=>by omega⟩
   rw [e] at this;exact this
  |some bf=>
   dsimp only at hd gW;simp only [rc] at hd;obtain ⟨⟨⟨rfl,hbl⟩,hmk⟩,UF⟩:=hd;have hbl:(aj3 bf)=(aj3 ops):=by simpa using hbl
   split at gW
   · rename_i Q9
     injection gW with gW;have ao0:tr.reverse=zN S X (aj3 ops):=by rw [htr];simp
     rw [ao0] at Q9;obtain ⟨_,hmk⟩:=De hmk;refine wp_region_any qB ?_;refine Kh (w0:={w0 with drawn:=w0.drawn+1}) (im0:=im0) (loc0:=loc0) hE hr (Ord.drawn hr hbl UF Q9) Vg dd ?_ (fun im loc a w done hdn hv=>fin {w0 with drawn:=w0.drawn+1} rfl rfl ⟨rfl,Nat.le_succ _⟩ rfl gW.symm im loc a w done hdn hv) jx.size _ im0 loc0 a _ (by simp [dd]) ?_ ?_ ?_
     · intro k o ho
       have dW:=(IR.1 ho).1;have hk:bf[k]? =aj6 (bf.getD k 0):=by rw [acr,lw (by omega)];rfl
       simpa using hmk k _ o hk (by simpa using ho)
     · simp [dd,List.count_replicate]
     · intro k j h
       unfold kU at h
       by_cases hk:k<jx.size<;>simp [hk] at h
     have:=Inv.start (ops:=ops) (X:=X) (w0:={w0 with drawn:=w0.drawn+1}) h0 (oW.world rfl) ha.env ha.defers ha.L1 hr
     have e:(fun _:Nat=>False)=kU (abR jx.size aj9):=by
      funext i;apply propext
      unfold kU
      by_cases hk:i<jx.size<;>simp [hk]
     rw [e] at this;exact this
   cases gW
end
end Go.Vm
/- What a function keeps from its beginning on; the head of a loop. -/
namespace Go.Vm
theorem Kept.trans {im0 D2 D3:Im} {loc0 di rl:Loc} {jI:cI} {w0 w1 w2:World} {oh v5:St} (h1:Kept im0 loc0 jI w0 oh D2 di w1) (h2:Kept D2 di oh.aD w1 v5 D3 rl w2) (hl:(aj3 jI)<=aj3 oh.aD):
 Kept im0 loc0 jI w0 v5 D3 rl w2 where
 sr:=h2.sr
 iw:=h1.iw.trans h2.iw
 eF:=h1.eF.trans h2.eF
 os:=h2.os.trans h1.os
 tape:=h2.tape.trans h1.tape
 output:=h2.output.trans h1.output
 size:=aa4 h1.size h2.size
 frame:=fun b hb hh=>by
  rw [h2.frame b (abS hb h1.size) fun t li k hl hs mD Q8=>?_]
  · exact h1.frame b hb hh
  rcases h1.own t li k hl hs mD with h|⟨u,lu,ku,g1,g2,g3,g4⟩
  · omega
  exact hh u lu ku g1 g2 g3 (by omega)
 eQ:=fun b o hb=>by
  rcases h2.eQ b o hb with h|h|⟨t,li,k,g1,g2,g3,g4⟩
  · exact h1.eQ b o h
  · exact .inr (.inl (aa4 h1.size h))
  rcases h1.own t li k g1 g2 g3 with h|⟨u,lu,ku,k1,k2,k3,k4⟩
  · exact .inr (.inl (by omega))
  exact .inr (.inr ⟨u,lu,ku,k1,k2,k3,by omega⟩)
 oZ:=fun t li h=>by
  rcases h2.oZ t li h with h|h
  · exact h1.oZ t li h
  exact .inr (aa4 hl h)
 own:=fun t li k hl hs mD=>by
  rcases h2.own t li k hl hs mD with h|⟨u,lu,ku,g1,g2,g3,g4⟩
  · exact .inl (aa4 h1.size h)
  rcases h1.own u lu ku g1 g2 g3 with h|⟨u',lu',ku',k1,k2,k3,k4⟩
  · exact .inl (by omega)
  exact .inr ⟨u',lu',ku',k1,k2,k3,by omega⟩
structure zO (im0:Im) (loc0:Loc) (jI:cI) (w0:World) (st:St) (im:Im) (loc:Loc) (w:World):Prop where
 kept:Kept im0 loc0 jI w0 st im loc w
 kn:st.kn=aj3 jI
 len:(aj3 jI)<=aj3 st.aD
 dom: ∀t li,loc0 t=aj6 li->t<aj3 jI
theorem EU {F:mY} {rec:Task->Option Out}: ∀(ops:List bW) (st:St) (tr:List Tr) (lA:St) (PQ:List Tr),mT F rec ops st tr=aj6 (lA,PQ)->lA.kn=st.kn
 | [],st,tr,lA,PQ,h=>by simp only [mT,ut,EQ] at h;rw [h.1]
 |o::l,st,tr,lA,PQ,h=>by
  simp only [mT] at h;split at h
  · split at h
    · rename_i x hx
      split at h
      · have:=EU l _ _ lA PQ h
        rw [this];cases x<;>rfl
      cases h
    cases h
  · have:=EU l _ _ lA PQ h
    exact this
  cases h
theorem IE {F:mY} {rec:Task->Option Out} {draw:Option (List Nat)} {ops:List bW} {gG:List Nat} {st lA:St} (h:lT F rec draw ops gG st=aj6 lA):lA.kn=st.kn/\aj3 st.aD<=(aj3 lA.aD):=by
 unfold lT at h;cases he:mT F rec ops st [] with
 |none=>rw [he] at h;cases h
 |some q=>
  obtain ⟨oh,tr⟩:=q;rw [he] at h;dsimp only at h;obtain ⟨S,X,h0,hn,hr,_⟩:=Cq ops st [] oh tr he;have h1:=EU ops st [] oh tr he;have h2:=hr.iR (abI (aj3 ops)) (Do _);rw [h0,hn] at h2;cases draw with
  |none=>dsimp only at h;injection h with h;subst h;exact ⟨h1,h2⟩
  |some bf=>
   dsimp only at h;split at h
   · injection h with h;subst h;exact ⟨h1,h2⟩
   cases h
section
variable {im : Im} {loc di : Loc} {m : List Nat}
theorem Kj {fz:List Nat}: ∀{l:List Nat} {i0 u t:Nat},l[u]? =aj6 t->(i0+u)∉xV fz i0 l->t∉fz
 | [],i0,u,t,h,_=>by simp at h
 |s::r,i0,u,t,h,hn=>by
  simp only [xV] at hn;cases u with
  |zero=>simp at h;subst h;intro hf;rw [lm (pV.2 hf)] at hn;exact hn (by simp)
  |succ u=>
   refine Kj (l:=r) (i0:=i0+1) (u:=u) (by simpa using h) fun zF=>?_
   rw [show i0+(u+1)=i0+1+u by omega] at hn;split at hn
   · exact hn (ac5 _ zF)
   exact hn zF
theorem EV {aD:cI}: ∀{n:Nat} {ts seen:List Nat} {m:List Nat},reach aD n ts seen=aj6 m->(∃l,m=seen++l)/\(seen.Nodup->m.Nodup)
 |_,[],seen,m,h=>by
  have h:aj6 seen=aj6 m:=by rw [<- h];unfold reach;cases ‹Nat› <;>rfl
  injection h with h;subst h;exact ⟨⟨[],by simp⟩,id⟩
 |0,_::_,seen,m,h=>by simp [reach] at h
 |n+1,t::ts,seen,m,h=>by
  simp only [reach] at h;split at h
  · exact EV h
  rename_i hn
  split at h
  · obtain ⟨⟨l,hl⟩,h2⟩:=EV h
    refine ⟨⟨t::l,by rw [hl];simp⟩,fun hd=>h2 ?_⟩;rw [aiH];refine ⟨hd,by simp,fun a ha b hb=>?_⟩;have:b=t:=by simpa using hb
    subst this;intro e;subst e;exact hn (pV.2 ha)
  cases h
theorem Kk: ∀{n i:Nat},i<n->(vg n)[i]? =aj6 i
 |n+1,i,h=>by
  have hl: ∀n,(vg n).length=n:=by
   intro n;induction n with
   |zero=>rfl
   |succ n ih=>simp [vg,ih]
  simp only [vg];rcases UV i n with h'|h'
  · rw [ww (by rw [hl];exact h')];exact Kk h'
  rw [If (by rw [hl];exact h'),hl]
  have:i=n:=by omega
  subst this;simp
theorem Kl: ∀{n i:Nat},i∈vg n->i<n
 |n+1,i,h=>by
  simp only [vg,abJ,abM] at h;rcases h with h|h
  · have:=Kl h;omega
  omega
theorem EW: ∀n,(vg n).Nodup
 |0=>by simp [vg]
 |n+1=>by
  simp only [vg];rw [aiH];refine ⟨EW n,by simp,fun a ha b hb=>?_⟩;have:=Kl ha;have:b=n:=by simpa using hb
  omega
end
end Go.Vm
/- The head of a loop. -/
namespace Go.Vm
def PX (s2:cI):Prop:= ∀(j:Nat) (k:lz),s2[j]? =aj6 k-> ∃e,k= .arr e []
theorem VR.G5 {im:Im} {loc:Loc} {x:PV} {u:Value} (h:VR im loc x u): ∀k:Option Nat,VR im loc (G5 k x) u
 |none=>h
 |some _=>by
  cases h with
  |own t esz off len cap ex li a dh hl he hn hc hx hk h=>exact .own t esz off len cap aj9 li a dh hl he hn hc hx (fun h=>by cases h) h
  |undef=>exact .undef _
  |ke=>exact .ke
  |int k n=>exact .int k n
  |bool b=>exact .bool b
  |str s=>exact .str s
  |agg cs vs h=>exact .agg cs vs h
  |b8 cs vs h=>exact .b8 cs vs h
  |sl e c r a cap h1 h2 h3=>exact .sl e c r a cap h1 h2 h3
  |ptr t e r o li h1 h2 h3=>exact .ptr t e r o li h1 h2 h3
  |bM cs off b o vs h hv=>exact .bM cs off b o vs h hv
  |mp t li hl=>exact .mp t li hl
  |fh fn a b as bs ha hb=>exact .fh fn a b as bs ha hb
  |eo=>exact .eo
theorem Am {im:Im} {loc di:Loc} {m:List Nat} {e:Env} {tmps:Array Value} (hm:Ren m loc di) (he:ER im loc e tmps): ∀{live:List (Nat×Option Nat)} {nx:Nat} {e1:Env} {s2:cI},rQ e m nx live=aj6 (e1,s2)->
 PX s2/\((∀(j:Nat) (esz:Nat),s2[j]? =aj6 (.arr esz [])->di (nx+j)=aj6 ⟨0,0,esz,0,0⟩)->ER im di e1 tmps)
 | [],nx,e1,s2,h=>by simp only [rQ,ut,EQ] at h;obtain ⟨rfl,rfl⟩:=h;exact ⟨fun j k h=>by simp at h,fun _ t=> .undef _⟩
 |(s,k)::r,nx,e1,s2,h=>by
  have hs:=he s;simp only [rQ] at h;split at h
  · rename_i esz e' uN
    rw [AC] at h;obtain ⟨⟨e2,s3⟩,h1,h2⟩:=h;simp only [EQ] at h2;obtain ⟨rfl,rfl⟩:=h2;obtain ⟨g1,g2⟩:=Am hm he h1;refine ⟨fun j k hj=>?_,fun hl t=>?_⟩
    · cases j with
      |zero=>simp at hj;exact ⟨_,hj.symm⟩
      |succ j=>exact g1 j k (by simpa using hj)
    rw [rU]
    split
    · rename_i e;subst e
      rw [uN] at hs;generalize hg:tmps.getD s Go.undef=v at hs;cases hs with
      |sl _ _ _ a cap h1 h2 h3=>
      have:cap=0:=by simpa using h2 rfl
      subst this;exact .own nx esz 0 0 0 aj9 ⟨0,0,esz,0,0⟩ a 0 (by simpa using hl 0 esz rfl) rfl (Do _) (Do _) (Do _) (fun h=>by cases h) (.inl rfl)
    refine g2 (fun j ao1 hj=>?_) t
    have:=hl (j+1) ao1 (by simpa using hj);rw [show nx+1+j=nx+(j+1) by omega];exact this
  split at h
  · rename_i v' p h1 h2
    injection h with h;simp only [EQ] at h;obtain ⟨rfl,rfl⟩:=h;obtain ⟨g1,g2⟩:=Am hm he (e1:=p.1) (s2:=p.2) h2;refine ⟨g1,fun hl t=>?_⟩;rw [rU];split
    · rename_i e;subst e
      exact (Rc hm hs h1).G5 _
    exact g2 hl t
  cases h
theorem fF.setAt {im:Im} {loc:Loc} {x:PV}: ∀{xs:List PV} {vs:List Value} {c:Nat} {y:PV},fF im loc xs vs->xs[c]? =aj6 y->(∀v,VR im loc y v->VR im loc x v)->fF im loc (xs.set c x) vs
 | [],_,c,y,h,hc,_=>by simp at hc
 |z::zs,vs,c,y,h,hc,hx=>by
  cases h with
  |cons _ v _ us g1 g2=>
   cases c with
   |zero=>simp at hc;subst hc;exact .cons _ _ _ _ (hx v g1) g2
   |succ c=>exact .cons _ _ _ _ g1 (fF.setAt g2 (by simpa using hc) hx)
theorem Ms {im0 im:Im} {loc0 loc:Loc} {jI:cI} {w0 w:World} {nt:Nat} {st:St} {a:Act} (t c esz:Nat) (hk:zO im0 loc0 jI w0 st im loc w) (ha:xA im loc nt st a):
 ∃di,zO im0 loc0 jI w0 (rR st t c esz) im di w/\xA im di nt (rR st t c esz) a:=by
 unfold rR;split
 · rename_i cs hb
   split
   · rename_i e hc
     have sr:=hk.kept.sr;have aks: ∀u li,loc u=aj6 li->u<(aj3 st.aD):=fun u li h=>by obtain ⟨k,h1,_⟩:=sr.eh u li h;exact cJ h1
     have hn:loc (aj3 st.aD)=aj7:=by
      cases h:loc (aj3 st.aD) with
      |none=>rfl
      |some li=>exact absurd (aks _ _ h) (Nat.lt_irrefl _)
     let di:Loc:=fun u=>if u=(aj3 st.aD) then aj6 ⟨0,0,esz,0,0⟩ else loc u
     have mB:mN loc di:=fun u li h=>by have:=aks u li h;simp only [di,show u≠(aj3 st.aD) by omega,if_false];exact h
     have back: ∀u li,di u=aj6 li->u≠aj3 st.aD->loc u=aj6 li:=fun u li h hu=>by simpa only [di,hu,if_false] using h
     have UI:t<(aj3 st.aD):=cJ hb;have get: ∀u,u<aj3 st.aD->(st.aD.set t (.box (cs.set c (.own (aj3 st.aD) esz 0 0 0 aj9)))++[.arr esz []])[u]? =if t=u then aj6 (.box (cs.set c (.own (aj3 st.aD) esz 0 0 0 aj9))) else st.aD[u]?:=fun u hu=>by
      rw [ww (by simpa using hu),aiL];split
      · rename_i e;subst e;simp
      rfl
     have akt:(st.aD.set t (.box (cs.set c (.own (aj3 st.aD) esz 0 0 0 aj9)))++[.arr esz []])[aj3 st.aD]? =aj6 (.arr esz []):=by rw [If (by simp)];simp
     have bT: ∀(u:Nat) (k:lz),(st.aD.set t (.box (cs.set c (.own (aj3 st.aD) esz 0 0 0 aj9)))++[.arr esz []])[u]? =aj6 k->k.bT=aj8->u≠aj3 st.aD/\ ∃k0:lz,st.aD[u]? =aj6 k0/\k0.bT=aj8:=by
      intro u k hu hs;have dW:=cJ hu;simp only [abT,aiY,List.length_singleton] at dW;have dK:u≠(aj3 st.aD):=by intro e;subst e;rw [akt] at hu;injection hu with hu;subst hu;cases hs
      refine ⟨dK,?_⟩;rw [get u (by omega)] at hu;split at hu
      · rename_i e;subst e;exact ⟨_,hb,rfl⟩
      exact ⟨k,hu,hs⟩
     refine ⟨di,⟨⟨?_,hk.kept.iw,hk.kept.eF.trans mB,hk.kept.os,hk.kept.tape,hk.kept.output,hk.kept.size,hk.kept.frame,hk.kept.eQ,fun u li h=>?_,fun u li k h hs mD=>?_⟩,hk.kn,?_,hk.dom⟩,⟨ha.env.mono (oj.refl _) mB,ha.defers,ha.L1⟩⟩
     · refine {
        bQ:=sr.bQ
        eh:=fun u li hl=>?_
        jV:=fun u u' li lj k k' hl mS hs we mD Hc hbk=>?_
        free:=fun u li k hl hs mD hz=>?_}
       · by_cases hu:u=aj3 st.aD
         · subst hu
           simp only [di,if_true] at hl;injection hl with hl;subst hl;exact ⟨_,akt,rfl,rfl,fun h=>absurd rfl h⟩
         have LX:=back u li hl hu
         obtain ⟨k,h1,h2⟩:=sr.eh u li LX;show∃k,(st.aD.set t (.box (cs.set c (.own (aj3 st.aD) esz 0 0 0 aj9)))++[.arr esz []])[u]? =aj6 k/\BR im di w li k;rw [get u (cJ h1)];split
         · rename_i et;subst et
           rw [hb] at h1;injection h1 with h1;subst h1;obtain ⟨g1,g2,g3,vs,el,g4,g5,g6⟩:=h2;refine ⟨_,rfl,by simpa using g1,g2,g3,vs,el,g4,g5,(g6.mono (oj.refl _) mB).setAt hc fun v hv=>?_⟩;cases hv with
           |sl _ _ _ a' cap h1 h2 h3=>
           have:cap=0:=by simpa using h2 rfl
           subst this;exact .own _ esz 0 0 0 aj9 ⟨0,0,esz,0,0⟩ a' 0 (by simp only [di,if_true]) rfl (Do _) (Do _) (Do _) (fun h=>by cases h) (.inl rfl)
         exact ⟨k,h1,h2.mono (oj.refl _) mB rfl⟩
       · obtain ⟨n1,k0,g1,g2⟩:=bT u k hs mD
         obtain ⟨n2,k0',g1',g2'⟩:=bT u' k' we Hc;exact sr.jV u u' li lj k0 k0' (back _ _ hl n1) (back _ _ mS n2) g1 g1' g2 g2' hbk
       obtain ⟨n1,k0,g1,g2⟩:=bT u k hs mD
       exact sr.free u li k0 (back _ _ hl n1) g1 g2 hz
     · by_cases hu:u=aj3 st.aD
       · right;have:=hk.len;omega
       exact hk.kept.oZ u li (back u li h hu)
     · obtain ⟨n1,k0,g1,g2⟩:=bT u k hs mD
       exact hk.kept.own u li k0 (back _ _ h n1) g1 g2
     have:=hk.len
     show (aj3 jI)<=(st.aD.set t (.box (cs.set c (.own (aj3 st.aD) esz 0 0 0 aj9)))++[lz.arr esz []]).length;simp only [abT,aiY];omega
   exact ⟨loc,hk,ha⟩
 exact ⟨loc,hk,ha⟩
theorem qC {im0 im:Im} {loc0:Loc} {jI:cI} {w0 w:World} {nt:Nat} {a:Act}: ∀(live:List (Nat×Option Nat)) {st:St} {loc:Loc},zO im0 loc0 jI w0 st im loc w->xA im loc nt st a->
 ∃di,zO im0 loc0 jI w0 (ld live st) im di w/\xA im di nt (ld live st) a
 | [],st,loc,hk,ha=>⟨loc,hk,ha⟩
 |(s,k)::r,st,loc,hk,ha=>by
  simp only [ld];split
  · split
    · split
      · rename_i t _
        obtain ⟨di,h1,h2⟩:=Ms t _ _ hk ha;exact qC r h1 h2
      exact qC r hk ha
    exact qC r hk ha
  exact qC r hk ha
theorem Km {im0 im:Im} {loc0 loc:Loc} {jI:cI} {w0 w:World} {nt:Nat} {live:List (Nat×Option Nat)} {st oh:St} {a:Act} (h:Ej live st=aj6 oh) (hk:zO im0 loc0 jI w0 st im loc w) (ha:xA im loc nt st a):
 ∃di,zO im0 loc0 jI w0 oh im di w/\xA im di nt oh a:=by
 unfold Ej at h;split at h
 · cases h
 rename_i m ac8
 split at h
 · rename_i s1 e1 s2 hs1 hlv
   injection h with h;subst h;refine (fun hh: ∃di,zO im0 loc0 jI w0 {env:=e1,aD:=s1++s2,fz:=xV st.fz 0 m,kn:=st.kn} im di w/\xA im di nt {env:=e1,aD:=s1++s2,fz:=xV st.fz 0 m,kn:=st.kn} a=>
    let ⟨_,g1,g2⟩:=hh;qC live g1 g2) ?_
   obtain ⟨⟨ml,UE⟩,GI⟩:=EV ac8;have GI:=GI (EW _);obtain ⟨G9,Iz⟩:=Ca hs1;have aku: ∀n,(vg n).length=n:=by
    intro n;induction n with
    |zero=>rfl
    |succ n ih=>simp [vg,ih]
   have hid: ∀t,t<st.kn->m[t]? =aj6 t:=by intro t ht;rw [UE,ww (by rw [aku];exact ht)];exact Kk ht
   have atp:st.kn<=(aj3 m):=by rw [UE];simp [aku]
   let di:Loc:=fun u=>if u<(aj3 m) then (match m[u]? with|some t=>loc t|none=>aj7) else match s2[u-(aj3 m)]? with
    |some (.arr e [])=>aj6 ⟨0,0,e,0,0⟩
    |_=>aj7
   have EK:Ren m loc di:=by intro u t hu;have:=cJ hu;simp only [di,this,if_true,hu]
   obtain ⟨ao2,her⟩:=Am EK ha.env hlv;have old: ∀u li,di u=aj6 li->u<aj3 m-> ∃t,m[u]? =aj6 t/\loc t=aj6 li:=by intro u li hl hu;have e:=lw hu;rw [EK u _ e] at hl;exact ⟨_,e,hl⟩
   have akv: ∀u,u<aj3 m->(s1++s2)[u]? =s1[u]?:=fun u hu=>ww (by rw [G9];exact hu)
   have akw: ∀u,¬u<aj3 m->(s1++s2)[u]? =s2[u-(aj3 m)]?:=fun u hu=>by rw [If (by rw [G9];omega),G9]
   have zc: ∀(u:Nat) (k:lz),(s1++s2)[u]? =aj6 k->k.bT=aj8->u<(aj3 m):=by
    intro u k hs mD;rcases UV u (aj3 m) with h|h
    · exact h
    rw [akw u (by omega)] at hs
    obtain ⟨e,rfl⟩:=ao2 _ _ hs;cases mD
   have back: ∀(u:Nat) (k:lz),(s1++s2)[u]? =aj6 k-> ∀t,m[u]? =aj6 t-> ∃k0:lz,st.aD[t]? =aj6 k0/\k.bT=k0.bT:=by intro u k hs t ht;obtain ⟨k0,k',g1,g2,g3⟩:=Iz u t ht;rw [akv u (cJ ht),g3] at hs;injection hs with hs;subst hs;exact ⟨k0,g1,A4 g2⟩
   have sr:=hk.kept.sr;have ac':SR im di (s1++s2) (xV st.fz 0 m) w:=by
    refine {
     bQ:=sr.bQ
     eh:=fun u li hl=>?_
     jV:=fun u u' li lj k k' hl mS hs we mD Hc hb=>?_
     free:=fun u li k hl hs mD hz=>?_}
    · by_cases hu:u<aj3 m
      · obtain ⟨t,ht,dW⟩:=old u li hl hu
        obtain ⟨k0,h1,h2⟩:=sr.eh t li dW;obtain ⟨k1,k',g1,g2,g3⟩:=Iz u t ht;rw [h1] at g1;injection g1 with g1;subst g1;exact ⟨k',by rw [akv u hu];exact g3,G7 EK g2 h2⟩
      simp only [di,hu,if_false] at hl
      split at hl
      · rename_i e he
        injection hl with hl;subst hl;exact ⟨.arr e [],by rw [akw u hu];exact he,rfl,rfl,fun h=>absurd rfl h⟩
      cases hl
    · have hu:=zc u k hs mD
      have B3:=zc u' k' we Hc;obtain ⟨t,ht,dW⟩:=old u li hl hu;obtain ⟨t',Of,Ki⟩:=old u' lj mS B3;obtain ⟨k0,g1,g2⟩:=back u k hs t ht;obtain ⟨k0',g1',g2'⟩:=back u' k' we t' Of;have:=sr.jV t t' li lj k0 k0' dW Ki g1 g1' (by rw [<- g2];exact mD) (by rw [<- g2'];exact Hc) hb;subst this;have pw:=acx.1 GI;have e1:=(v6.1 ht).2;have e2:=(v6.1 Of).2;rcases PP u u' with h|h|h
      · exact absurd (e1.trans e2.symm) (pw u u' hu B3 h)
      · exact h
      exact absurd (e2.trans e1.symm) (pw u' u B3 hu h)
    have hu:=zc u k hs mD
    obtain ⟨t,ht,dW⟩:=old u li hl hu;obtain ⟨k0,g1,g2⟩:=back u k hs t ht;refine sr.free t li k0 dW g1 (by rw [<- g2];exact mD) (kr.2 ?_);exact Kj (i0:=0) ht (by have:=kr.1 hz;simpa using this)
   refine ⟨di,⟨⟨ac',hk.kept.iw,fun t li hl=>?_,hk.kept.os,hk.kept.tape,hk.kept.output,hk.kept.size,hk.kept.frame,hk.kept.eQ,fun t li hl=>?_,fun u li k hl hs mD=>?_⟩,hk.kn,?_,hk.dom⟩,
    ⟨her fun j esz hj=>?_,ha.defers,ha.L1⟩⟩
   · have h1:=hk.kept.eF t li hl
     have ht:t<st.kn:=by rw [hk.kn];exact hk.dom t li hl
     rw [EK t t (hid t ht)];exact h1
   · rcases UV t st.kn with ht|ht
     · rw [EK t t (hid t ht)] at hl
       exact hk.kept.oZ t li hl
     right;rw [hk.kn] at ht;exact ht
   · have hu:=zc u k hs mD
     obtain ⟨t,ht,dW⟩:=old u li hl hu;obtain ⟨k0,g1,g2⟩:=back u k hs t ht;exact hk.kept.own t li k0 dW g1 (by rw [<- g2];exact mD)
   · rw [<- hk.kn]
     simp only [abT];omega
   simp only [di,show¬aj3 m+j<(aj3 m) by omega,if_false,show (aj3 m)+j-(aj3 m)=j by omega,hj]
 exact (by cases h)
theorem Vh {im0 im:Im} {loc0 loc:Loc} {jI:cI} {w0 w:World} {nt:Nat} {live:List (Nat×Option Nat)} {st oh:St} {a:Act} (h:norm live st=aj6 oh) (hk:zO im0 loc0 jI w0 st im loc w) (ha:xA im loc nt st a):
 ∃di,zO im0 loc0 jI w0 oh im di w/\xA im di nt oh a:=by
 unfold norm at h;cases h1:Ej live st with
 |none=>rw [h1] at h;cases h
 |some s=>
  rw [h1] at h;dsimp only at h;obtain ⟨di,jG,vq⟩:=Km h1 hk ha;split at h
  · exact Km h jG vq
  injection h with h
  subst h;exact ⟨di,jG,vq⟩
end Go.Vm
/- The code of a function; what it returns. -/
namespace Go.Vm
def gY (P:Program) (prims:FuncId->Bool) (nt:Nat):jR->Code->Bool
 | .skip,.skip=>aj8
 | .region d ops _,.region _ jx flag=>Ct P prims nt d ops jx flag
 | .seq a b,.seq c d=>gY P prims nt a c&&gY P prims nt b d
 | .cond c a b,.cond c' a' b'=>bH c c'&&gY P prims nt a a'&&gY P prims nt b b'
 | .block id b,.block id' b'=>id==id'&&gY P prims nt b b'
 | .loop _ b,.loop b'=>gY P prims nt b b'
 | .exit id,.exit id'=>id==id'
 | .ret,.ret=>aj8
 |_,_=>aj9
def iF.out:iF->Exit
 | .normal=> .normal
 | .exit id=> .exit id
 | .ret=> .ret
section
variable {P : Program} {F : mY} {rec : Task -> Option Out} {im0 : Im} {loc0 : Loc} {jI : cI} {w0 : World} {nt : Nat} {prims : FuncId -> Bool}
structure At (im0:Im) (loc0:Loc) (jI:cI) (w0:World) (nt:Nat) (st:St) (a:Act) (w:World):Prop where
 ex: ∃im loc,zO im0 loc0 jI w0 st im loc w/\xA im loc nt st a
def Cu (P : Program) (prims : FuncId -> Bool) (rec : Task -> Option Out) : Prop :=
  ∀ (live : List (Nat × Option Nat)) (x : jR) (st : St) (e : iF) (lA : St), rec (.loop live x st) = aj6 (.code e lA) ->
    ∀ (c : Code) (nt : Nat) (im0 : Im) (loc0 : Loc) (jI : cI) (w0 : World) (a : Act) (w : World), gY P prims nt x c = aj8 -> At im0 loc0 jI w0 nt st a w ->
      ∀ (b : Frame) (k : List Item) (cs : List Frame), ∃ a' w', At im0 loc0 jI w0 nt lA a' w' /\ Arrives P (lone (b.at a (.code c :: .inLoop c :: k)) cs w) b k cs e.out a' w'
theorem lg (hE:ID P F rec) (hL:Cu P prims rec) (qB:P.follows .mixedOrders=aj8): ∀(x:jR) (c:Code) (st:St) (e:iF) (lA:St),gY P prims nt x c=aj8->tB F rec x st=aj6 (e,lA)->
 ∀(a:Act) (w:World),At im0 loc0 jI w0 nt st a w-> ∀(Q:Exit->Act->World->Prop),(∀a' w',At im0 loc0 jI w0 nt lA a' w'->Q e.out a' w')->c.wp P Q a w
 | .skip,c,st,e,lA,hc,gW,a,w,ha,Q,hQ=>by
  cases c<;>simp only [gY,M2] at hc
  simp only [tB,ut,EQ] at gW;obtain ⟨rfl,rfl⟩:=gW;exact wp_skip (hQ _ _ ha)
 | .region d ops gG,c,st,e,lA,hc,gW,a,w,ha,Q,hQ=>by
  cases c<;>simp only [gY,M2] at hc
  simp only [tB,AC] at gW;obtain ⟨oh,gW,h⟩:=gW;simp only [EQ] at h;obtain ⟨rfl,rfl⟩:=h;obtain ⟨im,loc,hk,EX⟩:=ha.ex;refine Mr hE qB hc gW hk.kept.sr EX fun eO bu a' w' Mt JC=>hQ a' w' ⟨eO,bu,?_,JC⟩
  obtain ⟨h1,h2⟩:=IE gW;exact ⟨hk.kept.trans Mt hk.len,by rw [h1];exact hk.kn,aa4 hk.len h2,hk.dom⟩
 | .seq x y,c,st,e,lA,hc,gW,a,w,ha,Q,hQ=>by
  cases c<;>simp only [gY,M2,rc] at hc
  obtain ⟨h1,h2⟩:=hc;simp only [tB] at gW;refine wp_seq ?_;cases hx:tB F rec x st with
  |none=>rw [hx] at gW;cases gW
  |some q=>
   obtain ⟨e1,oh⟩:=q;rw [hx] at gW;refine lg hE hL qB x _ st e1 oh h1 hx a w ha _ fun a' w' JC=>?_
   cases e1 with
   |normal=>exact lg hE hL qB y _ oh e lA h2 gW a' w' JC Q hQ
   |exit id=>simp only [ut,EQ] at gW;obtain ⟨rfl,rfl⟩:=gW;exact hQ a' w' JC
   |ret=>simp only [ut,EQ] at gW;obtain ⟨rfl,rfl⟩:=gW;exact hQ a' w' JC
 | .cond cc x y,c,st,e,lA,hc,gW,a,w,ha,Q,hQ=>by
  cases c<;>simp only [gY,M2,rc] at hc
  obtain ⟨⟨h0,h1⟩,h2⟩:=hc;obtain ⟨im,loc,hk,EX⟩:=ha.ex;have hv:=Mq (a:=a) (e:=st.env) cc (fun t _=>EX.env t) _ h0;simp only [tB] at gW;split at gW
  · rename_i hb
    rw [hb] at hv;exact wp_cond_true hv.kq (lg hE hL qB x _ st e lA h1 gW a w ha Q hQ)
  · rename_i hb
    rw [hb] at hv;exact wp_cond_false hv.kq (lg hE hL qB y _ st e lA h2 gW a w ha Q hQ)
  cases gW
 | .block id x,c,st,e,lA,hc,gW,a,w,ha,Q,hQ=>by
  cases c<;>simp only [gY,M2,rc,beq_iff_eq] at hc
  obtain ⟨rfl,h1⟩:=hc;refine wp_block ?_;simp only [tB] at gW;cases hx:tB F rec x st with
  |none=>rw [hx] at gW;cases gW
  |some q=>
   obtain ⟨e1,oh⟩:=q;rw [hx] at gW;refine lg hE hL qB x _ st e1 oh h1 hx a w ha _ fun a' w' JC=>?_
   cases e1 with
   |normal=>simp only [ut,EQ] at gW;obtain ⟨rfl,rfl⟩:=gW;exact hQ a' w' JC
   |ret=>simp only [ut,EQ] at gW;obtain ⟨rfl,rfl⟩:=gW;exact hQ a' w' JC
   |exit j=>
    dsimp only at gW;simp only [iF.out,Exit.inBlock];split at gW
    · rename_i hj
      have:j=id:=by simpa using hj
      simp only [ut,EQ] at gW;obtain ⟨rfl,rfl⟩:=gW;rw [lm this];exact hQ a' w' JC
    rename_i hj
    have:j≠id:=by simpa using hj
    simp only [ut,EQ] at gW;obtain ⟨rfl,rfl⟩:=gW;rw [ls this];exact hQ a' w' JC
 | .loop live x,c,st,e,lA,hc,gW,a,w,ha,Q,hQ=>by
  cases c<;>simp only [gY,M2] at hc
  simp only [tB] at gW;split at gW
  · rename_i e1 oh hr
    simp only [ut,EQ] at gW;obtain ⟨rfl,rfl⟩:=gW;intro b k cs;obtain ⟨a',w',h1,h2⟩:=hL live x st _ _ hr _ nt im0 loc0 jI w0 a w hc ha b k cs;exact ⟨_,a',w',hQ a' w' h1,.of_steps (.one step_loop) h2⟩
  cases gW
 | .exit id,c,st,e,lA,hc,gW,a,w,ha,Q,hQ=>by
  cases c<;>simp only [gY,M2,beq_iff_eq] at hc
  subst hc;simp only [tB,ut,EQ] at gW;obtain ⟨rfl,rfl⟩:=gW;exact wp_exit (hQ _ _ ha)
 | .ret,c,st,e,lA,hc,gW,a,w,ha,Q,hQ=>by
  cases c<;>simp only [gY,M2] at hc
  simp only [tB,ut,EQ] at gW;obtain ⟨rfl,rfl⟩:=gW;exact wp_ret (hQ _ _ ha)
theorem PY (hE:ID P F rec) (hL:Cu P prims rec) (qB:P.follows .mixedOrders=aj8):Cu P prims (step F rec):=by
 intro live x st e lA h c nt im0 loc0 jI w0 a w hc ha b k cs;simp only [step] at h;cases hn:norm live st with
 |none=>rw [hn] at h;cases h
 |some oh=>
  rw [hn] at h;dsimp only at h;obtain ⟨im,loc,hk,EX⟩:=ha.ex;obtain ⟨di,jG,vq⟩:=Vh hn hk EX;have dt:At im0 loc0 jI w0 nt oh a w:=⟨im,di,jG,vq⟩;cases hx:tB F rec x oh with
  |none=>rw [hx] at h;cases h
  |some q=>
   obtain ⟨e1,v5⟩:=q;rw [hx] at h;have hw:=lg hE hL qB x c oh e1 v5 hc hx a w dt (fun e' a' w'=>e'=e1.out/\At im0 loc0 jI w0 nt v5 a' w') fun a' w' h=>⟨rfl,h⟩
   obtain ⟨e',a1,w1,⟨rfl,hq⟩,GU⟩:=hw b (.inLoop c::k) cs;cases e1 with
   |normal=>dsimp only at h;obtain ⟨a',w',h1,h2⟩:=hL live x v5 e lA h c nt im0 loc0 jI w0 a1 w1 hc hq b k cs;exact ⟨a',w',h1,.of_steps (Steps.trans GU (.one step_inLoop)) h2⟩
   |exit id=>simp only [ut,Out.code.injEq] at h;obtain ⟨rfl,rfl⟩:=h;exact ⟨a1,w1,hq,.pass (x:= .inLoop c) rfl (fun _ _=> .inl (by simp [iF.out])) GU⟩
   |ret=>simp only [ut,Out.code.injEq] at h;obtain ⟨rfl,rfl⟩:=h;exact ⟨a1,w1,hq,.pass (x:= .inLoop c) rfl (fun _ _=> .inl (by simp [iF.out])) GU⟩
def ph (P:Program):List RV->List ResultVar->Bool
 | [],[]=>aj8
 | .tmp t::r,.tmp t'::s=>t==t'&&ph P r s
 | .cell t agg::r,.cell t' ty::s=>t==t'&&A3 P ty agg&&ph P r s
 |_,_=>aj9
def Mu (tmps:Array Value):ResultVar->Sem Value
 | .tmp t=>pure (tmps.getD t undef)
 | .cell a t=>do loadVar t (<- asAddr (tmps.getD a undef))
theorem PZ {im:Im} {loc:Loc} {aD:cI} {agg:Option Nat} {p:PV} {u:Value} {r:od} (hp:VR im loc p u) (h:o5 aD agg p=aj6 r): ∃ad,u= .pointer (aj6 ad):=by cases hp<;>first|(simp [o5] at h;done)|exact ⟨_,rfl⟩
theorem SR.known {im:Im} {loc:Loc} {aD:cI} {fz:List Nat} {w:World} (h:SR im loc aD fz w) {r:od} (hn:r.news=[]) (hw:r.wr=[]):jS im loc aD w r where
 bQ:=h.bQ
 tok:=fun t _ li hl=>h.eh t li hl
 free:=fun t k hm=>by rw [hw] at hm;cases hm
 fresh:=fun j hj=>by rw [hn] at hj;simp at hj
 jV:=fun t u li lj k k' _ _=>h.jV t u li lj k k'
theorem Mv {aD:cI} {agg:Option Nat} {p:PV} {r:od} (h:o5 aD agg p=aj6 r):r.news=[]/\r.wr=[]:=by
 unfold o5 at h;split at h
 · split at h
   · split at h
     · rw [AC] at h;obtain ⟨_,_,rfl⟩:=h;exact ⟨rfl,rfl⟩
     cases h
   · split at h
     · rw [AC] at h;obtain ⟨_,_,rfl⟩:=h;exact ⟨rfl,rfl⟩
     cases h
   cases h
 · rw [AC] at h;obtain ⟨_,_,rfl⟩:=h;exact ⟨rfl,rfl⟩
 cases h
theorem RU {im : Im} {loc : Loc} {st : St} {a : Act} {w : World} (oW : SR im loc st.aD st.fz w) (ha : ER im loc st.env a.tmps) : ∀ {rs : List RV} {vs : List PV} {os : List ResultVar}, ph P rs os = aj8 -> og st rs = aj6 vs ->
    ∃ us, (os.mapM (Mu a.tmps)).run P w = .ok us w /\ fF im loc vs us
  | [], vs, os, hc, h => by
    cases os <;> simp only [ph, M2] at hc
    simp only [og, ut] at h; subst h
    exact ⟨[], by simp, .nil⟩
  | r :: rs, vs, [], hc, h => by cases r <;> simp [ph] at hc
  | r :: rs, vs, o :: os, hc, h => by
    simp only [og] at h
    split at h
    · rename_i v LY h1 h2
      injection h with h; subst h
      have A6 : ∃ u, (Mu a.tmps o).run P w = .ok u w /\ VR im loc v u /\ ph P rs os = aj8 := by
        cases r with
        | tmp t =>
          cases o with
          | tmp t' =>
            simp only [ph, rc, beq_iff_eq] at hc
            obtain ⟨rfl, hc⟩ := hc
            simp only [Em, ut] at h1; subst h1
            exact ⟨_, rfl, ha t, hc⟩
          | cell _ _ => simp [ph] at hc
        | cell t agg =>
          cases o with
          | tmp t' => simp [ph] at hc
          | cell t' ty =>
            simp only [ph, rc, beq_iff_eq] at hc
            obtain ⟨⟨rfl, hag⟩, hc⟩ := hc
            simp only [Em, AC] at h1
            obtain ⟨rr, h3, rfl⟩ := h1
            obtain ⟨g1, g2⟩ := Mv h3
            obtain ⟨u, cf, oY, _⟩ := JR (P := P) (ha t) hag h3 (oW.known g1 g2)
            obtain ⟨ad, had⟩ := PZ (ha t) h3
            refine ⟨u, ?_, oY, hc⟩
            simp only [Mu, had, asAddr]
            rw [had] at cf
            simpa [Instr.loadAt, Instr.sureAddr] using cf
      obtain ⟨u, hu, oY, hc⟩ := A6
      obtain ⟨us, B2, ao4⟩ := RU oW ha hc h2
      refine ⟨u :: us, ?_, .cons _ _ _ _ oY ao4⟩
      rw [List.mapM_cons]
      simp only [ack, hu, acB, B2, aj2]
    cases h
theorem EY {im:Im} {loc:Loc} {st:St} {a:Act} {w:World} {fn:Func} (oW:SR im loc st.aD st.fz w) (ha:ER im loc st.env a.tmps) {rs:List RV} {vs:List PV} (hc:ph P rs fn.results.toList=aj8) (h:og st rs=aj6 vs):
 ∃u,(results fn a.tmps).run P w= .ok u w/\VR im loc (results1 vs) u:=by
 obtain ⟨us,h1,h2⟩:=RU (P:=P) oW ha hc h;have e:fn.results.mapM (Mu a.tmps)=List.toArray<$>fn.results.toList.mapM (Mu a.tmps):=Array.mapM_eq_mapM_toList;have h3:(fn.results.mapM (Mu a.tmps)).run P w= .ok us.toArray w:=by rw [e];rw [map_eq_pure_bind,ack,h1];rfl
 have Bg:results fn a.tmps=(do let vs <- fn.results.mapM (Mu a.tmps);pure (if h:vs.size=1 then vs[0] else .tuple vs)):=by
  unfold results
  congr 1
 rw [Bg];simp only [ack,h3,acB,aj2];refine ⟨_,rfl,?_⟩;cases h2 with
 |nil=>exact .b8 _ _ .nil
 |cons x u xs us g2 g3=>
  cases g3 with
  |nil=>exact g2
  |cons y v ys vs g4 g5=>exact .b8 _ _ (.cons _ _ _ _ g2 (.cons _ _ _ _ g4 g5))
end
end Go.Vm
/- What the logical machine answers, the model answers. -/
namespace Go.Vm
def au (P:Program) (prims:FuncId->Bool) (x:aG) (f:FuncId):Bool:=
 match P.funcs[f]? with
 |some fn=>!(fn.name== "runtime.NumGoroutine")&&ab1 x.C9 fn.ntmps&&ph P x.res fn.results.toList&&(match fn.body with|some c=>gY P prims fn.ntmps x.code c|none=>aj9)
 |none=>aj9
section
variable {P : Program} {F : mY} {rec : Task -> Option Out} {prims : FuncId -> Bool}
def Kn (P:Program) (prims:FuncId->Bool) (F:mY):Prop:= ∀f x,F f=aj6 (.code x)->au P prims x f=aj8
theorem Ko: ∀(args:List PV) (i t:Nat),lk t (vn i args)=if i<=t then (args[t-i]?).getD .undef else .undef
 | [],i,t=>by simp [vn,lk]
 |v::r,i,t=>by
  simp only [vn,rU];rw [Ko r (i+1) t]
  by_cases h:i=t
  · subst h;simp
  rw [ls h]
  by_cases h2:i<=t
  · rw [lm h2,lm (by omega)]
    have:t-i=(t- (i+1))+1:=by omega
    rw [this];simp
  rw [ls h2,ls (by omega)]
theorem Hg {im:Im} {loc:Loc} {args:List PV} {us:List Value} (h:fF im loc args us) (n:Nat):ER im loc (vn 0 args) ((⟨us⟩:Array Value)++abR n Go.undef):=by
 intro t;rw [Ko];simp only [abI,if_true,Nat.sub_zero];cases ha:args[t]? with
 |none=>exact .undef _
 |some x=>
  obtain ⟨v,hv,hr⟩:=h.get t x ha;have:((⟨us⟩:Array Value)++abR n Go.undef).getD t Go.undef=v:=by have dW:=cJ hv;simp only [abH];rw [Array.getElem?_append_left (by simpa using dW)];simp [hv]
  rw [this];exact hr
theorem lW {f:FuncId} {fn:Func} {c:Code} {us:Array Value} {w:World} (hf:P.funcs[f]? =aj6 fn) (hn:(fn.name== "runtime.NumGoroutine")=aj9) (hb:fn.body=aj6 c):(callFunc f us).run P w= .ok (.enter f us) w:=by
 unfold callFunc;have hn: ¬fn.name= "runtime.NumGoroutine" :=by simpa using hn
 simp [ack,hf,hn,hb]
theorem P0 (hE:ID P F rec) (hL:Cu P prims rec) (hT:Kn P prims F) (qB:P.follows .mixedOrders=aj8):Co P (step F rec):=by
 intro f args aD fz v xL Kb h im loc w us oW B2;simp only [step] at h;split at h
 · rename_i x hF
   have hc:=hT f x hF;unfold au at hc;cases hf:P.funcs[f]? with
   |none=>rw [hf] at hc;cases hc
   |some fn=>
    rw [hf] at hc;simp only [rc,NE] at hc;obtain ⟨⟨⟨yh,hna⟩,Bg⟩,lX⟩:=hc;cases hb:fn.body with
    |none=>rw [hb] at lX;cases lX
    |some c=>
     rw [hb] at lX;dsimp only at lX;refine .inr ⟨lW hf yh hb,calls_of_wp hf hb ?_⟩;split at h
     · rename_i dd
       have dd:(aj3 args)=x.C9:=by simpa using dd
       have hna:x.C9<=fn.ntmps:=by simpa using hna
       have au4:=B2.nm
       let st0:St:={env:=vn 0 args,aD,fz,kn:=aj3 aD}
       let a0:Act:={tmps:=(⟨us⟩:Array Value)++abR (fn.ntmps- (⟨us⟩:Array Value).size) Go.undef,defers:=[]}
       have dt:At im loc aD w fn.ntmps st0 a0 w:=by
        refine ⟨im,loc,⟨⟨oW,.refl _,.refl _,rfl,.refl _,rfl,Do _,fun _ _ _=>rfl,fun _ _ h=> .inl h,fun _ _ h=> .inl h,fun t li k hl hs mD=> .inr ⟨t,li,k,hl,hs,mD,rfl⟩⟩,rfl,Do _,fun t li hl=>?_⟩,⟨Hg B2 _,rfl,?_⟩⟩
        · obtain ⟨k,hk,_⟩:=oW.eh t li hl
          exact cJ hk
        simp only [a0,aiN,adk]
        show (aj3 us)+_=_;have:(⟨us⟩:Array Value).size=(aj3 us):=rfl;rw [this];omega
       have fin: ∀(st:St),(og st x.res).map (fun vs=>Out.func (results1 vs) st.aD st.fz)=aj6 (.func v xL Kb)-> ∀a' w',At im loc aD w fn.ntmps st a' w'->
        a'.defers=[]/\ ∃u,(results fn a'.tmps).run P w'= .ok u w'/\ ∃v',Ending.returned u= .returned v'/\ ∃eO bu,yb im loc aD w v xL Kb eO bu w' v':=by
        intro st cA a' w' dt
        obtain ⟨eO,bu,hk,EX⟩:=dt.ex;rw [AC] at cA;obtain ⟨vs,Is,he⟩:=cA;simp only [Out.func.injEq] at he;obtain ⟨rfl,rfl,rfl⟩:=he;obtain ⟨u,hu,oY⟩:=EY (P:=P) (fn:=fn) hk.kept.sr EX.env Bg Is;have K:=hk.kept;exact ⟨EX.defers,u,hu,u,rfl,eO,bu,⟨K.iw,K.eF,oY,K.sr,K.os,K.tape,K.output,K.size,K.frame,K.eQ,K.oZ,K.own⟩⟩
       split at h
       · rename_i st gW
         exact lg hE hL qB x.code c st0 .normal st lX gW a0 w dt _ fun a' w' ada=>fin st h a' w' ada
       · rename_i st gW
         exact lg hE hL qB x.code c st0 .ret st lX gW a0 w dt _ fun a' w' ada=>fin st h a' w' ada
       cases h
     cases h
 · rename_i p hF
   obtain ⟨fn,c,hf,yh,hb,key⟩:=hE.kS.2 f p hF;rw [AC] at h;obtain ⟨⟨v1,s1,z1⟩,hp,he⟩:=h;simp only [Out.func.injEq] at he;obtain ⟨rfl,rfl,rfl⟩:=he;exact key args aD fz _ _ _ hp im loc w us oW B2
 cases h
theorem ab4 (hT:Kn P prims F) (A':y8 P F) (qB:P.follows .mixedOrders=aj8): ∀n,Co P (run F n)/\Cu P prims (run F n)
 |0=>⟨fun f args aD fz v xL Kb h=>by simp [run] at h,fun live x st e lA h=>by simp [run] at h⟩
 |n+1=>by obtain ⟨h1,h2⟩:=ab4 hT A' qB n;have hE:ID P F (run F n):=⟨h1,A'⟩;exact ⟨P0 hE h2 hT qB,PY hE h2 qB⟩
theorem P1 (hT:Kn P prims F) (A':y8 P F) (qB:P.follows .mixedOrders=aj8) {n:Nat} {f:FuncId} {args:List PV} {v:PV} {xL:cI} {Kb:List Nat} (h:run F n (.func f args [] [])=aj6 (.func v xL Kb))
 {im:Im} {w:World} {us:List Value} (U7: ∀b o,im b=aj6 o->w.heap[b]? =aj6 o) (B2:fF im gF args us):
 Calls P f ⟨us⟩ w fun e w'=> ∃u,e= .returned u/\(∃eO bu,VR eO bu v u/\SR eO bu xL Kb w')/\w'.os=w.os/\Tape w w'/\w'.output=w.output/\w.heap.size<=w'.heap.size/\ ∀b,b<w.heap.size->w'.heap[b]? =w.heap[b]?:=by
 have key:=(ab4 hT A' qB n).1 f args [] [] v xL Kb h im gF w us (SR.empty U7) B2;rcases key with ⟨u,w',h1,h2⟩|⟨h1,h2⟩
 · exfalso
   cases n with
   |zero=>simp [run] at h
   |succ n=>
    have h:step F (run F n) (.func f args [] [])=aj6 (.func v xL Kb):=h;simp only [step] at h;split at h
    · rename_i x hF
      have hc:=hT f x hF;unfold au at hc;cases hf:P.funcs[f]? with
      |none=>rw [hf] at hc;cases hc
      |some fn=>
       rw [hf] at hc;simp only [rc,NE] at hc;cases hb:fn.body with
       |none=>rw [hb] at hc;exact absurd hc.2 (by simp)
       |some c=>rw [lW hf hc.1.1.1 hb] at h1;cases h1
    · rename_i p hF
      obtain ⟨fn,c,hf,yh,hb,key⟩:=A'.2 f p hF;rw [lW hf yh hb] at h1;cases h1
    cases h
 refine h2.mono fun e w' ⟨u,he,eO,bu,hp⟩=>⟨u,he,⟨eO,bu,hp.vr,hp.sr⟩,hp.os,hp.tape,hp.output,hp.size,fun b hb=>hp.frame b hb fun t li k hl=>by cases hl⟩
end
end Go.Vm
/- Functions that are known without their code: math/bits.Add64 and Sub64, slices.Clone. -/
namespace Go.Vm
section
variable {P : Program}
theorem Mw {im:Im} {w:World} {v:PV} {u:Value} (oW:SR im gF [] [] w) (hv:VR im gF v u):yb im gF [] w v [] [] im gF w u where
 iw:= .refl _
 eF:= .refl _
 vr:=hv
 sr:=oW
 os:=rfl
 tape:= .refl _
 output:=rfl
 size:=Do _
 frame:=fun _ _ _=>rfl
 eQ:=fun _ _ h=> .inl h
 oZ:=fun _ _ h=> .inl h
 own:=fun t li k h=>by cases h
theorem Mx {im:Im} {loc:Loc} {k1 k2 k3:IntKind} {a b c:Int} {us:List Value} (h:fF im loc [.int k1 a,.int k2 b,.int k3 c] us):us=[.int k1 a,.int k2 b,.int k3 c]:=by
 cases h with
 |cons _ _ _ _ h1 h=>
  cases h with
  |cons _ _ _ _ h2 h=>
   cases h with
   |cons _ _ _ _ h3 h=>cases h;rw [h1.gV,h2.gV,h3.gV]
theorem My {f:FuncId} {fn:Func} (hf:P.funcs[f]? =aj6 fn) (yh:(fn.name== "runtime.NumGoroutine")=aj9) (hb:fn.body.isNone=aj8) (hn:Extern.findNext fn=aj7) (he:Extern.find fn=aj6 add64Entry):Ix P f Ab:=by
 intro args v news hp im w us oW B2;unfold Ab at hp;split at hp
 · rename_i a b c
   split at hp
   · rename_i hc
     have hc:c<=1:=by simpa using hc
     simp only [ut,EQ] at hp;obtain ⟨rfl,rfl⟩:=hp;obtain rfl:=Mx B2;refine .inl ⟨_,w,?_,im,gF,Mw oW (.b8 _ [.int .u64 (((a:Int)+b+c)%18446744073709551616),.int .u64 (((a:Int)+b+c) / 18446744073709551616)] (.cons _ _ _ _ ?_ (.cons _ _ _ _ ?_ .nil)))⟩
     · rw [run_callFunc_extern hf yh hb hn he]
       have:=run_add64 (P:=P) (a:Int) b c (by omega) (by omega) (by omega) (by omega) w;simp only [ac9];rw [this];rfl
     · have:ai1 ((a+b+c)%18446744073709551616)=((a:Int)+b+c)%18446744073709551616:=by
        simp only [ac9];omega
       rw [this];exact .int _ _
     have:ai1 ((a+b+c) / 18446744073709551616)=((a:Int)+b+c) / 18446744073709551616:=by
      simp only [ac9];omega
     rw [this];exact .int _ _
   cases hp
 cases hp
def xcA (esz:Nat):jR:= .region aj7 [⟨aj6 2,.Q4 (.c (.sl esz aj8 [])),aj7⟩] [0]
def xcN (esz:Nat):jR:= .seq (.region aj7 [⟨aj6 2,.Q4 (.c (.sl esz aj8 [])),aj7⟩] [2]) .ret
def xcC (esz:Nat) (zero:Row):jR:= .seq (.region aj7 [⟨aj6 5,.AZ esz 0 zero [],aj7⟩,⟨aj6 6,.Q4 (.t 0),aj7⟩,⟨aj6 7,.append esz (.t 5) (.t 6),aj7⟩,⟨aj6 2,.Q4 (.t 7),aj7⟩] [2]) .ret
def RW (P:Program) (o:Oper):Bool:=
 o.guard.isNone&&o.dst==aj6 4&&(match o.op with
  | .binOp .eql t x (.const (.slice aj7 0 0)) _=>bH (.t 3) x&&sR P t
  |_=>aj9)
def Kp (P:Program) (esz:Nat) (zero:Row) (f:FuncId):Bool:=
 match P.funcs[f]? with
 |some fn=>!(fn.name== "runtime.NumGoroutine")&&abZ 7 fn.ntmps&&ph P [.tmp 2] fn.results.toList&&(match fn.body with
  |some (.seq a (.seq (.seq (.region _ ops aj9) (.cond c n .skip)) r))=>
   gY P (fun _=>aj8) fn.ntmps (xcA esz) a&&gY P (fun _=>aj8) fn.ntmps (xcN esz) n&&gY P (fun _=>aj8) fn.ntmps (xcC esz zero) r&&bH (.t 4) c&&
    (match ops.toList with
    | [o1,o2]=>rW P (fun _=>aj8) fn.ntmps ops ⟨aj6 3,.Q4 (.t 0),aj7⟩ o1&&RW P o2
    |_=>aj9)
  |_=>aj9)
 |none=>aj9
theorem Vi:ID P (fun _=>aj7) (fun _=>aj7):=⟨(fun _ _args _sto _fz _v _sto' _fz' h=>by cases h),⟨(fun _ _k _p h=>by cases h),(fun _ _p h=>by cases h)⟩⟩
theorem Og {prims:FuncId->Bool}:Cu P prims (fun _=>aj7):=fun _ _x _st _e _st' h=>by cases h
theorem nq (qB:P.follows .mixedOrders=aj8) {esz:Nat} {zero:Row} {f:FuncId} (hc:Kp P esz zero f=aj8):Ix P f (fV esz):=by
 intro args v news hp im w us oW B2;unfold Kp at hc;cases hf:P.funcs[f]? with
 |none=>rw [hf] at hc;cases hc
 |some fn=>
  rw [hf] at hc;simp only [rc,NE] at hc;obtain ⟨⟨⟨yh,hnt⟩,Bg⟩,lX⟩:=hc;have hnt:7<fn.ntmps:=by simpa using hnt
  split at lX
  · rename_i ca id ops cc cn cr hb
    simp only [rc] at lX;obtain ⟨⟨⟨⟨hA,hN⟩,hC⟩,PB⟩,PW⟩:=lX;split at PW
    · rename_i o1 o2 hl
      simp only [rc] at PW;obtain ⟨ho1,ho2⟩:=PW;have ao7: ∃e c rows,args=[.sl e c rows]:=by
       unfold fV at hp;split at hp
       · exact ⟨_,_,_,rfl⟩
       cases hp
      obtain ⟨e,cl,rows,rfl⟩:=ao7;obtain ⟨u,rfl⟩: ∃u,us=[u]:=by
       cases B2 with
       |cons _ u _ us h1 h2=>cases h2;exact ⟨u,rfl⟩
      refine .inr ⟨lW hf yh hb,calls_of_wp hf hb ?_⟩
      let st0:St:={env:=[(0,.sl e cl rows)],aD:=[],fz:=[],kn:=0}
      let a0:Act:={tmps:=(⟨[u]⟩:Array Value)++abR (fn.ntmps- (⟨[u]⟩:Array Value).size) Go.undef,defers:=[]}
      have ao8:At im gF [] w fn.ntmps st0 a0 w:=by refine ⟨im,gF,⟨⟨oW,.refl _,.refl _,rfl,.refl _,rfl,Do _,fun _ _ _=>rfl,fun _ _ h=> .inl h,fun _ _ h=> .inl h,fun t li k hl=>by cases hl⟩,rfl,Do _,fun t li hl=>by cases hl⟩,⟨Hg B2 _,rfl,?_⟩⟩;simp only [a0,aiN,adk];show 1+(fn.ntmps-1)=_;omega
      have fin: ∀(st:St) (v':PV),lk 2 st.env=v'-> ∀a' w',At im gF [] w fn.ntmps st a' w'->
       a'.defers=[]/\ ∃u,(results fn a'.tmps).run P w'= .ok u w'/\ ∃v'':Value,Ending.returned u= .returned v''/\ ∃eO bu,yb im gF [] w v' st.aD st.fz eO bu w' v'':=by
       intro st v' hv' a' w' dt
       obtain ⟨eO,bu,hk,EX⟩:=dt.ex;obtain ⟨u,hu,oY⟩:=EY (P:=P) (fn:=fn) hk.kept.sr EX.env Bg (vs:=[v']) (by simp [og,Em,hv']);have K:=hk.kept;exact ⟨EX.defers,u,hu,u,rfl,eO,bu,⟨K.iw,K.eF,oY,K.sr,K.os,K.tape,K.output,K.size,K.frame,K.eQ,K.oZ,K.own⟩⟩
      refine wp_seq ?_;refine lg Vi Og qB (xcA esz) _ st0 .normal {env:=[(0,.sl e cl rows)],aD:=[],fz:=[],kn:=0} hA rfl a0 w ao8 _ fun a1 w1 ao9=>?_
      refine wp_seq (wp_seq ?_);refine wp_region ?_;have akx:ops= #[o1,o2]:=aiZ (by simpa using hl);subst akx;obtain ⟨D2,di,jG,Kq⟩:=ao9.ex;have Mz:=Kq.env 0;have Mz:VR D2 di (.sl e cl rows) (a1.tmps.getD 0 Go.undef):=Mz;obtain ⟨ad,cap,U9,GL,UC,o7⟩:=Mz.pg;unfold rW at ho1;simp only [rc,beq_iff_eq] at ho1;obtain ⟨⟨⟨hd1,_⟩,Vj⟩,RX⟩:=ho1;have ao':o1.guard=aj7:=by
       cases hg:o1.guard with
       |none=>rfl
       |some q=>rw [hg] at Vj;simp [vA] at Vj
      have aky: ∃x,(o1.op= .move x\/o1.op= .assign x)/\bH (.t 0) x=aj8:=by cases ho:o1.op<;>rw [ho] at RX<;>simp only [xy] at RX<;>first|exact ⟨_,.inl rfl,RX⟩|exact ⟨_,.inr rfl,RX⟩|simp at RX
      obtain ⟨x1,Kr,adb⟩:=aky;have apa:a1.eval x1= .slice ad (aj3 rows) cap:=by
       have h:=Mq (a:=a1) (e:=[(0,PV.sl e cl rows)]) (.t 0) (fun t ht=>by injection ht with ht;subst ht;exact Kq.env 0) x1 adb;cases x1 with
       |tmp t=>
        have:(0:Nat)=t:=by simpa [bH] using adb
        subst this;simpa [Act.eval] using U9
       |_=>simp [bH] at adb
      have akz:(execOp a1.eval o1).run P w1= .ok (.value (.slice ad (aj3 rows) cap)) w1:=by rcases Kr with h|h<;>simp [execOp,h,apa]
      unfold RW at ho2;simp only [rc,beq_iff_eq,Option.isNone_iff_eq_none] at ho2;obtain ⟨⟨hg2,hd2⟩,Vk⟩:=ho2;split at Vk
      case h_2=>cases Vk
      rename_i ty x2 ub akB;simp only [rc] at Vk;obtain ⟨hx2,cA⟩:=Vk;have apc:x2= .tmp 3:=by
       cases x2 with
       |tmp t=>
        have:(3:Nat)=t:=by simpa [bH] using hx2
        subst this;rfl
       |_=>simp [bH] at hx2
      subst apc;unfold sR at cA;split at cA
      case h_2=>cases cA
      rename_i el ob;have apd:a1.tmps.size=fn.ntmps:=Kq.L1
      let a2:Act:=a1.put (aj6 3) (.slice ad (aj3 rows) cap)
      have JV:a2.tmps.getD 3 Go.undef= .slice ad (aj3 rows) cap:=by simp only [a2,Act.put,abH];rw [abQ (by omega)];rfl
      have akD:(execOp a2.eval o2).run P w1= .ok (.value (.bool ad.isNone)) w1:=by
       simp only [execOp,akB];refine fj ?_;have e3:a2.eval (.tmp 3)= .slice ad (aj3 rows) cap:=by simpa [Act.eval] using JV
       rw [e3];have hg:(eqGuard .eql ty (.tmp 3) (.const (.slice aj7 0 0)) (.slice ad (aj3 rows) cap) (a2.eval (.const (.slice aj7 0 0)))).run P w1= .ok () w1:=by unfold eqGuard;simp
       simp only [ack,hg,acB];exact Lib.run_eql_slice_nil w1 ty el ad (aj3 rows) cap 0 0 ob
      let a3:Act:=a2.put (aj6 4) (.bool ad.isNone)
      have ade:At im gF [] w fn.ntmps {env:=[(0,.sl e cl rows)],aD:=[],fz:=[],kn:=0} a3 w1:=by
       refine ⟨D2,di,jG,⟨fun t=>?_,Kq.defers,by simp [a3,a2,Act.put,apd]⟩⟩;have h:=Kq.env t;simp only [rU] at h ⊢
       by_cases ht:t=0
       · subst ht
         simp only [if_true] at h ⊢;simpa [a3,a2,Act.put,ab0] using h
       rw [ls (fun e=>ht e.symm)];exact .undef _
      have LW:a3.eval cc= .bool ad.isNone:=by
       cases cc with
       |tmp t=>
        have:(4:Nat)=t:=by simpa [bH] using PB
        subst this;simp only [Act.eval,a3,Act.put,abH];rw [abQ (by simp [a2,Act.put];omega)];rfl
       |_=>simp [bH] at PB
      have adf:List.range #[o1,o2].size=[0,1]:=rfl;rw [adf];simp only [wpOps];have e0:(#[o1,o2]:Array Oper)[0]? =aj6 o1:=rfl;have e1:(#[o1,o2]:Array Oper)[1]? =aj6 o2:=rfl;rw [e0];dsimp only;have hw1:Region.wanted o1 (yielded #[o1,o2] a1.tmps)=aj8:=by unfold Region.wanted;rw [ao']
      rw [hw1,lm rfl];refine .inl ?_;unfold Oper.wp;rw [akz,Oper.upon_value,<- hd1,e1];dsimp only;have U5:Region.wanted o2 (yielded #[o1,o2] (a1.put (aj6 3) (.slice ad (aj3 rows) cap)).tmps)=aj8:=by unfold Region.wanted;rw [hg2]
      rw [U5,lm rfl];refine .inl ?_;rw [show a1.put (aj6 3) (.slice ad (aj3 rows) cap)=a2 from rfl,akD,Oper.upon_value,hd2];show (Code.cond cc cn .skip).wp P _ a3 w1;cases had:ad with
      |none=>
       have GS:rows=[]:=by
        rcases rows with _|⟨r,rs⟩
        · rfl
        obtain ⟨b,o,h,_⟩:=o7 (by simp)
        rw [had] at h;cases h
       subst GS;simp only [fV,ut,EQ] at hp;obtain ⟨rfl,rfl⟩:=hp;refine wp_cond_true (by rw [LW,had];rfl) ?_;refine lg Vi Og qB (xcN esz) _ _ .ret {env:=[(2,.sl esz aj8 [])],aD:=[],fz:=[],kn:=0} hN rfl a3 w1 ade _ fun a4 w4 RY=>?_
       obtain ⟨hdf,u',B3,v'',ape,eO,bu,UJ⟩:=fin _ _ rfl a4 w4 RY;refine ⟨hdf,u',B3,v'',ape,eO,bu.set 1 ⟨0,0,esz,0,0⟩,?_⟩;have Oh: ∀t,bu t=aj7:=fun t=>by
        cases hl:bu t with
        |none=>rfl
        |some li=>obtain ⟨k,hk,_⟩:=UJ.sr.eh t li hl;simp at hk
       obtain ⟨ad',dh,hv3,_,apf,_⟩:=UJ.vr.pg;have GJ:dh=0:=by simpa using apf rfl
       subst GJ;exact {
        iw:=UJ.iw,eF:=fun t li h=>by cases h
        vr:=by rw [hv3];exact .own 1 esz 0 0 0 aj9 ⟨0,0,esz,0,0⟩ ad' 0 (Loc.fG _ _ _) rfl (Do _) (Do _) (Do _) (fun h=>by cases h) (.inl rfl)
        sr:={
         bQ:=UJ.sr.bQ
         eh:=fun t li h=>by
          unfold Loc.set at h;split at h
          · rename_i ht;subst ht;injection h with h;subst h
            exact ⟨_,rfl,rfl,rfl,fun h=>absurd rfl h⟩
          rw [Oh t] at h;cases h
         jV:=fun t u li lj k k' h h' hs we DN=>by
          unfold Loc.set at h;split at h
          · rename_i ht;subst ht;simp at hs;subst hs;cases DN
          rw [Oh t] at h;cases h
         free:=fun t li k h hs DN=>by
          unfold Loc.set at h;split at h
          · rename_i ht;subst ht;simp at hs;subst hs;cases DN
          rw [Oh t] at h;cases h}
        os:=UJ.os,tape:=UJ.tape,output:=UJ.output,size:=UJ.size,frame:=UJ.frame,eQ:=UJ.eQ
        oZ:=fun t li h=> .inr (abI _)
        own:=fun t li k h hs DN=>by
         unfold Loc.set at h;split at h
         · rename_i ht;subst ht;simp at hs;subst hs;cases DN
         rw [Oh t] at h;cases h}
      |some ad'=>
       refine wp_cond_false (by rw [LW,had];rfl) (wp_skip ?_);rcases rows with _|⟨r,rs⟩
       · simp only [fV,ut,EQ] at hp
         obtain ⟨rfl,rfl⟩:=hp;exact lg Vi Og qB (xcC esz zero) _ _ .ret {env:=[(2,.own 1 esz 0 0 0 aj9)],aD:=[.arr esz [],.arr esz []],fz:=[],kn:=0} hC rfl a3 w1 ade _ fun a4 w4 RY=>fin _ _ rfl a4 w4 RY
       simp only [fV] at hp
       split at hp
       case isFalse=>cases hp
       rename_i N3;simp only [rc,Nat.beq_eq,acl] at N3;obtain ⟨rfl,oq⟩:=N3;simp only [ut,EQ] at hp;obtain ⟨rfl,rfl⟩:=hp;have hap:jt [.arr e []] [] e (.own 0 e 0 0 0 aj8) (.sl e cl (r::rs))=aj6 {v:= .own 1 e 0 (0+(aj3 rs+1)) (0+(aj3 rs+1)) aj9,news:=[.arr e (r::rs)],rd:=[0]}:=by
        have h1:v4 e e=aj8:=by simp
        have h2:ab1 (aj3 rs+1) 0=aj9:=rfl;have h3:ab1 (0+(aj3 rs+1)) mC=aj8:=by simpa using oq
        simp only [jt,rowsOf,h1,if_true];simp [h2,oq,js]
       refine lg Vi Og qB (xcC e zero) _ _ .ret {env:=[(2,.own 1 e 0 (0+(aj3 rs+1)) (0+(aj3 rs+1)) aj9)],aD:=[.arr e [],.arr e (r::rs)],fz:=[],kn:=0} hC ?_ a3 w1 ade _ fun a4 w4 RY=>fin _ _ rfl a4 w4 RY
       simp only [xcC,tB,lT,mT,wanted,xw,bJ,fU.ev,lk];simp [qu,XR.ok,wa,XR.next,jm,JM,gH,lk,hap]
    cases PW
  cases lX
end
end Go.Vm
/- slices.Insert of one row: what it leaves of the memory. -/
namespace Go.Vm
section
variable {P : Program} {im eO : Im} {loc bu : Loc} {aD : cI} {fz : List Nat} {w w' : World}
theorem pW (w:World) (dT sT ty el:TypeId) (esz g o adg aph:Nat) (a:Addr) (uI sCap:Nat) (cur:Array Value) (t:TypeId) (cs:List Value)
 (hu:P.underlying dT=aj6 (.slice el)) (hs:(P.info? el).map (·.size)=aj6 esz)
 (hg:w.heap[g]? =aj6 (.cells cur t (0,0))) (hn:Nat.min uI adg*esz=aj3 cs)
 (api: ∀j v,cs[j]? =aj6 v->w.cell? (a.add j)=aj6 v) (xI:o+aj3 cs<=cur.size) (h1: ∀v∈cs,v.oneCell'=aj8):
 (Builtin.copy_ #[dT,sT] ty #[.slice (aj6 ⟨g,o,aj7⟩) adg aph,.slice (aj6 a) uI sCap]).run P w=
  .ok (goInt (Nat.min uI adg)) (w.setRow g (nH o cs cur.toList).toArray):=by
 have hl:=run_loadCells_list (P:=P) w a cs api;have cA:=run_storeCells_at P g o t cs 0 cur w hg (by simpa using xI) h1;cases hq:P.info? el with
 |none=>simp [hq] at hs
 |some i=>
  have hi:i.size=esz:=by simpa [hq] using hs
  simp [Builtin.copy_,run_underlying hu,Builtin.lenOf,Builtin.firstCells,sizeOf,typeInfo,hq,hi,hn,hl,cA,nH]
theorem BR.gG {li:LI} {k:lz} (h:BR im loc w li k) (hi:oj im eO) (hl:mN loc bu) (hw:k.bT=aj8->w'.heap[li.eh]? =w.heap[li.eh]?):BR eO bu w' li k:=by
 cases hs:k.bT with
 |true=>exact h.mono hi hl (hw hs)
 |false=>
  cases k with
  |arr e rows=>
   cases rows with
   |nil=>exact ⟨h.1,h.2.1,fun dK=>absurd rfl dK⟩
   |cons r rs=>cases hs
  |box cs=>cases hs
  |map es=>cases hs
  |dead=>trivial
theorem Cv {r:od} {t:Nat} {u:Value} (oW:SR im loc aD fz w) (he:tN im loc aD w r eO bu w') (vp:r.fr=[]) (hw:r.wr=[(t,.dead)]) (ht:t<aj3 aD) (hv:VR eO bu r.v u):
 yb im loc aD w r.v (aD.set t .dead++r.news) fz eO bu w' u:=by
 have dd:(aD.set t .dead).length=(aj3 aD):=by simp
 have old: ∀t' li,loc t'=aj6 li->t'<(aj3 aD):=fun t' li h=>by obtain ⟨k,hk,_⟩:=oW.eh t' li h;exact (v6.1 hk).1
 have P2: ∀t' li k,loc t'=aj6 li->(aD.set t .dead++r.news)[t']? =aj6 k->k.bT=aj8->t'≠t/\aD[t']? =aj6 k:=by
  intro t' li k h hk hs;have dW:=old t' li h;rw [ww (by omega),aiL] at hk;split at hk
  · first|(injection hk with hk;subst hk;cases hs)|(split at hk<;>first|(injection hk with hk;subst hk;cases hs)|cases hk)
  rename_i dK;exact ⟨fun e=>dK e.symm,hk⟩
 have P3: ∀t' k,aj3 aD<=t'->(aD.set t .dead++r.news)[t']? =aj6 k->r.news[t'-(aj3 aD)]? =aj6 k:=by
  intro t' k h hk
  rwa [If (by omega),dd] at hk
 have Hh: ∀t' li,bu t'=aj6 li->loc t'=aj6 li\/(aj3 aD<=t'/\t'=aj3 aD+(t'-(aj3 aD))):=by
  intro t' li h;rcases he.lL t' li h with h|⟨h,_⟩
  · exact .inl h
  exact .inr ⟨h,by omega⟩
 have imn: ∀b o,eO b=aj6 o->im b=aj6 o\/w.heap.size<=b:=by
  intro b o h;rcases he.eQ b o h with h|h|⟨t0,li,k,h,_⟩
  · exact .inl h
  · exact .inr h
  rw [vp] at h;cases h
 have akE: ∀t' li k,loc t'=aj6 li->aD[t']? =aj6 k->t'≠t->k.bT=aj8->BR im loc w li k->w'.heap[li.eh]? =w.heap[li.eh]?:=by
  intro t' li k hl hk dK hs hb;refine he.frame li.eh (hb.lt hs) fun t0 k1 l0 k0 hm LX hk0 Oc e=>?_
  rw [hw] at hm;obtain ⟨rfl,rfl⟩:t0=t/\k1= .dead:=by simpa using hm
  exact dK (oW.jV _ _ _ _ _ _ hl LX hk hk0 hs Oc e.symm)
 have Vl: ∀t' li k,bu t'=aj6 li->aj3 aD<=t'->r.news[t'-(aj3 aD)]? =aj6 k->BR eO bu w' li k/\
  (k.bT=aj8->eO li.eh=aj7/\(w.heap.size<=li.eh\/ ∃lt k0,loc t=aj6 lt/\aD[t]? =aj6 k0/\k0.bT=aj8/\lt.eh=li.eh)):=by
  intro t' li k hl mB hk;obtain ⟨h1,h2⟩:=he.news (t'-(aj3 aD)) k li hk (by rw [show (aj3 aD)+(t'-(aj3 aD))=t' by omega];exact hl);refine ⟨h1,fun hs=>⟨(h2 hs).1,?_⟩⟩;rcases (h2 hs).2 with h|⟨t0,lt,k0,hm,a,b,c,d⟩
  · exact .inl h
  rw [hw] at hm
  obtain rfl:t0=t:=by have:=abM.1 hm;injection this
  exact .inr ⟨lt,k0,a,b,c,d⟩
 have apart: ∀t1 u1 li lj k k',loc t1=aj6 li->t1≠t->aD[t1]? =aj6 k->k.bT=aj8->bu u1=aj6 lj->aj3 aD<=u1->r.news[u1-(aj3 aD)]? =aj6 k'->k'.bT=aj8->li.eh≠lj.eh:=by
  intro t1 u1 li lj k k' hl dK hk hs mS mB Mt we e;obtain ⟨k2,D1,hb⟩:=oW.eh t1 li hl;rw [hk] at D1;injection D1 with D1;subst D1;rcases ((Vl u1 lj k' mS mB Mt).2 we).2 with h|⟨lt,k0,a,b,c,d⟩
  · have:=hb.lt hs;omega
  exact dK (oW.jV _ _ _ _ _ _ hl a hk b hs c (by rw [e,d]))
 exact {
  iw:=he.iw,eF:=he.eF,vr:=hv
  sr:={
   bQ:=he.bQ
   eh:=fun t' li h=>by
    rcases Hh t' li h with ho|⟨mB,_⟩
    · obtain ⟨k,hk,hb⟩:=oW.eh t' li ho
      have dW:=old t' li ho
      by_cases e:t'=t
      · subst e
        exact ⟨.dead,by rw [ww (by omega),List.getElem?_set_self (by omega)],trivial⟩
      refine ⟨k,by rw [ww (by omega),acX (fun x=>e x.symm)];exact hk,hb.gG he.iw he.eF fun hs=>akE t' li k ho hk e hs hb⟩
    have hn:t'-(aj3 aD)<(aj3 r.news):=by
     rcases he.lL t' li h with ho|⟨_,h2⟩
     · have:=old t' li ho;omega
     omega
    obtain ⟨hb,_⟩:=Vl t' li _ h mB (lw hn);exact ⟨_,by rw [If (by omega),dd];exact lw hn,hb⟩
   jV:=fun t1 u1 li lj k k' hl mS hk Mt hs we e=>by
    rcases Hh t1 li hl with h1|⟨h1,_⟩<;>rcases Hh u1 lj mS with h2|⟨h2,_⟩
    · obtain ⟨n1,e1⟩:=P2 _ _ _ h1 hk hs
      obtain ⟨n2,e2⟩:=P2 _ _ _ h2 Mt we;exact oW.jV _ _ _ _ _ _ h1 h2 e1 e2 hs we e
    · obtain ⟨n1,e1⟩:=P2 _ _ _ h1 hk hs
      exact absurd e (apart _ _ _ _ _ _ h1 n1 e1 hs mS h2 (P3 _ _ h2 Mt) we)
    · obtain ⟨n2,e2⟩:=P2 _ _ _ h2 Mt we
      exact absurd e.symm (apart _ _ _ _ _ _ h2 n2 e2 we hl h1 (P3 _ _ h1 hk) hs)
    have:=he.distinct (t1-(aj3 aD)) (u1-(aj3 aD)) k k' li lj (P3 _ _ h1 hk) (P3 _ _ h2 Mt) hs we (by rw [show (aj3 aD)+(t1-(aj3 aD))=t1 by omega];exact hl) (by rw [show (aj3 aD)+(u1-(aj3 aD))=u1 by omega];exact mS) e
    omega
   free:=fun t' li k hl hk hs hz=>by
    rcases Hh t' li hl with h1|⟨h1,_⟩
    · obtain ⟨n1,e1⟩:=P2 _ _ _ h1 hk hs
      obtain ⟨k2,D1,hb⟩:=oW.eh t' li h1;rw [e1] at D1;injection D1 with D1;subst D1;have h0:=oW.free t' li k h1 e1 hs hz;cases hi:eO li.eh with
      |none=>rfl
      |some o=>
       rcases imn _ _ hi with h|h
       · rw [h0] at h;cases h
       have:=hb.lt hs;omega
    exact ((Vl t' li k hl h1 (P3 _ _ h1 hk)).2 hs).1}
  os:=he.os,tape:=he.tape,output:=he.output,size:=he.size
  frame:=fun b hb h=>he.frame b hb fun t0 k li k0 hm hl hk hs=>h t0 li k0 hl hk hs
  eQ:=fun b o h=>by
   rcases imn b o h with h|h
   · exact .inl h
   exact .inr (.inl h)
  oZ:=fun t' li h=>by
   rcases Hh t' li h with h|⟨h,_⟩
   · exact .inl h
   exact .inr h
  own:=fun t' li k hl hk hs=>by
   rcases Hh t' li hl with h1|⟨h1,_⟩
   · obtain ⟨n1,e1⟩:=P2 _ _ _ h1 hk hs
     exact .inr ⟨t',li,k,h1,e1,hs,rfl⟩
   rcases ((Vl t' li k hl h1 (P3 _ _ h1 hk)).2 hs).2 with h|⟨lt,k0,a,b,c,d⟩
   · exact .inl h
   exact .inr ⟨t,lt,k0,a,b,c,d⟩}
theorem SR.Hi (h:SR im loc aD fz w):loc (aj3 aD)=aj7:=by
 cases hl:loc (aj3 aD) with
 |none=>rfl
 |some li=>obtain ⟨k,hk,_⟩:=h.eh _ _ hl;simp at hk
theorem P4 {t e:Nat} {li:LI} {rows L:List Row} {arr fin:Array Value} {el:TypeId} (oW:SR im loc aD fz w) (hl:loc t=aj6 li) (cA:aD[t]? =aj6 (.arr e rows)) (dK:rows≠[]) (hf:has fz t=aj9)
 (ha:w.heap[li.eh]? =aj6 (.cells arr el (0,0))) (hh:w'.heap=w.heap.setIfInBounds li.eh (.cells fin el (0,0))) (ho:w'.os=w.os) (ht:Tape w w') (hp:w'.output=w.output)
 (tC:fin.size=li.sz) (xI:li.sh+aj3 L*e<=li.sz) (hr:cd (fun k=>fin[k]?) li.sh e L):
 tN im loc aD w {v:= .own (aj3 aD) e 0 (aj3 L) (aj3 L) aj9,news:=[.arr e L],wr:=[(t,.dead)]} im (loc.set (aj3 aD) ⟨li.eh,li.sh,e,aj3 L,li.sz⟩) w':=by
 have dW:=(IR.1 ha).1;have Ag:(lz.arr e rows).bT=aj8:=sH dK;have Ex:=oW.free t li _ hl cA Ag hf;have Rm:=oW.Hi;exact {
  iw:= .refl _,eF:=Loc.xY _ Rm
  bQ:=fun b o hb=>by
   have h1:=oW.bQ b o hb;have Mf:li.eh≠b:=fun e=>by rw [e,hb] at Ex;cases Ex
   rw [hh,ab0,ls Mf];exact h1
  eQ:=fun _ _ h=> .inl h,os:=ho,tape:=ht,output:=hp
  size:=by rw [hh];simp
  Py:=fun t' k hm hs=>by
   obtain ⟨rfl,rfl⟩:t'=t/\k= .dead:=by simpa using hm
   cases hs
  frame:=fun b _ hb=>by have Mf:=hb t .dead li _ (abM.2 rfl) hl cA Ag;rw [hh,ab0,ls Mf]
  wr:=fun t' k li hm mS=>by
   obtain ⟨rfl,rfl⟩:t'=t/\k= .dead:=by simpa using hm
   trivial
  lL:=fun t' l h=>by
   unfold Loc.set at h;split at h
   · rename_i e;subst e;exact .inr ⟨Do _,by simp⟩
   exact .inl h
  news:=Cf fun j k hj=>by
   cases j with
   |zero=>simp at hj;subst hj;refine ⟨_,Loc.fG _ _ _,⟨rfl,rfl,fun _=>⟨fin,el,by rw [hh];simp [dW],tC,xI,hr⟩⟩,fun _=>⟨Ex,.inr ⟨t,li,_,abM.2 rfl,hl,cA,Ag,rfl⟩⟩⟩
   |succ j=>simp at hj
  distinct:=fun i j ki kj li lj h1 h2 _ _ _ _ _=>by cases i<;>cases j<;>simp at h1 h2<;>rfl}
theorem P5 {t e:Nat} {L:List Row} {fin:Array Value} {el:TypeId} (oW:SR im loc aD fz w)
 (hh:w'.heap=w.heap.push (.cells fin el (0,0))) (ho:w'.os=w.os) (ht:Tape w w') (hp:w'.output=w.output)
 (xI:(aj3 L)*e<=fin.size) (hr:cd (fun k=>fin[k]?) 0 e L):
 tN im loc aD w {v:= .own (aj3 aD) e 0 (aj3 L) (aj3 L) aj9,news:=[.arr e L],wr:=[(t,.dead)]} im (loc.set (aj3 aD) ⟨w.heap.size,0,e,aj3 L,fin.size⟩) w':=by
 have Rm:=oW.Hi;have old: ∀b,b<w.heap.size->w'.heap[b]? =w.heap[b]?:=fun b hb=>by rw [hh,Array.getElem?_push,ls (by omega)]
 have dW: ∀b o,im b=aj6 o->b<w.heap.size:=fun b o h=>(IR.1 (oW.bQ b o h)).1
 exact {
  iw:= .refl _,eF:=Loc.xY _ Rm
  bQ:=fun b o hb=>by rw [old b (dW b o hb)];exact oW.bQ b o hb
  eQ:=fun _ _ h=> .inl h,os:=ho,tape:=ht,output:=hp
  size:=by rw [hh];simp
  Py:=fun t' k hm hs=>by
   obtain ⟨rfl,rfl⟩:t'=t/\k= .dead:=by simpa using hm
   cases hs
  frame:=fun b hb _=>old b hb
  wr:=fun t' k li hm mS=>by
   obtain ⟨rfl,rfl⟩:t'=t/\k= .dead:=by simpa using hm
   trivial
  lL:=fun t' l h=>by
   unfold Loc.set at h;split at h
   · rename_i e;subst e;exact .inr ⟨Do _,by simp⟩
   exact .inl h
  news:=Cf fun j k hj=>by
   cases j with
   |zero=>
    simp at hj;subst hj;refine ⟨_,Loc.fG _ _ _,⟨rfl,rfl,fun _=>⟨fin,el,by rw [hh];simp,rfl,by simpa using xI,hr⟩⟩,fun _=>⟨?_,.inl (Do _)⟩⟩;cases hi:im w.heap.size with
    |none=>rfl
    |some o=>have:=dW _ _ hi;omega
   |succ j=>simp at hj
  distinct:=fun i j ki kj li lj h1 h2 _ _ _ _ _=>by cases i<;>cases j<;>simp at h1 h2<;>rfl}
theorem Hj {esz:Nat}: ∀{rows:List Row} (_: ∀r∈rows,aj3 r=esz) (i:Nat),(rows.take i).flatMap bk=(rows.flatMap bk).take (i*esz)
 | [],_,i=>by simp
 |r::rs,h,0=>by simp
 |r::rs,h,i+1=>by
  have hr:(bk r).length=esz:=by rw [lV];exact h r (by simp)
  have e1:(bk r).take ((i+1)*esz)=bk r:=abP (by rw [hr,ado];omega);rw [List.take_succ_cons,acD,Hj (fun x hx=>h x (by simp [hx])) i,acD,List.take_append,e1,hr,show (i+1)*esz-esz=i*esz by rw [ado];omega]
theorem Hk {esz:Nat}: ∀{rows:List Row} (_: ∀r∈rows,aj3 r=esz) (i:Nat),(rows.drop i).flatMap bk=(rows.flatMap bk).drop (i*esz)
 | [],_,i=>by simp
 |r::rs,h,0=>by simp
 |r::rs,h,i+1=>by
  have hr:(bk r).length=esz:=by rw [lV];exact h r (by simp)
  have e1:(bk r).drop ((i+1)*esz)=[]:=acO (by rw [hr,ado];omega);rw [List.drop_succ_cons,Hk (fun x hx=>h x (by simp [hx])) i,acD,List.drop_append,e1,hr,show (i+1)*esz-esz=i*esz by rw [ado];omega,List.nil_append]
theorem Vn {α:Type} {o k:Nat} {cs vs l:List α} (hl:o+(aj3 cs+aj3 vs)<=aj3 l) (hk:k<=aj3 cs) (np: ∀j v,j<k->cs[j]? =aj6 v->l[o+j]? =aj6 v):
 ∀j v,(cs.take k++vs++cs.drop k)[j]? =aj6 v->(nH (o+k) vs (nH (o+k+aj3 vs) (cs.drop k) l))[o+j]? =aj6 v:=by
 intro j v h;have hd:(cs.drop k).length=aj3 cs-k:=acJ;have ht:(cs.take k).length=k:=by rw [acK];omega
 have l1:o+k+aj3 vs+(cs.drop k).length<=(aj3 l):=by rw [hd];omega
 rw [jv _ _ _ (by rw [dA _ _ _ l1];omega)];rcases UV j k with h1|h1
 · rw [ls (by omega),jv _ _ _ l1,ls (by omega)]
   rw [abU,ww (by omega),acH h1] at h;exact np j v h1 h
 rw [abU,If (by omega),ht] at h
 rcases UV (j-k) (aj3 vs) with h2|h2
 · rw [ww h2] at h
   rw [lm ⟨by omega,by omega⟩,<- h]
   congr 1;omega
 rw [If h2] at h
 have:=(v6.1 h).1;rw [ls (by omega),jv _ _ _ l1,lm ⟨by omega,by omega⟩,<- h]
 congr 1;omega
theorem RZ {α:Type} {k:Nat} {cs vs l:List α} (hl:(aj3 cs)+aj3 vs<=aj3 l) (hk:k<=aj3 cs) (np: ∀(j:Nat) (v:α),j<k->cs[j]? =aj6 v->l[j]? =aj6 v):
 ∀(j:Nat) (v:α),(cs.take k++vs++cs.drop k)[j]? =aj6 v->(nH (k+aj3 vs) (cs.drop k) (nH k vs l))[j]? =aj6 v:=by
 intro j v h;have hd:(cs.drop k).length=aj3 cs-k:=acJ;have ht:(cs.take k).length=k:=by rw [acK];omega
 have l1:k+aj3 vs<=(aj3 l):=by omega
 rw [jv _ _ _ (by rw [dA _ _ _ l1,hd];omega)];rcases UV j k with h1|h1
 · rw [ls (by omega),jv _ _ _ l1,ls (by omega)]
   rw [abU,ww (by omega),acH h1] at h;exact np j v h1 h
 rw [abU,If (by omega),ht] at h
 rcases UV (j-k) (aj3 vs) with h2|h2
 · rw [ww h2] at h
   rw [ls (by omega),jv _ _ _ l1,lm ⟨by omega,by omega⟩,<- h]
 rw [If h2] at h
 have:=(v6.1 h).1;rw [lm ⟨by omega,by omega⟩,<- h]
 congr 1;omega
theorem SR.P6 (h:SR im loc aD fz w) {t:Nat} (hf:has fz t=aj9) {r:od} (hw:r.wr=[(t,.dead)]):jS im loc aD w r where
 bQ:=h.bQ
 tok:=fun t _ li hl=>h.eh t li hl
 free:=fun t' k hm li k' hl hk hs=>by
  rw [hw] at hm;obtain rfl:t'=t:=by have:=abM.1 hm;injection this
  exact h.free t' li k' hl hk hs hf
 fresh:=fun j hj=>by
  cases hl:loc (aj3 aD+j) with
  |none=>rfl
  |some li=>obtain ⟨k,hk,_⟩:=h.eh _ _ hl;rw [List.getElem?_eq_none (by omega)] at hk;cases hk
 jV:=fun t u li lj k k' _ _=>h.jV t u li lj k k'
structure Kt (P:Program) (f:FuncId) (e:Nat) (tS:TypeId):Prop where
 ends: ∀(oo:Option Addr) (n c vb o3 vc:Nat) (w w':World) (v':Value),n<=c->(Builtin.append_ #[tS,tS] tS #[.slice oo n c,.slice (aj6 ⟨vb,o3,aj7⟩) 1 vc]).run P w= .ok v' w'->
  Calls P f #[.slice oo n c,.int .i64 n,.slice (aj6 ⟨vb,o3,aj7⟩) 1 vc] w fun e W=>e= .returned v'/\W=w'
 room: ∀(b off n c i vb o3 vc:Nat) (cs vs:List Value) (arr av:Array Value) (el ev:TypeId) (w:World),i<n->n+1<=c->n<=1048576->vb≠b->w.heap[b]? =aj6 (.cells arr el (0,0))->w.heap[vb]? =aj6 (.cells av ev (0,0))->
  off+(n+1)*e<=arr.size->aj3 cs=n*e->aj3 vs=e->(∀(j:Nat) (v:Value),cs[j]? =aj6 v->arr[off+j]? =aj6 v)->(∀(j:Nat) (v:Value),vs[j]? =aj6 v->av[o3+j]? =aj6 v)->(∀v∈cs,v.oneCell'=aj8)->(∀v∈vs,v.oneCell'=aj8)->
  ∃fin:List Value,aj3 fin=arr.size/\(∀(j:Nat) (v:Value),(cs.take (i*e)++vs++cs.drop (i*e))[j]? =aj6 v->fin[off+j]? =aj6 v)/\
  Calls P f #[.slice (aj6 ⟨b,off,aj7⟩) n c,.int .i64 i,.slice (aj6 ⟨vb,o3,aj7⟩) 1 vc] w fun x w'=>
   x= .returned (.slice (aj6 ⟨b,off,aj7⟩) (n+1) c)/\w'.heap=w.heap.setIfInBounds b (.cells fin.toArray el (0,0))/\w'.os=w.os/\Tape w w'/\w'.output=w.output
 full: ∀(b off n i vb o3 vc:Nat) (cs vs:List Value) (w:World),i<n->n<=1048576->aj3 cs=n*e->aj3 vs=e->
  (∀(j:Nat) (v:Value),cs[j]? =aj6 v->w.cell? ⟨b,off+j,aj7⟩=aj6 v)->(∀(j:Nat) (v:Value),vs[j]? =aj6 v->w.cell? ⟨vb,o3+j,aj7⟩=aj6 v)->(∀v∈cs,v.oneCell'=aj8)->(∀v∈vs,v.oneCell'=aj8)->
  ∃(G:Nat) (fin:List Value) (el:TypeId),n+1<=G/\aj3 fin=G*e/\(∀(j:Nat) (v:Value),(cs.take (i*e)++vs++cs.drop (i*e))[j]? =aj6 v->fin[j]? =aj6 v)/\
  Calls P f #[.slice (aj6 ⟨b,off,aj7⟩) n n,.int .i64 i,.slice (aj6 ⟨vb,o3,aj7⟩) 1 vc] w fun x w'=>
   x= .returned (.slice (aj6 ⟨w.heap.size,0,aj7⟩) (n+1) G)/\w'.heap=w.heap.push (.cells fin.toArray el (0,0))/\w'.os=w.os/\Tape w w'/\w'.output=w.output
theorem PM.ins {f:FuncId} {e:Nat} {tS tE:TypeId} {fn:Func} {c:Code} {i0:TypeInfo} {z:Value} (hf:P.funcs[f]? =aj6 fn) (yh:(fn.name== "runtime.NumGoroutine")=aj9) (hb:fn.body=aj6 c)
 (ht:P.underlying tS=aj6 (.slice tE)) (hi:P.info? tE=aj6 i0) (tC:i0.size=e) (hz:i0.zero=aj6 z) (Rl:z.cells.size=e) (Md:i0.bytes<=1048576) (he0:0<e) (H:Kt P f e tS):PM P f (Ih e):=by
 refine ⟨fn,c,hf,yh,hb,?_⟩;intro args aD fz v xL Kb hp im loc w us oW B2;unfold Ih at hp;split at hp
 case h_2=>cases hp
 rename_i t e1 off len cap ex i u e2 ajQ JN R3 ex2;split at hp
 case h_2=>cases hp
 rename_i e3 rows e4 new cA hsu;split at hp
 case isFalse=>cases hp
 rename_i hc;simp only [rc,Nat.beq_eq,NE,decide_eq_true_eq,acl] at hc;obtain ⟨⟨⟨⟨⟨⟨⟨⟨⟨⟨⟨q1,q2⟩,rfl⟩,rfl⟩,dd⟩,rfl⟩,A7⟩,htu⟩,UY⟩,R4⟩,hil⟩,oq⟩:=hc;have q1:=q1.symm;subst q1;have q2:=q2.symm;subst q2;have oq:len+1<=1048576:=oq;injection hp with hp;simp only [EQ] at hp;obtain ⟨rfl,rfl,rfl⟩:=hp;obtain ⟨k,rfl⟩: ∃k:Nat,i=(k:Int):=⟨i.toNat,by omega⟩;simp only [Int.toNat_natCast] at hil ⊢;obtain ⟨x0,us1,rfl,Mz,B2⟩: ∃x0 us1,us=x0::us1/\VR im loc (.own t e 0 len cap ex) x0/\fF im loc [.int .i64 (k:Int),.own u e 0 1 R3 ex2] us1:=by cases B2 with|cons _ a _ b h1 h2=>exact ⟨a,b,rfl,h1,h2⟩
 obtain ⟨x1,us2,rfl,Kr,B2⟩: ∃x1 us2,us1=x1::us2/\VR im loc (.int .i64 (k:Int)) x1/\fF im loc [.own u e 0 1 R3 ex2] us2:=by cases B2 with|cons _ a _ b h1 h2=>exact ⟨a,b,rfl,h1,h2⟩
 obtain ⟨x2,us3,rfl,hx2,B2⟩: ∃x2 us3,us2=x2::us3/\VR im loc (.own u e 0 1 R3 ex2) x2/\fF im loc [] us3:=by cases B2 with|cons _ a _ b h1 h2=>exact ⟨a,b,rfl,h1,h2⟩
 obtain rfl:us3=[]:=by cases B2;rfl
 have Kr:=Kr.gV;subst Kr;obtain ⟨li,a,dh,rfl,hl,he,Es,hlc,PB,_,GP⟩:=Mz.ju;obtain ⟨lj,a2,R5,rfl,JW,xP,aty,au7,au8,_,akH⟩:=hx2.ju;have UI:t<(aj3 aD):=(v6.1 cA).1;obtain ⟨k1,jG,uK⟩:=oW.eh t li hl;rw [cA] at jG;injection jG with jG;subst jG;obtain ⟨k2,D1,apj⟩:=oW.eh u lj JW;rw [hsu] at D1;injection D1 with D1;subst D1;obtain ⟨b1,b2,b3⟩:=uK;obtain ⟨d1,d2,d3⟩:=apj;have adh:new≠[]:=by intro h;subst h;simp at A7
 obtain ⟨av,ev,PJ,hv2,hv3,adi⟩:=d3 adh;have e34:e=e3:=by rw [<- b1,he]
 subst e34;have e44:e=e4:=by rw [<- d1,xP]
 subst e44;obtain rfl:a2=aj6 ⟨lj.eh,lj.sh,aj7⟩:=by
  rcases akH with h|⟨_,h,_⟩
  · omega
  simpa using h
 have GO:=adi.om;have Q6:=adi.plain;have GQ:=dY GO;rw [A7] at GQ;refine .inr ⟨lW hf yh hb,?_⟩;rcases UV k len with hk|hk
 ·
  have qA:rows≠[]:=by intro h;subst h;simp at dd;omega
  obtain ⟨arr,el,vq,JV,LW,dt⟩:=b3 qA;obtain ⟨hn0,rfl,xI⟩:li.n≠0/\a=aj6 ⟨li.eh,li.sh,aj7⟩/\li.sh+dh*e<=li.sz:=by
   rcases GP with h|⟨h1,h2,h3⟩
   · omega
   exact ⟨h1,by simpa using h2,by simpa using h3⟩
  have JT:=dt.om;have U3:=dt.plain;have Ri:=dY JT;rw [<- dd] at Ri;obtain ⟨L,hL⟩: ∃L,L=rows.take k++new++rows.drop k:=⟨_,rfl⟩;have hLl:(aj3 L)=len+1:=by rw [hL];simp only [abT,acK,acJ,A7];omega
  have hLf:L.flatMap bk=(rows.flatMap bk).take (k*e)++new.flatMap bk++(rows.flatMap bk).drop (k*e):=by rw [hL,aig,aig,Hj JT,Hk JT]
  have hLr: ∀r∈L,aj3 r=e:=by
   intro r hr;rw [hL] at hr;rcases abJ.1 hr with h|h
   · rcases abJ.1 h with h|h
     · exact JT r (adp h)
     exact GO r h
   exact JT r (adF h)
  have hLp: ∀r∈L,∀c∈r,c.plain=aj8:=by
   intro r hr;rw [hL] at hr;rcases abJ.1 hr with h|h
   · rcases abJ.1 h with h|h
     · exact U3 r (adp h)
     exact Q6 r h
   exact U3 r (adF h)
  rw [<- hL,<- hLl];have np: ∀j v,(rows.flatMap bk)[j]? =aj6 v->arr[li.sh+j]? =aj6 v:=fun j v hj=>dt.flat j v hj
  have Is: ∀j v,(new.flatMap bk)[j]? =aj6 v->av[lj.sh+j]? =aj6 v:=fun j v hj=>adi.flat j v hj
  have GM:(len+1)*e<=dh*e\/dh=len:=by
   rcases UV len dh with h|h
   · exact .inl (agd _ h)
   exact .inr (by omega)
  rcases GM with tQ|Oe
  · have akJ:len+1<=dh:=Nat.le_of_mul_le_mul_right tQ he0
    have dK:lj.eh≠li.eh:=fun h=>by have:=oW.jV u t lj li _ _ JW hl hsu cA (sH adh) (sH qA) h;rw [this] at htu;simp at htu
    obtain ⟨fin,f1,f2,f3⟩:=H.room li.eh li.sh len dh k lj.eh lj.sh R5 _ _ arr av el ev w hk akJ (by omega) dK vq PJ (by omega) Ri (by omega) np Is (sU U3) (sU Q6);refine f3.mono fun x w' ⟨hx,hh,ho,htp,hpp⟩=>⟨_,hx,im,loc.set (aj3 aD) ⟨li.eh,li.sh,e,aj3 L,li.sz⟩,?_⟩
    have hE:=P4 (w':=w') (L:=L) oW hl cA qA UY vq hh ho htp hpp (by simp [f1,JV]) (by rw [hLl];omega) (cd.Cg hLr hLp fun j v hj=>by rw [hLf] at hj;simpa using f2 j v hj);refine Cv oW hE rfl rfl UI ?_;rw [<- hLl];exact .own _ _ 0 _ _ aj9 ⟨li.eh,li.sh,e,aj3 L,li.sz⟩ _ dh (Loc.fG _ _ _) rfl (by show 0+aj3 L<=aj3 L;omega) (Do _) (by omega) (fun h=>by cases h) (.inr ⟨by show (aj3 L)≠0;omega,by simp,by show li.sh+(0+dh)*e<=li.sz;rw [Nat.zero_add];exact xI⟩)
  subst Oe
  obtain ⟨G,fin,el',g1,g2,g3,g4⟩:=H.full li.eh li.sh dh k lj.eh lj.sh R5 _ _ w hk (by omega) Ri (by omega) (fun j v hj=>by simp only [aiS,vq];exact np j v hj) (fun j v hj=>by simp only [aiS,PJ];exact Is j v hj) (sU U3) (sU Q6);have hg:(dh+1)*e<=G*e:=agd _ g1;refine g4.mono fun x w' ⟨hx,hh,ho,htp,hpp⟩=>⟨_,hx,im,loc.set (aj3 aD) ⟨w.heap.size,0,e,aj3 L,fin.toArray.size⟩,?_⟩
  have hE:=P5 (w':=w') (t:=t) (L:=L) (e:=e) oW hh ho htp hpp (by rw [hLl];simp [g2];omega) (cd.Cg hLr hLp fun j v hj=>by rw [hLf] at hj;simpa using g3 j v hj);refine Cv oW hE rfl rfl UI ?_;rw [<- hLl];exact .own _ _ 0 _ _ aj9 ⟨w.heap.size,0,e,aj3 L,fin.toArray.size⟩ _ G (Loc.fG _ _ _) rfl (by show 0+aj3 L<=aj3 L;omega) (Do _) (by omega) (fun h=>by cases h) (.inr ⟨by show (aj3 L)≠0;omega,by simp,by show 0+(0+G)*e<=fin.toArray.size;simp [g2]⟩)
 ·
  obtain rfl:k=len:=by omega
  have apm:rows.take k++new++rows.drop k=rows++new:=by rw [abP (by omega),acO (by omega),List.append_nil]
  rw [apm];have apn:VR im loc (.own t e 0 k k aj9) (.slice a k dh):= .own t e 0 k k aj9 li a dh hl he (by omega) (Do _) (by omega) (by simp) GP;have AX:rowsOf aD e (.own u e 0 1 R3 ex2)=aj6 new:=by
   have:(new.drop 0).take 1=new:=by rw [aj1,abP (by omega)]
   show (if v4 e e=aj8 then (match aD[u]? with|some (.arr _ rows)=>aj6 ((rows.drop 0).take 1)|_=>aj7) else aj7)=_;rw [lm (Nat.beq_refl e),hsu];exact congrArg aj6 this
  have hap:jt aD fz e (.own t e 0 k k aj9) (.own u e 0 1 R3 ex2)=aj6 {v:= .own (aj3 aD) e 0 (k+1) (k+1) aj9,news:=[.arr e (rows++new)],wr:=[(t,.dead)],rd:=[u]}:=by
   have h1:ab1 (k+1) k=aj9:=by
    cases h:ab1 (k+1) k with
    |false=>rfl
    |true=>have:=Nat.le_of_ble_eq_true h;omega
   have h2:ab1 (k+1) mC=aj8:=by simpa [mC] using oq
   have h3:(rows.drop 0).take k=rows:=by rw [aj1,abP (by omega)]
   unfold jt;rw [AX];cases new with
   |nil=>exact absurd rfl adh
   |cons r rs=>have h0:(r::rs).length=1:=A7;simp only [h0,cA,h1,h2,h3,UY,js];simp
  obtain ⟨v',w',bu,cf,oY,hE⟩:=Eu (P:=P) (w:=w) (ty:=tS) ht ht hi tC hz Rl Md apn hx2 hap (oW.P6 UY rfl);refine (H.ends a k dh lj.eh lj.sh R5 w w' v' (by omega) cf).mono fun x W ⟨hx,hW⟩=>⟨v',hx,im,bu,?_⟩
  subst hW;exact Cv oW hE rfl rfl UI oY
end
end Go.Vm
/- A table of functions as a tree. -/
namespace Go.Vm
inductive TT where
 |nil
 |leaf (k:Nat) (e:Ent)
 |node (m:Nat) (a b:TT)
def TT.get:TT->Nat->Option Ent
 | .nil,_=>aj7
 | .leaf k e,f=>bif v4 f k then aj6 e else aj7
 | .node m a b,f=>bif abZ f m then a.get f else b.get f
def TT.All (p:Nat->Ent->Prop):TT->Prop
 | .nil=>True
 | .leaf k e=>p k e
 | .node _ a b=>a.All p/\b.All p
theorem TT.Bh {p:Nat->Ent->Prop}: ∀{t:TT} {f:Nat} {e:Ent},t.All p->t.get f=aj6 e->p f e
 | .nil,f,e,_,h=>by cases h
 | .leaf k e',f,e,ha,h=>by
  simp only [TT.get] at h;cases hk:v4 f k with
  |false=>rw [hk] at h;cases h
  |true=>
   rw [hk] at h;have:f=k:=by simpa using hk
   subst this;have h:aj6 e'=aj6 e:=h;injection h with h;subst h;exact ha
 | .node m a b,f,e,ha,h=>by
  simp only [TT.get] at h;cases hk:abZ f m with
  |false=>rw [hk] at h;exact TT.Bh ha.2 h
  |true=>rw [hk] at h;exact TT.Bh ha.1 h
def xB (P:Program) (f:Nat):Ent->Prop
 | .code x=>au P (fun _=>aj8) x f=aj8
 | .kS k p=>k=aj9/\Ix P f p
 | .LV p=>PM P f p
theorem TT.akK {P:Program} {t:TT} (h:t.All (xB P)):Kn P (fun _=>aj8) t.get:=fun f x hf=>by have:=TT.Bh h hf;exact this
theorem TT.Vo {P:Program} {t:TT} (h:t.All (xB P)):y8 P t.get:=⟨fun _ _ _ hf=>TT.Bh h hf,fun _ _ hf=>TT.Bh h hf⟩
end Go.Vm
/- The logical machine's code of a function, reckoned from the model's own (what it comes to is looked at by chkFunc; nothing is proved of it here). -/
namespace Go.Vm
structure akL where
 md:FuncId->CM
 gG:List Nat
 apo:List (Nat×List (Nat×Nat)):=[]
 more:List (Nat×List (Nat×Option Nat)):=[]
 tb:Bool:=aj9
section
variable (P : Program)
def P7 (t:TypeId):Nat:=match P.info? t with
 |some i=>i.size
 |none=>0
def MA (t:TypeId):Option Nat:=match P.underlying t with
 |some (.struct _)|some (.array _ _)=>aj6 (P7 P t)
 |_=>aj7
def uO:Nat->TypeId->List PV
 |0,_=>[]
 |n+1,t=>match P.underlying t with
  |some (.int k)=>[.int k 0]
  |some .bool=>[.bool aj9]
  |some .string=>[.str .empty]
  |some (.slice e)=>[.sl (P7 P e) aj8 []]
  |some (.struct fs)=>fs.toList.flatMap fun f=>uO n f.type
  |some (.array m e)=>(abV m (uO n e)).flatten
  |some (.func ..)=>[.eo]
  |_=>[.undef]
def ab5 (t:TypeId):PV:=match uO P 9 t with
 |x::_=>x
 | []=> .sl 0 aj8 []
def ab6 (t:TypeId):PV:=match MA P t with
 |some _=> .agg (uO P 9 t)
 |none=>ab5 P t
def ab7 (z:PV):Value->PV
 | .int k n=> .int k n
 | .bool b=> .bool b
 | .string s=> .str s
 | .slice .. =>z
 | .nilFunc=> .eo
 |_=> .undef
def ab8:List PV->List Value->List PV
 |z::zs,v::vs=>ab7 z v::ab8 zs vs
 |_,_=>[]
def apq (t:TypeId):Value->PV
 | .agg vs=> .agg (ab8 (uO P 9 t) vs.toList)
 |v=>ab7 (ab5 P t) v
def rX (t:TypeId):Operand->fU
 | .tmp n=> .t n
 | .const v=> .c (apq P t v)
 | .func f=> .c (.fh f [] [])
 | .global _=> .c .undef
def R6:List TypeId->List Operand->List fU
 |t::ts,o::os=>rX P t o::R6 ts os
 |_,_=>[]
def gZ:Operand->fU
 | .tmp n=> .t n
 | .const (.int k n)=> .c (.int k n)
 | .const (.bool b)=> .c (.bool b)
 | .const (.string s)=> .c (.str s)
 | .func f=> .c (.fh f [] [])
 |_=> .c .undef
def zP (t:TypeId):TypeId:=match P.underlying t with
 |some (.slice e)=>e
 |some (.array _ e)=>e
 |_=>0
def R7 (place:Nat->Option (Nat×Nat)) (ty:Nat->TypeId):List (Nat×Operand)->List (Nat×Nat×fU)
 | []=>[]
 |(i,o)::r=>match place i with
  |some (a,b)=>(a,b,rX P (ty i) o)::R7 place ty r
  |none=>[]
def R8 (t:TypeId) (i:Nat):TypeId:=match P.underlying t with
 |some (.struct fs)=>match fs[i]? with
  |some f=>f.type
  |none=>0
 |some (.array _ e)=>e
 |_=>0
def akM (t:TypeId) (i:Nat):Nat:=match P.underlying t with
 |some (.struct fs)=>match fs[i]? with
  |some f=>f.offset
  |none=>0
 |_=>0
def ab9:BinOp->Bool
 | .neq=>aj8
 |_=>aj9
def R9 (b:Builtin) (args:List Operand) (ts:List TypeId):lJ:=
 match b,args,ts with
 | .len,x::_,t::_=>match P.underlying t with
  |some (.slice _)|some (.map _ _)=> .len (rX P t x)
  |some (.array m _)=> .L8 m
  |some (.pointer e)=>match P.underlying e with
   |some (.array m _)=> .L8 m
   |_=> .bad
  |_=> .bad
 | .append,[x,y],[t,u]=>match P.underlying u with
  |some (.slice _)=> .append (P7 P (zP P t)) (rX P t x) (rX P u y)
  |_=> .bad
 | .copy,[x,y],[t,u]=>match P.underlying u with
  |some (.slice _)=> .copy (P7 P (zP P t)) (rX P t x) (rX P u y)
  |_=> .bad
 | .clear,[x],[t]=>match P.underlying t with
  |some (.slice e)=> .clear (P7 P e) (uO P 9 e) (rX P t x)
  |_=> .bad
 | .min,x::xs,_=> .mm aj9 (gZ x) (xs.map gZ)
 | .max,x::xs,_=> .mm aj8 (gZ x) (xs.map gZ)
 |_,_,_=> .bad
def cOp (tb:Bool) (md:FuncId->CM) (ty:TypeId):Op->lJ
 | .move x| .assign x=> .Q4 (rX P ty x)
 | .pick c a b=> .pick (gZ c) (rX P ty a) (rX P ty b)
 | .binOp op t x y _=>match P.underlying t with
  |some (.int _)=> .bin op (gZ x) (gZ y)
  |some .bool=> .JF (ab9 op) (gZ x) (gZ y)
  |some (.struct _)|some (.array _ _)=> .eqc (P7 P t) (ab9 op) (rX P t x) (rX P t y)
  |_=> .bad
 | .unOp op _ x=> .un op (gZ x)
 | .convert _ t x=>match P.underlying t with
  |some (.int k)=> .conv k (gZ x)
  |_=> .bad
 | .box t x=> .box (rX P t x)
 | .alloc t=> .alloc (uO P 9 t)
 | .build t ps=> .build (uO P 9 t) (R7 P (placeOf P t) (R8 P t) ps.toList)
 | .buildSlice t n ps=>match P.underlying (zP P t),n,ps.toList with
  |some (.slice _),2,[(0,a),(1,b)]=> .C7 (rX P (zP P t) a) (rX P (zP P t) b)
  |_,_,_=> .AZ (P7 P (zP P t)) n (uO P 9 (zP P t)) (ps.toList.map fun p=>(p.1,rX P (zP P t) p.2))
 | .load t a=> .load (MA P t) (gZ a)
 | .store t a v=> .store (P7 P t) (gZ a) (rX P t v)
 | .nilCheck x=> .JG (gZ x)
 | .fieldAddr t a f=> .JH (akM P t f) (gZ a)
 | .field t a f=> .iE (MA P (R8 P t f)) (akM P t f) (gZ a)
 | .indexAddr t a j=>match P.underlying t with
  |some (.slice e)=> .JI (P7 P e) (rX P t a) (gZ j)
  |some (.array m e)=> .C8 m (P7 P e) (gZ a) (gZ j)
  |_=> .bad
 | .index t a j=>match P.underlying t with
  |some (.array m e)=> .idx m (P7 P e) (MA P e) (rX P t a) (gZ j)
  |some .string=> .JJ (gZ a) (gZ j)
  |_=> .bad
 | .slice t a b c d=>match P.underlying t with
  |some (.slice e)=> .Pv (P7 P e) (rX P t a) (b.map gZ) (c.map gZ) (d.map gZ)
  |_=> .bad
 | .makeSlice t a b=> .mks (P7 P (zP P t)) (uO P 9 (zP P t)) (gZ a) (gZ b)
 | .makeFunc (.func g) c d=> .mkf g (c.toList.map gZ) (d.toList.map gZ)
 | .makeMap t _=> .mkm (bif tb then (match P.underlying t with
  |some (.map _ e)=>aj6 (ab6 P e)
  |_=>aj7) else aj7)
 | .extract a j=> .ext j (gZ a)
 | .lookup t a b ok=>match P.underlying t with
  |some (.map k e)=> .lookup (MA P k) (ab6 P e) ok (gZ a) (rX P k b)
  |_=> .bad
 | .mapUpdate t a b c| .insert t a b c=>match P.underlying t with
  |some (.map k e)=> .Ib (MA P k) (gZ a) (rX P k b) (rX P e c)
  |_=> .bad
 | .call c=>match c.callee with
  | .builtin b=>R9 P b c.args.toList c.argTypes.toList
  | .value (.func f)=> .call (md f) f (R6 P c.argTypes.toList c.args.toList)
  | .value x=> .xt (gZ x) (R6 P c.argTypes.toList c.args.toList)
  |_=> .bad
 |_=> .bad
def akN (tb:Bool) (md:FuncId->CM) (ops:Array Oper) (o:Oper):bW:=
 ⟨o.dst,cOp P tb md o.type o.op,match o.guard with
  |some (i,b)=>match ops[i]? with
   |some q=>match q.dst with
    |some d=>aj6 (d,b)
    |none=>aj7
   |none=>aj7
  |none=>aj7⟩
def Sa:List Nat->List Oper->List Nat
 |acc,[]=>acc
 |acc,o::os=>Sa (acc++[(nK acc (aj3 acc) o.after.toList).getD 0]) os
def bitsOf:Nat->Nat->Nat->List Nat
 |0,_,_=>[]
 |n+1,i,m=>bif v4 m 0 then [] else bif v4 (Nat.mod m 2) 1 then i::bitsOf n (i+1) (Nat.div m 2) else bitsOf n (i+1) (Nat.div m 2)
def Sb (l:List (Nat×Nat)) (x:Nat):Nat×Option Nat:=match l with
 | []=>(x,aj7)
 |(t,k)::r=>bif v4 t x then (x,aj6 k) else Sb r x
def Sc {α:Type} (n:Nat):List (Nat×List α)->List α
 | []=>[]
 |(m,l)::r=>bif v4 m n then l else Sc n r
def hd (l:List Nat):Nat:=match l with
 |x::_=>x
 | []=>0
structure CSt where
 ks:List Nat
 n:Nat
def EZ (H:akL):Code->CSt->jR×CSt
 | .region _ ops dr,s=>(.region (match dr with|true=>aj6 (Sa [] ops.toList)|false=>aj7) (ops.toList.map (akN P H.tb H.md ops)) (bitsOf 1000 0 (hd s.ks)),⟨s.ks.tail,s.n⟩)
 | .seq a b,s=>match EZ H a s with
  |(x,s1)=>match EZ H b s1 with
   |(y,s2)=>(.seq x y,s2)
 | .cond c a b,s=>match EZ H a s with
  |(x,s1)=>match EZ H b s1 with
   |(y,s2)=>(.cond (gZ c) x y,s2)
 | .block id b,s=>match EZ H b s with
  |(x,s1)=>(.block id x,s1)
 | .loop b,s=>match EZ H b ⟨s.ks.tail,s.n+1⟩ with
  |(x,s1)=>(.loop ((bitsOf 1000 0 (hd s.ks)).map (Sb (Sc s.n H.apo))++Sc s.n H.more) x,s1)
 | .exit id,s=>(.exit id,s)
 | .ret,s=>(.ret,s)
 |_,s=>(.skip,s)
def apr:ResultVar->RV
 | .tmp t=> .tmp t
 | .cell t ty=> .cell t (MA P ty)
def akO (fn:Func) (H:akL):aG:=
 ⟨fn.params.size+fn.nfree,match fn.body with
  |some c=>(EZ P H c ⟨H.gG,0⟩).1
  |none=> .skip,fn.results.toList.map (apr P)⟩
def aps (ow sh fp:List Nat) (f:FuncId):CM:=bif has ow f then .own else bif has sh f then .shr else bif has fp f then .fp else .UB
end
end Go.Vm
/- A law's row from what the logical machine answers: the result is aj8, nothing that was there has turned. -/
namespace Go.Vm
open Go.ChangeShapes Go.WideShapes Go.ChangeAt Go.RowKit
section
variable {H : Type} {enc : TypeId × Value -> H} {P : Program}
theorem zQ (hl:laidOutB P=aj8) {W W':World} (hb:Below W.heap.size W W'): ∀{ts:List TypeId} {vs:List Value} {ds:List (DataW H)} {ps:List MemPlace},(∀t∈ts,P.readableRec t=aj8/\t<P.types.size)->
 DataW.TrodAll enc P W 0 (fun _=>aj8) aj8 ts vs ds ps->(∀x∈ps,x.block<W.heap.size)->DataW.TrodAll enc P W' 0 (fun b=>decide (b<W.heap.size)) aj8 ts vs ds ps
 | [],vs,ds,ps,_,h,_=>by obtain ⟨rfl,rfl,rfl⟩:=trodAll_nil h;exact trodAll_mk0
 |t::ts,vs,ds,ps,ht,h,dW=>by obtain ⟨v,LY,d,yi,p,q,rfl,rfl,rfl,h1,h2⟩:=trodAll_cons h;obtain ⟨h3,h4⟩:=ht t (by simp);exact trodAll_cons_mk (Below.trod hl h3 h4 h1 hb fun x hx=>dW x (by simp [hx])) (zQ hl hb (fun t' Of=>ht t' (by simp [Of])) h2 fun x hx=>dW x (by simp [hx]))
theorem Sd (hl:laidOutB P=aj8) {f:Func} {s:ChangeSpec} {W W':World} {args:Array Value} {ds:List (DataW H)} {before:List MemPlace} {bt:TypeId} (akP:s.vars=[]) (Bg:f.resultTypes= #[bt]) (hbt:P.underlying bt=aj6 .bool)
 (hp: ∀t∈f.params.toList,P.readableRec t=aj8/\t<P.types.size) (hW:DataW.Whole enc P f.params.toList s.vars aj9 W args.toList ds [] before)
 (hfn:s.fn H (ds++[])={results:=[.lit (.bool aj8)],args:=ds}) (hb:Below W.heap.size W W'):s.post enc P f aj9 aj8 aj9 aj9 W args (.bool aj8) W':=by
 have hW':=hW;obtain ⟨p,q,hA,hV,rfl,UY,GI⟩:=hW;have dW: ∀x∈p++q,x.block<W.heap.size:=fun x hx=>by simpa using hW'.lt x hx
 refine ⟨ds,[],p++q,[],p,[],hW',?_,?_,?_,hb.frame _,fun h=>by cases h⟩
 · rw [hfn,Bg]
   exact trodAll_mk1 (shut_bool hbt aj8)
 · rw [hfn]
   exact zQ hl hb hp hA fun x hx=>dW x (by simp [hx])
 rw [hfn,akP]
 rfl
end
def E0 (w:World):Im:=fun b=>w.heap[b]?
theorem P8 {w:World} {b o:Nat} {v:Value} (h:w.cell? ⟨b,o,aj7⟩=aj6 v):oi (E0 w) b o=aj6 v:=by unfold aiS at h;unfold oi E0;exact h
theorem P9 {P:Program} {F:mY} {prims:FuncId->Bool} (hT:Kn P prims F) (A':y8 P F) (qB:P.follows .mixedOrders=aj8) {f:FuncId} {args:List PV} {s:cI} {z:List Nat} {n:Nat} {us:List Value} {w:World}
 (h:run F n (.func f args [] [])=aj6 (.func (.bool aj8) s z)) (B2:fF (E0 w) gF args us):Calls P f ⟨us⟩ w fun e w'=>e= .returned (.bool aj8)/\Below w.heap.size w w':=by
 refine (P1 hT A' qB h (im:=E0 w) (fun b o h=>h) B2).mono fun e w' ⟨u,he,⟨eO,bu,oY,_⟩,h1,h2,h3,h4,h5⟩=>?_
 obtain rfl:=oY.kq;exact ⟨he,⟨h1,h2.eq,h3,h4,h5⟩⟩
end Go.Vm
/- Regions of one order, step by step, for contracts. -/
namespace Go.Vm
def Cw:lJ->Bool
 | .call .. | .xt .. =>aj8
 |_=>aj9
variable {F : mY}
def WS (F:mY) (ops:List bW) (st:St) (Q:St->Prop):Prop:= ∀tr,WO F ops st tr (fun s _=>Q s)
def IF (st:St) (o:bW):Option St:=
 match wanted o.guard st.env with
 |some aj8=>match bJ st.env st.aD st.fz o.op with
  |some x=>if (XR.loc x).ok st.fz then aj6 ((XR.loc x).next o.dst st) else aj7
  |none=>aj7
 |some aj9=>aj6 {st with env:=jm o.dst .ke st.env}
 |none=>aj7
theorem IG {rec:Task->Option Out} {e:Env} {aD:cI} {fz:List Nat} {op:lJ} (h:Cw op=aj9):
 xw F rec e aD fz op=(bJ e aD fz op).map .loc:=by
 cases op<;>first|rfl|cases h
theorem WS.nil {st:St} {Q:St->Prop} (h:Q st):WS F [] st Q:=fun _=>WO.nil h
theorem WS.cons {o:bW} {r:List bW} {st lA:St} {Q:St->Prop} (h:Cw o.op=aj9) (hs:IF st o=aj6 lA) (k:WS F r lA Q):WS F (o::r) st Q:=by
 intro tr;unfold IF at hs;split at hs
 · rename_i hw
   split at hs
   · rename_i x hx
     split at hs
     · rename_i Ac
       injection hs with hs;subst hs;exact WO.op x hw (fun rec=>by rw [IG h,hx];rfl) Ac (k _)
     cases hs
   cases hs
 · rename_i hw
   injection hs with hs;subst hs;exact WO.skip hw (k _)
 cases hs
theorem WS.one {o:bW} {r:List bW} {st:St} {Q:St->Prop} (x:od) (hc:Cw o.op=aj9) (hw:wanted o.guard st.env=aj6 aj8) (hx:bJ st.env st.aD st.fz o.op=aj6 x) (Ac:(XR.loc x).ok st.fz=aj8)
 (k:WS F r ((XR.loc x).next o.dst st) Q):WS F (o::r) st Q:=fun tr=>
 WO.op x hw (fun rec=>by rw [IG hc,hx];rfl) Ac (k _)
def D5:List bW->St->Option St
 | [],st=>aj6 st
 |o::r,st=>match Cw o.op with
  |true=>aj7
  |false=>match IF st o with
   |some lA=>D5 r lA
   |none=>aj7
theorem WS.all: ∀{ops:List bW} {st lA:St} {Q:St->Prop},D5 ops st=aj6 lA->Q lA->WS F ops st Q
 | [],st,lA,Q,h,hq=>by simp only [D5,ut] at h;subst h;exact WS.nil hq
 |o::r,st,lA,Q,h,hq=>by
  simp only [D5] at h;cases hc:Cw o.op with
  |true=>rw [hc] at h;cases h
  |false=>
   rw [hc] at h;dsimp only at h;cases hs:IF st o with
   |none=>rw [hs] at h;cases h
   |some s1=>rw [hs] at h;exact WS.cons hc hs (WS.all h hq)
theorem WS.pure {d:Option Nat} {g:Option (Nat×Bool)} {f:FuncId} {as:List fU} {r:List bW} {st:St} {Q:St->Prop}
 {args:List PV} {v:PV} (h:Pure F f args v) (hw:wanted g st.env=aj6 aj8) (ha:B8 st.aD (xT st.aD deep) (Eh st.env as)=aj6 args)
 (k:WS F r {st with env:=jm d v st.env} Q):WS F (⟨d,.call .UB f as,g⟩::r) st Q:=fun tr=>by
 refine WO.pure h hw ha ?_;have:=k (XR.tr (aj3 st.aD) (.loc {v,rd:=dF (df st.aD deep) (Eh st.env as)})::tr);simpa [XR.next,rS,gH] using this
theorem WS.shr {d:Option Nat} {g:Option (Nat×Bool)} {f:FuncId} {as:List fU} {r:List bW} {st:St} {Q:St->Prop}
 (hw:wanted g st.env=aj6 aj8) (h:Ad F f (Eh st.env as) st.aD st.fz fun v s z=>(ab1 (aj3 st.aD) (aj3 s)&&st.fz.all (has z))=aj8/\WS F r {st with env:=jm d v st.env,aD:=s,fz:=z} Q):
 WS F (⟨d,.call .shr f as,g⟩::r) st Q:=fun tr=>by
 obtain ⟨n,v,s,z,hr,hc,hk⟩:=h;refine WO.call (.shr v s z) hw ⟨n,?_⟩ rfl (hk _);simp only [xw,gy,hr];rw [lm hc]
end Go.Vm
/- Plain terms for what a function computes: loops, elements of lists, numbers; and the machine's loop over a plain one. -/
namespace Go.Vm
inductive Step (σ ρ:Type) where
 |next (s:σ)
 |done (r:ρ)
section
variable {σ ρ : Type}
def ou (body:σ->Option (Step σ ρ)):Nat->σ->Option ρ
 |0,_=>aj7
 |n+1,x=>match body x with
  |some (.next y)=>ou body n y
  |some (.done r)=>aj6 r
  |none=>aj7
open Classical in
noncomputable def MB (body:σ->Option (Step σ ρ)) (x:σ):Option ρ:=
 if h: ∃n r,ou body n x=aj6 r then ou body h.choose x else aj7
theorem An {body:σ->Option (Step σ ρ)}: ∀{n:Nat} {x:σ} {r:ρ},ou body n x=aj6 r-> ∀k,ou body (n+k) x=aj6 r
 |0,x,r,h,_=>by cases h
 |n+1,x,r,h,k=>by
  rw [show n+1+k=(n+k)+1 by omega];simp only [ou] at h ⊢;split at h
  · exact An h k
  · exact h
  cases h
theorem P' {body:σ->Option (Step σ ρ)} {n m:Nat} {x:σ} {r s:ρ} (h:ou body n x=aj6 r) (k:ou body m x=aj6 s):r=s:=by have h1:=An h m;have h2:=An k n;rw [Nat.add_comm m n] at h2;rw [h1] at h2;exact acP h2
theorem Df {body:σ->Option (Step σ ρ)} {x:σ} {r:ρ}:MB body x=aj6 r↔ ∃n,ou body n x=aj6 r:=by
 unfold MB;constructor
 · intro h
   split at h
   · exact ⟨_,h⟩
   cases h
 rintro ⟨n,hn⟩
 have hex: ∃n r,ou body n x=aj6 r:=⟨n,r,hn⟩;rw [dif_pos hex];obtain ⟨s,hs⟩:=hex.choose_spec;rw [hs,P' hs hn]
end
noncomputable def Oi {σ ρ:Type} (b:Option Nat) (body:σ->Option (Step σ ρ)) (x:σ):Option ρ:=
 match b with
 |none=>MB body x
 |some N=>ou body N x
theorem Ku {σ ρ:Type} {b:Option Nat} {body:σ->Option (Step σ ρ)} {x:σ} {r:ρ} (h:Oi b body x=aj6 r): ∃n,ou body n x=aj6 r:=by
 cases b with
 |none=>exact Df.1 h
 |some N=>exact ⟨_,h⟩
class LP where
 w:Option Nat
abbrev LP.of (n:Nat):LP:=⟨aj6 n⟩
noncomputable def aB [LP] {σ ρ:Type} (body:σ->Option (Step σ ρ)) (x:σ):Option ρ:=Oi LP.w body x
def aC [LP]:Option Nat:=LP.w
theorem akQ {α β:Type} {x:Option α} {f:α->Option β} {r:β} (h:x.bind f=aj6 r): ∃a,x=aj6 a/\f a=aj6 r:=by
 cases x with
 |none=>cases h
 |some a=>exact ⟨a,rfl,h⟩
def ab' {α ρ:Type} (x:Option α) (f:α->Option ρ):Option ρ:=x.bind f
def aca {ρ:Type} (c:Bool) (a b:Option ρ):Option ρ:=cond c a b
theorem MC {α ρ:Type} {x:Option α} {f:α->Option ρ} {y:ρ} (h:ab' x f=aj6 y): ∃a,x=aj6 a/\f a=aj6 y:=akQ h
theorem MD {ρ:Type} {c:Bool} {a b:Option ρ} {y:ρ} (h:aca c a b=aj6 y):(c=aj8/\a=aj6 y)\/(c=aj9/\b=aj6 y):=by
 cases c
 · exact .inr ⟨rfl,h⟩
 exact .inl ⟨rfl,h⟩
def aE {α:Type} (l:List α) (i:Int):Option α:=
 match i with
 | .ofNat n=>l[n]?
 | .negSucc _=>aj7
def bz {α:Type} (l:List α) (i:Int) (a:α):List α:=l.set i.toNat a
theorem nL {α:Type} {l:List α} {i:Int} {a:α} (h:aE l i=aj6 a): ∃n:Nat,i=ai1 n/\l[n]? =aj6 a:=by
 unfold aE at h;split at h
 · exact ⟨_,rfl,h⟩
 cases h
@[simp] theorem vF {α:Type} (l:List α) (i:Int) (a:α):(bz l i a).length=(aj3 l):=by simp [bz]
def bI {α:Type} (l:List α) (m:List α):Option (List α):=if (aj3 l)+aj3 m<=1048576 then aj6 (l++m) else aj7
def yj {α:Type} (n:Int) (z:α):Option (List α):=if 0<=n/\n<=1048576 then aj6 (abV n.toNat z) else aj7
def hU {α:Type} (l:List α) (lo hi:Int):Option (List α):=if 0<=lo/\lo<=hi/\hi<=(aj3 l) then aj6 ((l.drop lo.toNat).take (hi.toNat-lo.toNat)) else aj7
def bN {α:Type} (l:List α):Option (List α):=if (aj3 l)<=1048576 then aj6 l else aj7
def adj {α:Type} (l m:List α):Option (List α):=if 1<=aj3 l+aj3 m/\aj3 l+aj3 m<=1048576 then aj6 (l++m) else aj7
def zd {α:Type} (l:List α) (i:Int) (m:List α):Option (List α):=if 0<=i/\i.toNat<=aj3 l/\aj3 m=1/\aj3 l+1<=1048576 then aj6 (l.take i.toNat++m++l.drop i.toNat) else aj7
def E1 {α:Type} (f:List α->Option (List α)) (l:List α):Option (List α):=
 if (aj3 l)<=1048576 then (match f l with
 |some m=>if (aj3 m)=(aj3 l) then aj6 m else aj7
 |none=>aj7) else aj7
def IH {α:Type} (f:List α->Option (List α)) (n:Nat) (l:List α):Option (List α):=if n<=(aj3 l) then (E1 f (l.take n)).map (· ++l.drop n) else aj7
def DO (k:IntKind) (a b:Int):Int:=k.wrap (BitVec.ofInt k.bits a&&&BitVec.ofInt k.bits b).toNat
def bOr (k:IntKind) (a b:Int):Int:=k.wrap (BitVec.ofInt k.bits a|||BitVec.ofInt k.bits b).toNat
def apu (k:IntKind) (a b:Int):Int:=k.wrap (BitVec.ofInt k.bits a^^^BitVec.ofInt k.bits b).toNat
def Vp (k:IntKind) (a b:Int):Int:=k.wrap (BitVec.ofInt k.bits a&&& ~~~ BitVec.ofInt k.bits b).toNat
def apv (k:IntKind) (a b:Int):Int:=k.wrap (a*2^(min b.toNat k.bits))
def iy (k:IntKind) (a b:Int):Int:=a.fdiv (2^(min b.toNat k.bits))
def rL (s:ByteArray) (i:Int):Option Int:=
 match i with
 | .ofNat n=>s[n]?.map fun b=>(b.toNat:Int)
 | .negSucc _=>aj7
def DP (l:List (List Int)) (k:List Int):Bool:=l.any fun m=>k==m
def ME (l:List (List Int)) (k:List Int):List (List Int):=bif DP l k then l else l++[k]
def ov (a:List Int) (l:List (List Int)):Bool:=l.all fun b=>v4 (aj3 b) (aj3 a)
def Kv (l:List (List Int)) (k:List Int):Option Bool:=bif ov k l then aj6 (DP l k) else aj7
def Kw (l:List (List Int)) (k:List Int):Option (List (List Int)):=bif ov k l then aj6 (ME l k) else aj7
def Dg {α:Type} (z:α):List (Int×α)->Int->α
 | [],_=>z
 |p::r,k=>bif k==p.1 then p.2 else Dg z r k
def Dh {α:Type}:List (Int×α)->Int->α->List (Int×α)
 | [],k,a=>[(k,a)]
 |p::r,k,a=>bif k==p.1 then (k,a)::r else p::Dh r k a
section
variable {F : mY}
end
end Go.Vm
/- A logical machine over typed values: it turns a function's code into a plain term. What it computes is tied to the logical machine in SvRun. -/
namespace Go.Vm
inductive PT where
 |i (k:IntKind)
 |b
@[reducible] def PT.T : PT -> Type
  | .i _ => Int
  | .b => Bool
@[reducible] def RT : List PT -> Type
  | [] => Unit
  | [p] => p.T
  | p :: q :: r => p.T × RT (q :: r)
inductive SV where
 |iz
 |undef
 |ke
 |eo
 |int (k:IntKind) (n:Int)
 |bool (b:Bool)
 |str (s:ByteArray)
 |agg (cs:List SV)
 |b8 (cs:List SV)
 |sl (r:List PT) (l:List (RT r))
 |nil (e:Nat) (c:Bool)
 |own (t:Nat) (ex:Bool)
 |pre (t len cap:Nat) (ex:Bool)
 |part (t off len cap:Nat) (ex:Bool)
 |pa (t:Nat) (r:List PT) (i:Int) (a:RT r) (off:Nat)
 |pb (t:Nat) (i:Int) (off:Nat)
 |bp (t n off:Nat)
 |bM (cs:List SV) (off:Nat)
 |fh (f:FuncId) (a b:List SV)
 |mp (t:Nat)
inductive SB where
 |arr (r:List PT) (l:List (RT r))
 |box (cs:List SV)
 |set (l:List (List Int))
 |bC (p:PT) (l:List (RT [.i .i64,p]))
 |dead
abbrev SE:=List (Nat×SV)
structure pq where
 env:SE
 aD:List SB
 fz:List Nat
 kn:Nat
structure Rows where
 r:List PT
 l:List (RT r)
def PT.same:PT->PT->Bool
 | .i k,.i l=>gn k l
 | .b,.b=>aj8
 |_,_=>aj9
def Bi:List PT->List PT->Bool
 | [],[]=>aj8
 |p::r,q::s=>p.same q&&Bi r s
 |_,_=>aj9
theorem PT.Oj: ∀{p q:PT},p.same q=aj8->p=q
 | .i k,.i l,h=>by rw [fX.1 h]
 | .b,.b,_=>rfl
 | .i _,.b,h=>by cases h
 | .b,.i _,h=>by cases h
theorem vG: ∀{r s:List PT},Bi r s=aj8->r=s
 | [],[],_=>rfl
 |p::r,q::s,h=>by simp only [Bi,rc] at h;rw [PT.Oj h.1,vG h.2]
 | [],_::_,h=>by cases h
 |_::_,[],h=>by cases h
def sV (r q:List PT) (l:List (RT r)):Option (List (RT q)):=if h:Bi r q=aj8 then aj6 (vG h▸l) else aj7
def PT.pv:(p:PT)->p.T->PV
 | .i k,n=> .int k n
 | .b,x=> .bool x
def RT.pv:(r:List PT)->RT r->List PV
 | [],_=>[]
 | [p],a=>[p.pv a]
 |p::q::r,a=>p.pv a.1::RT.pv (q::r) a.2
def PT.sv:(p:PT)->p.T->SV
 | .i k,n=> .int k n
 | .b,x=> .bool x
def RT.sv:(r:List PT)->RT r->List SV
 | [],_=>[]
 | [p],a=>[p.sv a]
 |p::q::r,a=>p.sv a.1::RT.sv (q::r) a.2
def PT.of:(p:PT)->SV->Option p.T
 | .i k,.int l n=>bif gn l k then aj6 n else aj7
 | .b,.bool x=>aj6 x
 |_,_=>aj7
def RT.of:(r:List PT)->List SV->Option (RT r)
 | [],[]=>aj6 ()
 | [p],[v]=>p.of v
 |p::q::r,v::vs=>match p.of v,RT.of (q::r) vs with
  |some a,aj6 b=>aj6 (a,b)
  |_,_=>aj7
 |_,_=>aj7
def PT.zero:(p:PT)->p.T
 | .i _=>(0:Int)
 | .b=>aj9
def RT.zero:(r:List PT)->RT r
 | []=>()
 | [p]=>p.zero
 |p::q::r=>(p.zero,RT.zero (q::r))
def aW:PV->Option PT
 | .int k n=>match n with
  | .ofNat 0=>aj6 (.i k)
  |_=>aj7
 | .bool b=>match b with
  |false=>aj6 .b
  |true=>aj7
 |_=>aj7
def E2:List PV->Option (List PT)
 | []=>aj6 []
 |v::vs=>match aW v,E2 vs with
  |some p,aj6 r=>aj6 (p::r)
  |_,_=>aj7
def nth {α:Type}:List α->Nat->Option α
 | [],_=>aj7
 |x::_,0=>aj6 x
 |_::r,n+1=>nth r n
theorem cp {α:Type}: ∀(l:List α) (n:Nat),nth l n=l[n]?
 | [],n=>by simp [nth]
 |x::r,0=>by simp [nth]
 |x::r,n+1=>by simp [nth,cp r n]
def Di (t:Nat):SE->SV
 | []=> .undef
 |(s,v)::r=>bif v4 s t then v else Di t r
def Ao (t:Nat) (v:SV):SE->SE
 | []=>[]
 |(s,x)::r=>bif v4 s t then (s,v)::r else (s,x)::Ao t v r
mutual
def Vq:PV->SV
 | .undef=> .undef
 | .ke=> .ke
 | .eo=> .eo
 | .int k n=> .int k n
 | .bool b=> .bool b
 | .str s=> .str s
 | .agg cs=> .agg (Bj cs)
 | .b8 cs=> .b8 (Bj cs)
 | .sl e c rows=>match rows with
  | []=> .nil e c
  |_=> .iz
 | .fh f a b=> .fh f (Bj a) (Bj b)
 |_=> .iz
def Bj:List PV->List SV
 | []=>[]
 |x::xs=>Vq x::Bj xs
end
def bX (e:SE):fU->SV
 | .t n=>Di n e
 | .c v=>Vq v
def kv (e:SE):List fU->List SV
 | []=>[]
 |x::xs=>bX e x::kv e xs
def SV.qt:SV->Bool
 | .iz| .undef| .ke| .agg _| .b8 _=>aj9
 |_=>aj8
def yk:List SV->Bool
 | []=>aj8
 |x::xs=>x.qt&&yk xs
def SV.cells:SV->List SV
 | .agg cs=>cs
 |v=>[v]
def SV.stored (v:SV):Option (List SV):=bif yk v.cells then aj6 v.cells else aj7
def zR (agg:Option Nat) (off:Nat) (cs:List SV):Option SV:=
 match agg with
 |some s=>bif ab1 (off+s) (aj3 cs) then aj6 (.agg ((cs.drop off).take s)) else aj7
 |none=>nth cs off
def pX (off:Nat) (new old:List SV):List SV:=old.take off++new++old.drop (off+aj3 new)
def zS (s:List SB):SV->Option Rows
 | .sl r l=>aj6 ⟨r,l⟩
 | .own t _=>match nth s t with
  |some (.arr r l)=>aj6 ⟨r,l⟩
  |_=>aj7
 | .pre t len _ _=>match nth s t with
  |some (.arr r l)=>aj6 ⟨r,l.take len⟩
  |_=>aj7
 | .part t off len _ _=>match nth s t with
  |some (.arr r l)=>aj6 ⟨r,(l.drop off).take len⟩
  |_=>aj7
 |_=>aj7
def wB:SV->List Nat
 | .own t _=>[t]
 | .pre t _ _ _=>[t]
 | .part t _ _ _ _=>[t]
 |_=>[]
structure gz where
 v:SV
 news:List SB:=[]
 wr:List (Nat×SB):=[]
 rd:List Nat:=[]
 fr:List Nat:=[]
def gT (R:Type):= ∀ρ:Type,(R->ρ)->Option ρ
section
variable {R : Type}
def Dj (b:R):gT R:=fun _ w=>aj6 (w b)
def aN:gT R:=fun _ _=>aj7
def lP {α:Type} (x:Option α) (f:α->gT R):gT R:=fun ρ w=>ab' x fun a=>f a ρ w
def gu (c:Bool) (a b:gT R):gT R:=fun ρ w=>aca c (a ρ w) (b ρ w)
def Vr (v:SV) (k:SV->gT R):gT R:=
 match v with
 | .iz=>k .iz
 | .undef=>k .undef
 | .ke=>k .ke
 | .eo=>k .eo
 | .int a b=>k (.int a b)
 | .bool a=>k (.bool a)
 | .str a=>k (.str a)
 | .agg a=>k (.agg a)
 | .b8 a=>k (.b8 a)
 | .sl a b=>k (.sl a b)
 | .nil a b=>k (.nil a b)
 | .own a b=>k (.own a b)
 | .pre a b c d=>k (.pre a b c d)
 | .part a b c d x=>k (.part a b c d x)
 | .pa a b c d e=>k (.pa a b c d e)
 | .pb a b c=>k (.pb a b c)
 | .bp a b c=>k (.bp a b c)
 | .bM a b=>k (.bM a b)
 | .fh a b c=>k (.fh a b c)
 | .mp a=>k (.mp a)
theorem II (v:SV) (k:SV->gT R):Vr v k=k v:=by cases v<;>rfl
def MF (op:BinOp) (k:IntKind) (a b:Int) (c:SV->gT R):gT R:=
 match op with
 | .add=>c (.int k (ae k (a+b)))
 | .sub=>c (.int k (ae k (a-b)))
 | .mul=>c (.int k (ae k (a*b)))
 | .quo=>gu (b==0) aN (c (.int k (ae k (Int.tdiv a b))))
 | .rem=>gu (b==0) aN (c (.int k (Int.tmod a b)))
 | .and=>c (.int k (DO k a b))
 | .or=>c (.int k (bOr k a b))
 | .xor=>c (.int k (apu k a b))
 | .andNot=>c (.int k (Vp k a b))
 | .eql=>c (.bool (a==b))
 | .neq=>c (.bool (a !=b))
 | .lss=>c (.bool (ajf (a<b)))
 | .leq=>c (.bool (ajf (a<=b)))
 | .gtr=>c (.bool (ajf (b<a)))
 | .geq=>c (.bool (ajf (b<=a)))
 | .shl| .shr=>aN
def eqS:List SV->List SV->Option Bool
 | [],[]=>aj6 aj8
 |x::xs,y::ys=>match x,y with
  | .int k a,.int l b=>bif gn k l then (match xs with
   | []=>(match ys with| []=>aj6 (a==b)|_=>aj7)
   |_::_=>match eqS xs ys with
    |some r=>aj6 (a==b&&r)
    |none=>aj7) else aj7
  |_,_=>aj7
 |_,_=>aj7
def wC:List (Nat×Nat×SV)->List SV->Option (List SV)
 | [],cs=>aj6 cs
 |(off,sz,v)::r,cs=>match v.stored with
  |some w=>bif v4 (aj3 w) sz&&ab1 (off+sz) (aj3 cs) then wC r (pX off w cs) else aj7
  |none=>aj7
def yl (e:SE):List (Nat×Nat×fU)->List (Nat×Nat×SV)
 | []=>[]
 |p::r=>(p.1,p.2.1,bX e p.2.2)::yl e r
def Ok (r:List PT) (e:SE) (n:Nat):List (Nat×fU)->Option (List (Nat×RT r))
 | []=>aj6 []
 |p::ps=>match RT.of r (bX e p.2).cells,Ok r e n ps with
  |some a,aj6 l=>bif abZ p.1 n then aj6 ((p.1,a)::l) else aj7
  |_,_=>aj7
def rowAt {α:Type} (i:Nat):α->List (Nat×α)->α
 |z,[]=>z
 |z,(j,a)::r=>rowAt i (bif v4 j i then a else z) r
def IJ {α:Type} (f:Nat->α):Nat->Nat->List α
 |_,0=>[]
 |i,n+1=>f i::IJ f (i+1) n
def Cx (e:SE) (d:Int):Option fU->Option Int
 |none=>aj6 d
 |some x=>match bX e x with
  | .int _ n=>aj6 n
  |_=>aj7
def mmS (isMax:Bool) (k:IntKind):Int->List SV->Option SV
 |a,[]=>aj6 (.int k a)
 |a,x::r=>match x with
  | .int l b=>bif gn k l then mmS isMax k (bif isMax then (if b>a then b else a) else (if b<a then b else a)) r else aj7
  |_=>aj7
def Ol:List SV->Option (List Int)
 | []=>aj6 []
 |x::xs=>match x,Ol xs with
  | .int .i64 n,aj6 l=>aj6 (n::l)
  |_,_=>aj7
def Vs (n:Option Nat) (v:SV):Option (List Int):=
 match n,v with
 |none,.int .i64 a=>aj6 [a]
 |some n,.agg cs=>bif v4 (aj3 cs) n&&!Nat.beq n 1 then Ol cs else aj7
 |_,_=>aj7
def Kx (n:Nat) (i:Int) (j:Nat) (f:Nat->gT R):gT R:=
 match n with
 |0=>aN
 |n+1=>gu (i==ai1 j) (f j) (Kx n i (j+1) f)
def lY {α:Type} (x:Option α) (k:α->gT R):gT R:=
 match x with
 |some a=>k a
 |none=>aN
def ofV (k:gz->gT R) (v:SV):gT R:=k {v}
def acb (s:List SB) (esz:Nat) (x:SV) (i:Int) (k:gz->gT R):gT R:=
 match x with
 | .sl r l=>bif v4 (aj3 r) esz then lP (aE l i) fun a=>k {v:= .bM (RT.sv r a) 0} else aN
 | .own t _=>match nth s t with
  |some (.arr r l)=>bif v4 (aj3 r) esz then lP (aE l i) fun a=>k {v:= .pa t r i a 0} else aN
  |_=>aN
 | .pre t len _ _=>match nth s t with
  |some (.arr r l)=>bif v4 (aj3 r) esz then lP (aE (l.take len) i) fun a=>k {v:= .pa t r i a 0} else aN
  |_=>aN
 | .part t off len _ _=>match nth s t with
  |some (.arr r l)=>bif v4 (aj3 r) esz then lP (aE ((l.drop off).take len) i) fun a=>k {v:= .pa t r (.ofNat (off+i.toNat)) a 0} else aN
  |_=>aN
 |_=>aN
def acd (s:List SB) (agg:Option Nat) (p:SV) (k:gz->gT R):gT R:=
 match p with
 | .bp t _ off=>match nth s t with
  |some (.box cs)=>lY (zR agg off cs) fun v=>k {v,rd:=[t]}
  |_=>aN
 | .pa t r _ a off=>match nth s t with
  |some (.arr _ _)=>lY (zR agg off (RT.sv r a)) fun v=>k {v,rd:=[t]}
  |_=>aN
 | .pb t i off=>match nth s t with
  |some (.arr r l)=>lP (aE l i) fun a=>lY (zR agg off (RT.sv r a)) fun v=>k {v,rd:=[t]}
  |_=>aN
 | .bM cs off=>lY (zR agg off cs) fun v=>k {v}
 |_=>aN
def Se (s:List SB) (z:List Nat) (sz:Nat) (p v:SV) (k:gz->gT R):gT R:=
 match p with
 | .bp t _ off=>match nth s t with
  |some (.box cs)=>lY v.stored fun w=>bif v4 (aj3 w) sz&&ab1 (off+sz) (aj3 cs)&&!has z t then k {v:= .undef,wr:=[(t,.box (pX off w cs))]} else aN
  |_=>aN
 | .pa t r i a off=>match nth s t with
  |some (.arr q l)=>bif v4 (aj3 v.cells) sz&&ab1 (off+sz) (aj3 r)&&!has z t then
   lY (RT.of q (pX off v.cells (RT.sv r a))) fun b=>k {v:= .undef,wr:=[(t,.arr q (bz l i b))]} else aN
  |_=>aN
 | .pb t i off=>match nth s t with
  |some (.arr q l)=>bif v4 (aj3 v.cells) sz&&ab1 (off+sz) (aj3 q)&&!has z t then
   (bif v4 sz (aj3 q) then lY (RT.of q v.cells) fun b=>k {v:= .undef,wr:=[(t,.arr q (bz l i b))]}
   else lP (aE l i) fun a=>lY (RT.of q (pX off v.cells (RT.sv q a))) fun b=>k {v:= .undef,wr:=[(t,.arr q (bz l i b))]}) else aN
  |_=>aN
 |_=>aN
def MG (e:SE) (t off len cap:Nat) (ex:Bool) (lo hi mx:Option fU) (k:gz->gT R):gT R:=
 lY (Cx e 0 lo) fun a=>lY (Cx e (.ofNat len) hi) fun b=>match mx with
  |none=>gu (ajf (0<=a)&&ajf (a<=b)&&ajf (b<= .ofNat cap)) (k {v:= .part t (off+a.toNat) (b.toNat-a.toNat) (cap-a.toNat) ex}) aN
  |some m=>match bX e m with
   | .int _ c=>gu (ajf (0<=a)&&ajf (a<=b)&&ajf (b<=c)&&ajf (c<= .ofNat cap)) (k {v:= .part t (off+a.toNat) (b.toNat-a.toNat) (c.toNat-a.toNat) aj8}) aN
   |_=>aN
def akR (e:SE) (s:List SB) (esz:Nat) (x:SV) (lo hi mx:Option fU) (k:gz->gT R):gT R:=
 match x with
 | .sl r l=>match mx with
  |none=>bif v4 (aj3 r) esz then lY (Cx e 0 lo) fun a=>lY (Cx e (ai1 (aj3 l)) hi) fun b=>lP (hU l a b) fun m=>k {v:= .sl r m} else aN
  |some _=>aN
 | .own t ex=>match nth s t with
  |some (.arr r l)=>bif v4 (aj3 r) esz then (match lo,hi,mx with
   |none,aj7,aj7=>k {v:= .own t ex}
   |none,aj6 h,aj7=>match bX e h with
    | .int _ b=>lP (hU l 0 b) fun _=>k {v:= .pre t b.toNat (aj3 l) ex}
    |_=>aN
   |lo,hi,mx=>MG e t 0 (aj3 l) (aj3 l) ex lo hi mx k) else aN
  |_=>aN
 | .pre t len cap ex=>match nth s t with
  |some (.arr r _)=>bif v4 (aj3 r) esz then (match lo,hi,mx with
   |none,aj7,aj7=>gu (ab1 len cap) (k {v:= .pre t len cap ex}) aN
   |none,aj6 h,aj7=>match bX e h with
    | .int _ b=>gu (ajf (0<=b)&&ajf (b<= .ofNat cap)) (k {v:= .pre t b.toNat cap ex}) aN
    |_=>aN
   |lo,hi,mx=>MG e t 0 len cap ex lo hi mx k) else aN
  |_=>aN
 | .part t off len cap ex=>match nth s t with
  |some (.arr r _)=>bif v4 (aj3 r) esz then MG e t off len cap ex lo hi mx k else aN
  |_=>aN
 |_=>aN
def ig {α:Type} (l:List α) (n:Nat) (m:List α):List α:=l.take n++m++l.drop (n+aj3 m)
def SV.adl:SV->Bool
 | .part .. =>aj8
 |_=>aj9
def Om (s:List SB) (z:List Nat) (esz:Nat) (x y:SV) (k:gz->gT R):gT R:=
 match zS s y with
 |none=>aN
 |some ⟨q,m⟩=>bif v4 (aj3 q) esz then (match x with
  | .nil _ c=>bif c then lP (bN m) fun m'=>k {v:= .own (aj3 s) aj9,news:=[.arr q m'],rd:=wB y} else aN
  | .own t ex=>match nth s t with
   |some (.arr r l)=>match sV q r m with
    |none=>aN
    |some m=>match ex with
     |true=>gu l.isEmpty (lP (bN m) fun m'=>k {v:= .own (aj3 s) aj9,news:=[.arr r m'],rd:=t::wB y})
      (gu m.isEmpty (k {v:= .own t aj8,rd:=wB y}) (lP (bI l m) fun l'=>k {v:= .own (aj3 s) aj9,news:=[.arr r l'],rd:=t::wB y}))
     |false=>gu m.isEmpty (k {v:= .own t aj9,rd:=wB y})
      (bif has z t then aN else lP (bI l m) fun l'=>k {v:= .own (aj3 s) aj9,news:=[.arr r l'],wr:=[(t,.dead)],rd:=wB y})
   |_=>aN
  | .pre t len cap ex=>match nth s t with
   |some (.arr r l)=>match sV q r m with
    |none=>aN
    |some m=>bif ex then aN else gu m.isEmpty (k {v:= .pre t len cap aj9,rd:=wB y})
     (gu (ab1 (len+aj3 m) cap) (gu (ab1 (len+aj3 m) (aj3 l)&&!has z t) (k {v:= .pre t (len+aj3 m) cap aj9,wr:=[(t,.arr r (ig l len m))],rd:=wB y}) aN)
      (bif has z t||y.adl then aN else lP (bI (l.take len) m) fun l'=>gu (ab1 len (aj3 l)) (k {v:= .own (aj3 s) aj9,news:=[.arr r l'],wr:=[(t,.dead)],rd:=wB y}) aN))
   |_=>aN
  |_=>aN) else aN
def Sf (s:List SB) (z:List Nat) (esz:Nat) (zero:Row) (x:SV) (k:gz->gT R):gT R:=
 match x with
 | .part t off len _ _=>match nth s t with
  |some (.arr r l)=>match E2 zero with
   |some q=>bif Bi q r&&v4 (aj3 r) esz then gu (v4 len 0) (k {v:= .undef})
    (gu (ab1 (off+len) (aj3 l)&&!has z t) (k {v:= .undef,wr:=[(t,.arr r (ig l off (abV len (RT.zero r))))]}) aN) else aN
   |none=>aN
  |_=>aN
 |_=>aN
def On (n:Option Nat) (zero:PV) (ok:Bool) (t:Nat) (l:List (List Int)) (q:SV) (k:gz->gT R):gT R:=
 match zero,ok with
 | .bool aj9,aj9=>lY (Vs n q) fun a=>lP (Kv l a) fun b=>k {v:= .bool b,rd:=[t]}
 |_,_=>aN
def Sg (n:Option Nat) (t:Nat) (l:List (List Int)) (q x:SV) (k:gz->gT R):gT R:=
 match x with
 | .bool aj8=>lY (Vs n q) fun a=>lP (Kw l a) fun m=>k {v:= .undef,wr:=[(t,.set m)]}
 |_=>aN
def PT.get:(p:PT)->p.T->List (RT [.i .i64,p])->Int->p.T
 | .i _,z,l,k=>Dg (α:=Int) z l k
 | .b,z,l,k=>Dg (α:=Bool) z l k
def PT.put:(p:PT)->List (RT [.i .i64,p])->Int->p.T->List (RT [.i .i64,p])
 | .i _,l,k,a=>Dh (α:=Int) l k a
 | .b,l,k,a=>Dh (α:=Bool) l k a
def Oo (n:Option Nat) (zero:PV) (ok:Bool) (t:Nat) (p:PT) (l:List (RT [.i .i64,p])) (q:SV) (k:gz->gT R):gT R:=
 match n with
 |none=>match ok with
  |false=>match q with
   | .int .i64 a=>lY (p.of (Vq zero)) fun z=>k {v:=p.sv (p.get z l a),rd:=[t]}
   |_=>aN
  |true=>aN
 |some _=>aN
def Sh (n:Option Nat) (t:Nat) (p:PT) (l:List (RT [.i .i64,p])) (q x:SV) (k:gz->gT R):gT R:=
 match n with
 |none=>match q with
  | .int .i64 a=>lY (p.of x) fun v=>k {v:= .undef,wr:=[(t,.bC p (p.put l a v))]}
  |_=>aN
 |some _=>aN
def E3 (s:List SB) (z:List Nat) (t:Nat) (r:List PT) (l:List (RT r)) (off len:Nat) (y:SV) (k:gz->gT R):gT R:=
 match zS s y with
 |none=>aN
 |some ⟨q,m⟩=>match sV q r m with
  |none=>aN
  |some m=>gu (m.take len).isEmpty (k {v:= .int .i64 0,rd:=wB y})
   (gu (ab1 (off+(m.take len).length) (aj3 l)&&!has z t) (k {v:= .int .i64 (.ofNat (m.take len).length),wr:=[(t,.arr r (ig l off (m.take len)))],rd:=wB y}) aN)
def ace (s:List SB) (z:List Nat) (esz:Nat) (x y:SV) (k:gz->gT R):gT R:=
 match x with
 | .own t _=>match nth s t with
  |some (.arr r l)=>bif v4 (aj3 r) esz then E3 s z t r l 0 (aj3 l) y k else aN
  |_=>aN
 | .pre t len _ _=>match nth s t with
  |some (.arr r l)=>bif v4 (aj3 r) esz then E3 s z t r l 0 len y k else aN
  |_=>aN
 | .part t off len _ _=>match nth s t with
  |some (.arr r l)=>bif v4 (aj3 r) esz then E3 s z t r l off len y k else aN
  |_=>aN
 |_=>aN
def mP (e:SE) (s:List SB) (z:List Nat) (op:lJ) (k:gz->gT R):gT R:=
 match op with
 | .Q4 x=>k {v:=bX e x}
 | .pick c a b=>match bX e c with
  | .bool c=>gu c (k {v:=bX e a}) (k {v:=bX e b})
  |_=>aN
 | .bin op x y=>match bX e x with
  | .int ka a=>match bX e y with
   | .int kb b=>match op with
    | .shl=>gu (ajf (b<0)) aN (k {v:= .int ka (apv ka a b)})
    | .shr=>gu (ajf (b<0)) aN (k {v:= .int ka (iy ka a b)})
    |op=>bif gn ka kb then MF op ka a b (ofV k) else aN
   |_=>aN
  |_=>aN
 | .JF neg x y=>match bX e x with
  | .bool a=>match bX e y with
   | .bool b=>k {v:= .bool (bif neg then !(a==b) else a==b)}
   |_=>aN
  |_=>aN
 | .eqc n neg x y=>match bX e x with
  | .agg xs=>match bX e y with
   | .agg ys=>bif v4 (aj3 xs) n&&v4 (aj3 ys) n then lY (eqS xs ys) fun b=>k {v:= .bool (bif neg then !b else b)} else aN
   |_=>aN
  |_=>aN
 | .un op x=>match op with
  | .neg=>match bX e x with
   | .int a n=>k {v:= .int a (ae a (0-n))}
   |_=>aN
  | .not=>match bX e x with
   | .bool b=>k {v:= .bool !b}
   |_=>aN
  |_=>aN
 | .conv a x=>match bX e x with
  | .int _ n=>k {v:= .int a (ae a n)}
  |_=>aN
 | .len x=>match bX e x with
  | .nil _ _=>k {v:= .int .i64 0}
  | .pre _ len _ _=>k {v:= .int .i64 (.ofNat len)}
  | .part _ _ len _ _=>k {v:= .int .i64 (.ofNat len)}
  |v=>lY (zS s v) fun c=>k {v:= .int .i64 (.ofNat (aj3 c.l))}
 | .L8 n=>k {v:= .int .i64 (.ofNat n)}
 | .box x=>lY (bX e x).stored fun cs=>k {v:= .bp (aj3 s) (aj3 cs) 0,news:=[.box cs]}
 | .alloc cells=>k {v:= .bp (aj3 s) (aj3 cells) 0,news:=[.box (Bj cells)]}
 | .build zero parts=>lY (wC (yl e parts) (Bj zero)) fun cs=>k {v:= .agg cs}
 | .AZ esz n zero parts=>lY (E2 zero) fun r=>bif v4 (aj3 r) esz then lY (Ok r e n parts) fun ps=>
  k {v:= .own (aj3 s) aj8,news:=[.arr r (IJ (fun i=>rowAt i (RT.zero r) ps) 0 n)]} else aN
 | .C7 x y=>match bX e x with
  | .sl r l=>match bX e y with
   | .sl q m=>k {v:= .part (aj3 s) 0 2 2 aj8,news:=[.box [.sl r l,.sl q m]]}
   |_=>aN
  |_=>aN
 | .load agg p=>acd s agg (bX e p) k
 | .store sz p v=>Se s z sz (bX e p) (bX e v) k
 | .JG x=>match bX e x with
  | .pa t r i a o=>k {v:= .pa t r i a o}
  | .pb t i o=>k {v:= .pb t i o}
  | .bp t n o=>k {v:= .bp t n o}
  | .bM c o=>k {v:= .bM c o}
  | .fh f a b=>k {v:= .fh f a b}
  |_=>aN
 | .JH off p=>match bX e p with
  | .pa t r i a o=>k {v:= .pa t r i a (o+off)}
  | .pb t i o=>k {v:= .pb t i (o+off)}
  | .bp t n o=>k {v:= .bp t n (o+off)}
  | .bM c o=>k {v:= .bM c (o+off)}
  |_=>aN
 | .iE agg off x=>match bX e x with
  | .agg cs=>lY (zR agg off cs) (ofV k)
  |_=>aN
 | .JI esz x i=>match bX e i with
  | .int _ n=>acb s esz (bX e x) n k
  |_=>aN
 | .C8 n esz p i=>match bX e i with
  | .int _ j=>match bX e p with
   | .bp t m o=>Kx n j 0 fun j=>k {v:= .bp t m (o+j*esz)}
   | .bM c o=>Kx n j 0 fun j=>k {v:= .bM c (o+j*esz)}
   |_=>aN
  |_=>aN
 | .idx n esz agg x i=>match bX e i with
  | .int _ j=>match bX e x with
   | .agg cs=>Kx n j 0 fun j=>lY (zR agg (j*esz) cs) (ofV k)
   |_=>aN
  |_=>aN
 | .JJ x i=>match bX e i with
  | .int _ j=>match bX e x with
   | .str t=>lP (rL t j) fun b=>k {v:= .int .u8 b}
   |_=>aN
  |_=>aN
 | .Pv esz x lo hi mx=>akR e s esz (bX e x) lo hi mx k
 | .clear esz zero x=>Sf s z esz zero (bX e x) k
 | .copy esz x y=>ace s z esz (bX e x) (bX e y) k
 | .mks esz zero l c=>match bX e l with
  | .int _ n=>match bX e c with
   | .int _ m=>gu (n==m) (lY (E2 zero) fun r=>bif v4 (aj3 r) esz then lP (yj n (RT.zero r)) fun x=>k {v:= .own (aj3 s) aj8,news:=[.arr r x]} else aN) aN
   |_=>aN
  |_=>aN
 | .mkf fn a b=>k {v:= .fh fn (kv e a) (kv e b)}
 | .mkm z=>match z with
  |none=>k {v:= .mp (aj3 s),news:=[.set []]}
  |some z=>lY (aW z) fun p=>k {v:= .mp (aj3 s),news:=[.bC p []]}
 | .lookup n zero ok m q=>match bX e m with
  | .mp t=>match nth s t with
   |some (.set l)=>On n zero ok t l (bX e q) k
   |some (.bC p l)=>Oo n zero ok t p l (bX e q) k
   |_=>aN
  |_=>aN
 | .Ib n m q x=>match bX e m with
  | .mp t=>match nth s t with
   |some (.set l)=>bif has z t then aN else Sg n t l (bX e q) (bX e x) k
   |some (.bC p l)=>bif has z t then aN else Sh n t p l (bX e q) (bX e x) k
   |_=>aN
  |_=>aN
 | .ext i x=>match bX e x with
  | .b8 vs=>lY (nth vs i) (ofV k)
  |_=>aN
 | .append esz x y=>Om s z esz (bX e x) (bX e y) k
 | .mm isMax x xs=>match bX e x with
  | .int a n=>lY (mmS isMax a n (kv e xs)) (ofV k)
  |_=>aN
 |_=>aN
end
mutual
def Hl (s:List SB) (bx:Nat->Option (List SV)):SV->Option SV
 | .int k n=>aj6 (.int k n)
 | .bool b=>aj6 (.bool b)
 | .str x=>aj6 (.str x)
 | .eo=>aj6 .eo
 | .agg cs=>match sW s bx cs with|some l=>aj6 (.agg l)|none=>aj7
 | .b8 cs=>match sW s bx cs with|some l=>aj6 (.b8 l)|none=>aj7
 | .sl r l=>aj6 (.sl r l)
 | .nil e _=>aj6 (.nil e aj9)
 | .own t _=>match nth s t with
  |some (.arr r l)=>aj6 (.sl r l)
  |_=>aj7
 | .pre t len _ _=>match nth s t with
  |some (.arr r l)=>aj6 (.sl r (l.take len))
  |_=>aj7
 | .part t off len _ _=>match nth s t with
  |some (.arr r l)=>aj6 (.sl r ((l.drop off).take len))
  |_=>aj7
 | .pa t r _ a off=>match nth s t with
  |some (.arr _ _)=>aj6 (.bM (RT.sv r a) off)
  |_=>aj7
 | .bp t _ off=>match nth s t with
  |some (.box _)=>match bx t with|some l=>aj6 (.bM l off)|none=>aj7
  |_=>aj7
 | .bM cs off=>match sW s bx cs with|some l=>aj6 (.bM l off)|none=>aj7
 | .fh f a b=>match sW s bx a,sW s bx b with
  |some x,aj6 y=>aj6 (.fh f x y)
  |_,_=>aj7
 |_=>aj7
def sW (s:List SB) (bx:Nat->Option (List SV)):List SV->Option (List SV)
 | []=>aj6 []
 |x::xs=>match Hl s bx x,sW s bx xs with
  |some y,aj6 ys=>aj6 (y::ys)
  |_,_=>aj7
end
def MH (s:List SB) (bx:Nat->Option (List SV)):List SV->Bool
 | []=>aj8
 |x::xs=>match x with
  | .mp _=>MH s bx xs
  |x=>match Hl s bx x with
   |some _=>MH s bx xs
   |none=>aj9
def lh (s:List SB):Nat->Nat->Option (List SV)
 |0,_=>aj7
 |n+1,t=>match nth s t with
  |some (.box cs)=>sW s (lh s n) cs
  |_=>aj7
mutual
def MI (bx:Nat->List Nat):SV->List Nat
 | .agg cs=>rY bx cs
 | .b8 cs=>rY bx cs
 | .own t _=>[t]
 | .pre t _ _ _=>[t]
 | .part t _ _ _ _=>[t]
 | .pa t _ _ _ _=>t::bx t
 | .pb t _ _=>t::bx t
 | .bp t _ _=>t::bx t
 | .bM cs _=>rY bx cs
 | .mp t=>[t]
 | .fh _ a b=>rY bx a++rY bx b
 |_=>[]
def rY (bx:Nat->List Nat):List SV->List Nat
 | []=>[]
 |x::xs=>MI bx x++rY bx xs
end
def xN (s:List SB):Nat->Nat->List Nat
 |0,_=>[]
 |n+1,t=>match nth s t with
  |some (.box cs)=>rY (xN s n) cs
  |_=>[]
mutual
def SV.sure:SV->Bool
 | .iz=>aj9
 | .agg cs=>mO cs
 | .b8 cs=>mO cs
 | .bM cs _=>mO cs
 | .fh _ a b=>mO a&&mO b
 |_=>aj8
def mO:List SV->Bool
 | []=>aj8
 |x::xs=>x.sure&&mO xs
end
mutual
def Ap:SV->Bool
 | .int _ _| .bool _| .str _=>aj8
 | .agg cs=>rZ cs
 | .b8 cs=>rZ cs
 |_=>aj9
def rZ:List SV->Bool
 | []=>aj8
 |x::xs=>Ap x&&rZ xs
end
mutual
def Si (s:List SB):SV->Option SV
 | .int k n=>aj6 (.int k n)
 | .bool b=>aj6 (.bool b)
 | .str x=>aj6 (.str x)
 | .agg cs=>match MJ s cs with|some l=>aj6 (.agg l)|none=>aj7
 | .b8 cs=>match MJ s cs with|some l=>aj6 (.b8 l)|none=>aj7
 | .sl r l=>aj6 (.sl r l)
 | .nil e _=>aj6 (.nil e aj9)
 | .own t _=>match nth s t with
  |some (.arr r l)=>aj6 (.sl r l)
  |_=>aj7
 | .pre t len _ _=>match nth s t with
  |some (.arr r l)=>aj6 (.sl r (l.take len))
  |_=>aj7
 | .part t off len _ _=>match nth s t with
  |some (.arr r l)=>aj6 (.sl r ((l.drop off).take len))
  |_=>aj7
 |_=>aj7
def MJ (s:List SB):List SV->Option (List SV)
 | []=>aj6 []
 |x::xs=>match Si s x,MJ s xs with
  |some y,aj6 ys=>aj6 (y::ys)
  |_,_=>aj7
end
mutual
def Qa (s:List SB) (z:List Nat):List Nat->SV->Option (SV×List Nat)
 |seen,.int k n=>aj6 (.int k n,seen)
 |seen,.bool b=>aj6 (.bool b,seen)
 |seen,.agg cs=>match Ky s z seen cs with|some p=>aj6 (.agg p.1,p.2)|none=>aj7
 |seen,.b8 cs=>match Ky s z seen cs with|some p=>aj6 (.b8 p.1,p.2)|none=>aj7
 |seen,.nil e c=>bif c then aj6 (.nil e aj9,seen) else aj7
 |seen,.own t _=>match nth s t with
  |some (.arr r l)=>bif has seen t||has z t then aj7 else aj6 (.sl r l,t::seen)
  |_=>aj7
 |_,_=>aj7
def Ky (s:List SB) (z:List Nat):List Nat->List SV->Option (List SV×List Nat)
 |seen,[]=>aj6 ([],seen)
 |seen,x::xs=>match Qa s z seen x with
  |some p=>match Ky s z p.2 xs with
   |some q=>aj6 (p.1::q.1,q.2)
   |none=>aj7
  |none=>aj7
end
mutual
def ym:Nat->SV->SV×List SB
 |nx,.sl r l=>(.own nx aj9,[.arr r l])
 |nx,.nil e _=>(.own nx aj9,[.arr (abV e (.i .i64)) []])
 |nx,.agg cs=>(.agg (uP nx cs).1,(uP nx cs).2)
 |nx,.b8 cs=>(.b8 (uP nx cs).1,(uP nx cs).2)
 |_,v=>(v,[])
def uP:Nat->List SV->List SV×List SB
 |_,[]=>([],[])
 |nx,x::xs=>((ym nx x).1::(uP (nx+(ym nx x).2.length) xs).1,(ym nx x).2++(uP (nx+(ym nx x).2.length) xs).2)
end
def E4:SB->List Nat
 | .box cs=>rY tz cs
 |_=>[]
def ze:SB->Bool
 | .box cs=>mO cs
 |_=>aj8
def Cy (s:List SB):Nat->List Nat->List Nat->Option (List Nat)
 |_,[],seen=>aj6 seen
 |0,_::_,_=>aj7
 |n+1,t::ts,seen=>
  bif has seen t then Cy s n ts seen
  else match nth s t with
   |some b=>bif ze b then Cy s n (E4 b++ts) (seen++[t]) else aj7
   |none=>aj7
mutual
def qD (m:List Nat):SV->Option SV
 | .agg cs=>match tU m cs with|some l=>aj6 (.agg l)|none=>aj7
 | .b8 cs=>match tU m cs with|some l=>aj6 (.b8 l)|none=>aj7
 | .own t ex=>match qv t m with|some u=>aj6 (.own u ex)|none=>aj7
 | .pre t len cap ex=>match qv t m with|some u=>aj6 (.pre u len cap ex)|none=>aj7
 | .part t off len cap ex=>match qv t m with|some u=>aj6 (.part u off len cap ex)|none=>aj7
 | .pa t _ i _ off=>match qv t m with|some u=>aj6 (.pb u i off)|none=>aj7
 | .pb t i off=>match qv t m with|some u=>aj6 (.pb u i off)|none=>aj7
 | .bp t n off=>match qv t m with|some u=>aj6 (.bp u n off)|none=>aj7
 | .bM cs off=>match tU m cs with|some l=>aj6 (.bM l off)|none=>aj7
 | .mp t=>match qv t m with|some u=>aj6 (.mp u)|none=>aj7
 | .fh f a b=>match tU m a,tU m b with
  |some x,aj6 y=>aj6 (.fh f x y)
  |_,_=>aj7
 | .iz=>aj7
 |v=>aj6 v
def tU (m:List Nat):List SV->Option (List SV)
 | []=>aj6 []
 |x::xs=>match qD m x,tU m xs with
  |some y,aj6 ys=>aj6 (y::ys)
  |_,_=>aj7
end
def MK (m:List Nat):SB->Option SB
 | .box cs=>match tU m cs with|some l=>aj6 (.box l)|none=>aj7
 |b=>aj6 b
def GV (s:List SB) (m:List Nat):List Nat->Option (List SB)
 | []=>aj6 []
 |t::ts=>match nth s t with
  |some b=>match MK m b,GV s m ts with
   |some b',aj6 r=>aj6 (b'::r)
   |_,_=>aj7
  |none=>aj7
def rowOf (rk:List (Nat×List PT)) (esz:Nat):List PT:=
 match rk with
 | []=>abV esz (.i .i64)
 |(n,r)::q=>bif v4 n esz&&v4 (aj3 r) esz then r else rowOf q esz
def IK:Option Nat->SV->SV
 |some _,.own t _=> .own t aj9
 |some _,.pre t l c _=> .pre t l c aj9
 |some _,.part t o l c _=> .part t o l c aj9
 |_,v=>v
def xC (rk:List (Nat×List PT)) (e:SE) (m:List Nat):Nat->List (Nat×Option Nat)->Option (SE×List SB)
 |_,[]=>aj6 ([],[])
 |nx,(s,k)::r=>
  match k,Di s e with
  |some esz,.nil _ aj8=>match xC rk e m (nx+1) r with
   |some p=>aj6 ((s,.own nx aj9)::p.1,.arr (rowOf rk esz) []::p.2)
   |none=>aj7
  |_,v=>match qD m v,xC rk e m nx r with
   |some v',aj6 p=>aj6 ((s,IK k v')::p.1,p.2)
   |_,_=>aj7
def E5 (rk:List (Nat×List PT)) (st:pq) (t c esz:Nat):pq:=
 match nth st.aD t with
 |some (.box cs)=>match nth cs c with
  |some (.nil _ aj8)=>{st with aD:=st.aD.set t (.box (cs.set c (.own (aj3 st.aD) aj9)))++[.arr (rowOf rk esz) []]}
  |_=>st
 |_=>st
def Sj:SV->Option Nat
 | .bp t _ 0=>aj6 t
 |_=>aj7
def Vt:SV->Option Nat
 | .fh _ _ (x::_)=>Sj x
 |x=>Sj x
def mE (rk:List (Nat×List PT)):List (Nat×Option Nat)->pq->pq
 | [],st=>st
 |(s,k)::r,st=>match k with
  |some n=>bif ab1 1000 n then (match Vt (Di s st.env) with
   |some t=>mE rk r (E5 rk st t (n / 1000-1) (n%1000))
   |none=>mE rk r st) else mE rk r st
  |none=>mE rk r st
def Hm (s:List SB) (v:SV):SV:=
 match v with
 | .own t ex=>match nth s t with
  |some (.arr _ l)=> .pre t (aj3 l) (aj3 l) ex
  |_=>v
 |_=>v
def Oq (s:List SB) (c:Nat):SE->SE
 | []=>[]
 |(t,v)::r=>bif v4 t c then (t,Hm s v)::r else (t,v)::Oq s c r
def Bk:List (Nat×Option Nat)->pq->pq
 | [],st=>st
 |(t,_)::r,st=>bif ab1 1000000 t then Bk r {st with env:=Oq st.aD (t-1000000) st.env} else Bk r st
def Bl (e:SE):List (Nat×Option Nat)->Bool
 | []=>aj8
 |(s,_)::r=>(Di s e).sure&&Bl e r
def E6 (e:SE):List (Nat×Option Nat)->List Nat
 | []=>[]
 |(s,_)::r=>MI tz (Di s e)++E6 e r
def ML:List SB->Nat->List Nat
 |b::r,n+1=>E4 b++ML r n
 |_,_=>[]
def E7:List SB->Nat->Bool
 |b::r,n+1=>ze b&&E7 r n
 |_,_=>aj8
def E8 (rk:List (Nat×List PT)) (live:List (Nat×Option Nat)) (st:pq):Option pq:=
 bif Bl st.env live&&E7 st.aD st.kn then
  match Cy st.aD 4096 (ML st.aD st.kn++E6 st.env live) (vg st.kn) with
  |none=>aj7
  |some m=>match GV st.aD m m,xC rk st.env m (aj3 m) live with
   |some s1,aj6 (e1,s2)=>aj6 (Bk live (mE rk live {env:=e1,aD:=s1++s2,fz:=xV st.fz 0 m,kn:=st.kn}))
   |_,_=>aj7
 else aj7
def E9 (rk:List (Nat×List PT)) (live:List (Nat×Option Nat)) (st:pq):Option pq:=
 match E8 rk live st with
 |some s=>bif live.any fun p=>p.2.isSome then E8 rk live s else aj6 s
 |none=>aj7
inductive AK where
 |i
 |b
 |n
 |l (r:List PT)
 |s
@[reducible] def AK.T : AK -> Type
  | .i => Int
  | .b => Bool
  | .n => Nat
  | .l r => List (RT r)
  | .s => List (List Int)
@[reducible] def iG : List AK -> Type
  | [] => Unit
  | [a] => a.T
  | a :: q :: r => a.T × iG (q :: r)
inductive xQ where
 |i (n:Int)
 |b (x:Bool)
 |n (x:Nat)
 |l (r:List PT) (x:List (RT r))
 |s (x:List (List Int))
def xQ.k:xQ->AK
 | .i _=> .i
 | .b _=> .b
 | .n _=> .n
 | .l r _=> .l r
 | .s _=> .s
def AK.at:(a:AK)->a.T->xQ
 | .i,x=> .i x
 | .b,x=> .b x
 | .n,x=> .n x
 | .l r,x=> .l r x
 | .s,x=> .s x
def AK.of:(a:AK)->xQ->Option a.T
 | .i,.i x=>aj6 x
 | .b,.b x=>aj6 x
 | .n,.n x=>aj6 x
 | .l r,.l q x=>sV q r x
 | .s,.s x=>aj6 x
 |_,_=>aj7
def lQ:(ks:List AK)->iG ks->List xQ
 | [],_=>[]
 | [a],x=>[a.at x]
 |a::q::r,x=>a.at x.1::lQ (q::r) x.2
def lZ:(ks:List AK)->List xQ->Option (iG ks)
 | [],[]=>aj6 ()
 | [a],[x]=>a.of x
 |a::q::r,x::xs=>match a.of x,lZ (q::r) xs with
  |some y,aj6 ys=>aj6 (y,ys)
  |_,_=>aj7
 |_,_=>aj7
mutual
def Cz:SV->List xQ
 | .int _ n=>[.i n]
 | .bool b=>[.b b]
 | .agg cs=>CA cs
 | .b8 cs=>CA cs
 | .sl r l=>[.l r l]
 | .pre _ len cap _=>[.n len,.n cap]
 | .part _ off len cap _=>[.n off,.n len,.n cap]
 | .pb _ i _=>[.i i]
 | .bM cs _=>CA cs
 | .fh _ a b=>CA a++CA b
 |_=>[]
def CA:List SV->List xQ
 | []=>[]
 |x::xs=>Cz x++CA xs
end
def Sk:SB->List xQ
 | .arr r l=>[.l r l]
 | .box cs=>CA cs
 | .set l=>[.s l]
 | .bC p l=>[.l [.i .i64,p] l]
 | .dead=>[]
def IL:List SB->List xQ
 | []=>[]
 |b::r=>Sk b++IL r
def Qb:SE->List xQ
 | []=>[]
 |(_,v)::r=>Cz v++Qb r
def ox (st:pq):List xQ:=Qb st.env++IL st.aD
mutual
def xD:SV->SV->Bool
 | .undef,.undef=>aj8
 | .ke,.ke=>aj8
 | .eo,.eo=>aj8
 | .int k _,.int l _=>gn k l
 | .bool _,.bool _=>aj8
 | .agg a,.agg b=>yn a b
 | .b8 a,.b8 b=>yn a b
 | .sl r _,.sl q _=>Bi r q
 | .nil e c,.nil f d=>v4 e f&&c==d
 | .own t x,.own u y=>v4 t u&&x==y
 | .pre t _ _ x,.pre u _ _ y=>v4 t u&&x==y
 | .part t _ _ _ x,.part u _ _ _ y=>v4 t u&&x==y
 | .pb t _ o,.pb u _ p=>v4 t u&&v4 o p
 | .bp t n o,.bp u m p=>v4 t u&&v4 n m&&v4 o p
 | .bM a o,.bM b p=>yn a b&&v4 o p
 | .fh f a b,.fh g c d=>v4 f g&&yn a c&&yn b d
 | .mp t,.mp u=>v4 t u
 | .iz,.iz=>aj8
 |_,_=>aj9
def yn:List SV->List SV->Bool
 | [],[]=>aj8
 |x::xs,y::ys=>xD x y&&yn xs ys
 |_,_=>aj9
end
def acf:SB->SB->Bool
 | .arr r _,.arr q _=>Bi r q
 | .box a,.box b=>yn a b
 | .set _,.set _=>aj8
 | .bC p _,.bC q _=>p.same q
 | .dead,.dead=>aj8
 |_,_=>aj9
def E':List SB->List SB->Bool
 | [],[]=>aj8
 |x::xs,y::ys=>acf x y&&E' xs ys
 |_,_=>aj9
def Ot:SE->SE->Bool
 | [],[]=>aj8
 |(t,x)::xs,(u,y)::ys=>v4 t u&&xD x y&&Ot xs ys
 |_,_=>aj9
def Ou:List Nat->List Nat->Bool
 | [],[]=>aj8
 |x::xs,y::ys=>v4 x y&&Ou xs ys
 |_,_=>aj9
def Aq (a b:pq):Bool:=Ot a.env b.env&&E' a.aD b.aD&&Ou a.fz b.fz&&v4 a.kn b.kn
mutual
def tF:SV->List xQ->SV×List xQ
 | .int k _,.i n::q=>(.int k n,q)
 | .bool _,.b x::q=>(.bool x,q)
 | .agg cs,q=>(.agg (sd cs q).1,(sd cs q).2)
 | .b8 cs,q=>(.b8 (sd cs q).1,(sd cs q).2)
 | .sl _ _,.l r l::q=>(.sl r l,q)
 | .pre t _ _ x,.n len:: .n cap::q=>(.pre t len cap x,q)
 | .part t _ _ _ x,.n off:: .n len:: .n cap::q=>(.part t off len cap x,q)
 | .pb t _ o,.i i::q=>(.pb t i o,q)
 | .bM cs o,q=>(.bM (sd cs q).1 o,(sd cs q).2)
 | .fh f a b,q=>(.fh f (sd a q).1 (sd b (sd a q).2).1,(sd b (sd a q).2).2)
 |v,q=>(v,q)
def sd:List SV->List xQ->List SV×List xQ
 | [],q=>([],q)
 |x::xs,q=>((tF x q).1::(sd xs (tF x q).2).1,(sd xs (tF x q).2).2)
end
def MM:SB->List xQ->SB×List xQ
 | .arr _ _,.l r l::q=>(.arr r l,q)
 | .box cs,q=>(.box (sd cs q).1,(sd cs q).2)
 | .set _,.s l::q=>(.set l,q)
 | .bC _ _,.l [.i .i64,p] l::q=>(.bC p l,q)
 |b,q=>(b,q)
def Ar:List SB->List xQ->List SB×List xQ
 | [],q=>([],q)
 |b::r,q=>((MM b q).1::(Ar r (MM b q).2).1,(Ar r (MM b q).2).2)
def Kz:SE->List xQ->SE×List xQ
 | [],q=>([],q)
 |(t,v)::r,q=>((t,(tF v q).1)::(Kz r (tF v q).2).1,(Kz r (tF v q).2).2)
def vH (st:pq) (q:List xQ):pq:={st with env:=(Kz st.env q).1,aD:=(Ar st.aD (Kz st.env q).2).1}
def Sl:List xQ->List AK
 | []=>[]
 |a::r=>a.k::Sl r
def ptK {β:Type 1} (p:PT) (c:PT->β):β:=
 match p with
 | .i k=>c (.i k)
 | .b=>c .b
def rK {β:Type 1}:List PT->(List PT->β)->β
 | [],c=>c []
 |p::r,c=>ptK p fun p=>rK r fun r=>c (p::r)
def Vu {β:Type 1}:List AK->(List AK->β)->β
 | [],c=>c []
 | .i::r,c=>Vu r fun r=>c (.i::r)
 | .b::r,c=>Vu r fun r=>c (.b::r)
 | .n::r,c=>Vu r fun r=>c (.n::r)
 | .l q::r,c=>rK q fun q=>Vu r fun r=>c (.l q::r)
 | .s::r,c=>Vu r fun r=>c (.s::r)
mutual
def sX:SV->Option PV
 | .int k n=>aj6 (.int k n)
 | .bool b=>aj6 (.bool b)
 | .str x=>aj6 (.str x)
 | .eo=>aj6 .eo
 | .agg cs=>match qE cs with|some l=>aj6 (.agg l)|none=>aj7
 | .b8 cs=>match qE cs with|some l=>aj6 (.b8 l)|none=>aj7
 | .sl r l=>aj6 (.sl (aj3 r) aj9 (l.map (RT.pv r)))
 | .nil e c=>aj6 (.sl e c [])
 | .bM cs off=>match qE cs with|some l=>aj6 (.bM l off)|none=>aj7
 | .fh f a b=>match qE a,qE b with
  |some x,aj6 y=>aj6 (.fh f x y)
  |_,_=>aj7
 |_=>aj7
def qE:List SV->Option (List PV)
 | []=>aj6 []
 |x::xs=>match sX x,qE xs with
  |some y,aj6 ys=>aj6 (y::ys)
  |_,_=>aj7
end
structure cm (α:Type) where
 enc:α->List SV
 dec:List SV->Option (α×List SV)
 law: ∀{vs:List SV} {a:α} {rest:List SV} {ps:List PV},dec vs=aj6 (a,rest)->qE vs=aj6 ps-> ∃p q,ps=p++q/\qE (enc a)=aj6 p/\qE rest=aj6 q
structure Arg (α:Type) where
 enc:α->SV
 dec:SV->Option α
 law: ∀{v:SV} {a:α} {p:PV},dec v=aj6 a->sX v=aj6 p->sX (enc a)=aj6 p
structure ax (α:Type) where
 enc:α->List SV
 dec:List SV->Option α
 law: ∀{vs:List SV} {a:α} {ps:List PV},dec vs=aj6 a->qE vs=aj6 ps->qE (enc a)=aj6 ps
inductive Kd where
 |pure
 |l9
 |own
structure sY where
 {α β:Type}
 args:ax α
 res:Arg β
 fn:α->Option β
 kd:Kd
 ow:Bool
structure dG where
 ka:List AK
 ta:List SV
 tb:List SB
 ko:List AK
 tv:SV
 to:List SB
 fn:iG ka->Option (iG ko)
def KA:(p:PT)->PV->Option p.T
 | .i k,.int l n=>bif gn l k then aj6 n else aj7
 | .b,.bool x=>aj6 x
 |_,_=>aj7
def Sm:(r:List PT)->List PV->Option (RT r)
 | [],[]=>aj6 ()
 | [p],[v]=>KA p v
 |p::q::r,v::vs=>match KA p v,Sm (q::r) vs with
  |some a,aj6 b=>aj6 (a,b)
  |_,_=>aj7
 |_,_=>aj7
def KB (r:List PT):List (List PV)->Option (List (RT r))
 | []=>aj6 []
 |x::xs=>match Sm r x,KB r xs with
  |some a,aj6 l=>aj6 (a::l)
  |_,_=>aj7
structure Srt where
 r:List PT
 g:Option FuncId
 fn:List (RT r)->Option (List (RT r))
def akS:Option FuncId->List PV->Bool
 |none,[]=>aj8
 |some g,[.fh h [] []]=>v4 h g
 |_,_=>aj9
def adm (q:Srt) (args:List PV) (aD:cI) (fz:List Nat):Option (PV×cI×List Nat):=
 match args with
 | .own t e off len _ _::r=>match aD[t]? with
  |some (.arr e1 rows)=>if v4 e (aj3 q.r)&&v4 off 0&&ab1 len (aj3 rows)&&ab1 len mC&&!has fz t&&akS q.g r then
   (match KB q.r (rows.take len) with
   |some l=>match q.fn l with
    |some m=>if v4 (aj3 m) (aj3 l) then aj6 (.b8 [],aD.set t (.arr e1 (m.map (RT.pv q.r)++rows.drop len)),fz) else aj7
    |none=>aj7
   |none=>aj7) else aj7
  |_=>aj7
 |_=>aj7
inductive Cd where
 |code (x:aG)
 |ins (esz:Nat)
 |srt (q:Srt)
 |cat
instance:Coe aG Cd:=⟨.code⟩
def Cd.ent:Cd->Ent
 | .code x=> .code x
 | .ins n=> .LV (Ih n)
 | .srt q=> .LV (adm q)
 | .cat=> .LV acL
structure Ctx where
 lp:Option Nat
 con:FuncId->List sY
 fpc:FuncId->List dG
 code:FuncId->Option Cd
 rk:List (Nat×List PT)
 jn:Bool
inductive XRS where
 |loc (r:gz)
 |shr (v:SV) (s:List SB) (z:List Nat)
def SV.adn:SV->Bool
 | .own .. | .pre .. | .part .. | .pa .. | .pb .. | .bp .. | .mp .. =>aj8
 |_=>aj9
def As:List SV->Bool
 | []=>aj9
 |x::xs=>x.adn||As xs
mutual
def UK (ts:List Nat):SV->SV
 | .pa t r i a off=>bif has ts t then .pb t i off else .pa t r i a off
 | .agg cs=> .agg (Sn ts cs)
 | .b8 cs=> .b8 (Sn ts cs)
 | .bM cs off=> .bM (Sn ts cs) off
 | .fh f a b=> .fh f (Sn ts a) (Sn ts b)
 |v=>v
def Sn (ts:List Nat):List SV->List SV
 | []=>[]
 |x::xs=>UK ts x::Sn ts xs
end
def dgE (ts:List Nat):SE->SE
 | []=>[]
 |(t,v)::r=>(t,UK ts v)::dgE ts r
def Vv (ts:List Nat):SB->SB
 | .box cs=> .box (Sn ts cs)
 |b=>b
def B4 (ts:List Nat):List SB->List SB
 | []=>[]
 |b::r=>Vv ts b::B4 ts r
def So:List SB->Nat->SB->List SB
 | [],_,_=>[]
 |_::r,0,b=>b::r
 |x::r,n+1,b=>x::So r n b
def ry:List (Nat×SB)->List SB->List SB
 | [],s=>s
 |(t,b)::r,s=>ry r (So s t b)
def yo:List (Nat×SB)->List Nat
 | []=>[]
 |(t,_)::r=>t::yo r
def IM (d:Option Nat) (v:SV) (e:SE):SE:=
 match d with
 |some t=>(t,v)::e
 |none=>e
def apS:List SB->List SB->List SB
 | [],l=>l
 |b::r,l=>b::apS r l
def gz.next (d:Option Nat) (st:pq) (r:gz):pq:=
 match r.wr with
 | []=>{env:=IM d r.v st.env,aD:=apS st.aD r.news,fz:=r.fr++st.fz,kn:=st.kn}
 |w=>{env:=IM d r.v (dgE (yo w) st.env),aD:=apS (B4 (yo w) (ry w st.aD)) r.news,fz:=r.fr++st.fz,kn:=st.kn}
def gz.ok (z:List Nat) (r:gz):Bool:=(yo r.wr).all fun t=>!has z t
def gz.tr (nx:Nat) (r:gz):Tr:=
 ⟨r.rd++r.fr,yo r.wr,!r.news.isEmpty,aj9,(r.rd++r.fr).all (abZ · nx)&&(yo r.wr).all (abZ · nx),nx,nx+aj3 r.news⟩
def Sp:Tr:=⟨[],[],aj8,aj8,aj8,0,0⟩
def pY {R:Type}:List SB->List SB->gT R->gT R
 | [],_,k=>k
 |x::xs,y::ys,k=>match x with
  | .arr r l=>match y with
   | .arr q m=>bif Bi r q then gu (aj3 m==aj3 l) (pY xs ys k) aN else aN
   | .dead=>pY xs ys k
   |_=>aN
  | .dead=>match y with
   | .dead=>pY xs ys k
   |_=>aN
  | .box _=>match y with
   | .box _=>pY xs ys k
   | .dead=>pY xs ys k
   |_=>aN
  |_=>pY xs ys k
 |_,_,_=>aN
abbrev Vw:=FuncId->List SV->List SB->List Nat-> ∀R:Type,(SV->List SB->List Nat->gT R)->gT R
section
variable {R : Type}
def akT (_:FuncId) (_:List SV):gT R:=aN
def apy (_:FuncId) (_:List SV) (_:List SB):gT R:=aN
def MN (f:FuncId) (m:Bool) (s:List SB) (tk:List Nat) (vs:List SV) (k:XRS->gT R):List sY->gT R
 | []=>akT f vs
 |c::r=>match c.args.dec vs with
  |some a=>bif m==c.ow then lP (c.fn a) fun b=>match c.kd with
   | .pure=>k (.loc {v:=c.res.enc b,rd:=tk})
   | .l9=>k (.loc {v:=c.res.enc b,rd:=tk,fr:=tk})
   | .own=>k (.loc {v:=(ym (aj3 s) (c.res.enc b)).1,news:=(ym (aj3 s) (c.res.enc b)).2,rd:=tk}) else MN f m s tk vs k r
  |none=>MN f m s tk vs k r
mutual
def KC (g:Nat->Nat):SV->SV
 | .agg cs=> .agg (Dk g cs)
 | .b8 cs=> .b8 (Dk g cs)
 | .own t ex=> .own (g t) ex
 | .pre t len cap ex=> .pre (g t) len cap ex
 | .part t off len cap ex=> .part (g t) off len cap ex
 | .pa t _ i _ off=> .pb (g t) i off
 | .pb t i off=> .pb (g t) i off
 | .bp t n off=> .bp (g t) n off
 | .bM cs off=> .bM (Dk g cs) off
 | .mp t=> .mp (g t)
 | .fh f a b=> .fh f (Dk g a) (Dk g b)
 |v=>v
def Dk (g:Nat->Nat):List SV->List SV
 | []=>[]
 |x::xs=>KC g x::Dk g xs
end
def Sq (g:Nat->Nat):SB->SB
 | .box cs=> .box (Dk g cs)
 |b=>b
def zT (g:Nat->Nat):List Nat->List SB->List (Nat×SB)
 |t::r,b::s=>(t,Sq g b)::zT g r s
 |_,_=>[]
def ach (k:Nat) (v:SV) (s:List SB):Bool:=(MI tz v++s.flatMap E4).all fun t=>abZ t k
def fpS (f : FuncId) (n : Nat) (tk : List Nat) (vs : List SV) (s0 : List SB) (k : XRS -> gT R) : List dG -> gT R
  | [] => apy f vs s0
  | c :: r => bif yn c.ta vs && E' c.tb s0 then (match lZ c.ka (CA vs ++ IL s0) with
      | some a => lP (c.fn a) fun b =>
          k (.loc { v := KC (kT tk n) (tF c.tv (lQ c.ko b)).1, wr := zT (kT tk n) tk (Ar c.to (tF c.tv (lQ c.ko b)).2).1 })
      | none => fpS f n tk vs s0 k r) else fpS f n tk vs s0 k r
def Hn (cx:Ctx) (inl:Vw) (e:SE) (s:List SB) (z:List Nat) (op:lJ) (k:XRS->gT R):gT R:=
 match op with
 | .call m f args=>match m with
  | .UB=>match sW s (lh s deep) (kv e args) with
   |some vs=>MN f aj9 s (rY (xN s deep) (kv e args)) vs k (cx.con f)
   |none=>aN
  | .own=>match sW s (lh s deep) (kv e args) with
   |some vs=>MN f aj8 s (rY (xN s deep) (kv e args)) vs k (cx.con f)
   |none=>aN
  | .shr=>inl f (kv e args) s z R fun v s' z'=>k (.shr v s' z')
  | .fp=>match MH s (lh s deep) (kv e args) with
   |false=>aN
   |true=>let tk:=o6 (rY (xN s deep) (kv e args))
    bif tk.all (fun t=>!has z t) then (match tU tk (kv e args),GV s tk tk with
     |some vs,aj6 s0=>fpS f (aj3 s) tk vs s0 k (cx.fpc f)
     |_,_=>aN) else aN
 | .xt x args=>match bX e x with
  | .fh f a b=>bif As (kv e args++b) then inl f (a++kv e args++b) s z R fun v s' z'=>k (.shr v s' z')
   else match sW s (lh s deep) (a++kv e args++b) with
   |some vs=>MN f aj9 s (rY (xN s deep) (a++kv e args++b)) vs k (cx.con f)
   |none=>aN
  |_=>aN
 |op=>mP e s z op fun r=>k (.loc r)
def Ov (d:Option Nat) (st:pq) (tr:List Tr) (k:pq->List Tr->gT R) (x:XRS):gT R:=
 match x with
 | .loc r=>bif r.ok st.fz then Vr r.v fun v=>k ({r with v}.next d st) (r.tr (aj3 st.aD)::tr) else aN
 | .shr v s z=>Vr v fun v=>pY st.aD s (bif st.fz.all (has z) then k {env:=IM d v (dgE (vg (aj3 st.aD)) st.env),aD:=s,fz:=z,kn:=st.kn} (Sp::tr) else aN)
def px (cx:Ctx) (inl:Vw):List bW->pq->List Tr->(pq->List Tr->gT R)->gT R
 | [],st,tr,k=>k st tr
 |o::r,st,tr,k=>
  let run:=fun st:pq=>match o.op with
   | .pick (.t c) a b=>match Di c st.env with
    | .bool x=>gu x (Ov o.dst {st with env:=Ao c (.bool aj8) st.env} tr (px cx inl r · · k) (.loc {v:=bX st.env a}))
     (Ov o.dst {st with env:=Ao c (.bool aj9) st.env} tr (px cx inl r · · k) (.loc {v:=bX st.env b}))
    |_=>aN
   |op=>Hn cx inl st.env st.aD st.fz op (Ov o.dst st tr (px cx inl r · · k))
  let skip:=fun st:pq=>px cx inl r {st with env:=IM o.dst .ke st.env} (Tr.idle::tr) k
  match o.guard with
  |none=>run st
  |some (s,want)=>match Di s st.env with
   | .bool x=>bif want then gu x (run {st with env:=Ao s (.bool aj8) st.env}) (skip {st with env:=Ao s (.bool aj9) st.env})
    else gu x (skip {st with env:=Ao s (.bool aj8) st.env}) (run {st with env:=Ao s (.bool aj9) st.env})
   | .ke=>skip st
   |_=>aN
def KD (e:SE):List Nat->(SE->gT R)->gT R
 | [],k=>k []
 |s::r,k=>Vr (Di s e) fun v=>KD e r fun e'=>k ((s,v)::e')
def jnV:SV->SV->SV
 | .undef,_=> .iz
 |_,v=>v
def jnE (o:SE):SE->SE
 | []=>[]
 |(t,v)::r=>(t,jnV (Di t o) v)::jnE o r
def jnL (o:SE):List Nat->SE
 | []=>[]
 |t::r=>(t,jnV (Di t o) (Di t o))::jnL o r
def Qc (o:SE) (gG:List Nat) (st:pq):pq:={st with env:=jnL o gG}
def guards:List bW->Nat
 | []=>0
 |o::r=>match o.guard with
  |none=>guards r
  |some _=>guards r+1
def jnC:jR->Bool
 | .seq (.region _ ops _) (.cond _ _ _)=>ab1 8 (guards ops)
 |_=>aj9
def jnK:jR->List Nat
 | .seq (.region _ _ gG) _=>gG
 |_=>[]
noncomputable def yp (cx:Ctx) (inl:Vw):(c:jR)->(R:Type)->pq->(iF->pq->gT R)->gT R
 | .skip,_,st,k=>k .normal st
 | .region d ops gG,_,st,k=>px cx inl ops st [] fun lA tr=>
  let fin:=KD lA.env gG fun e=>k .normal {lA with env:=e}
  match d with
  |none=>fin
  |some bf=>match rT 0 (tr.reverse.zip bf) with
   |true=>fin
   |false=>aN
 | .seq a b,R,st,k=>match cx.jn&&jnC a with
  |false=>yp cx inl a R st fun e lA=>match e with
   | .normal=>yp cx inl b R lA k
   |e=>k e lA
  |true=>Vu (Sl (ox (Qc st.env (jnK a) st))) fun ks=>match lZ ks (ox (Qc st.env (jnK a) st)) with
   |none=>aN
   |some y0=>fun ρ w=>Oi cx.lp (fun y:Bool×iG ks=>gu y.1
    (yp cx inl a (Step (Bool×iG ks) ρ) st fun e v5=>match e with
     | .normal=>bif Aq (Qc st.env (jnK a) st) {v5 with env:=jnE st.env v5.env} then (match lZ ks (ox {v5 with env:=jnE st.env v5.env}) with
      |some y'=>Dj (.next (aj9,y'))
      |none=>aN) else aN
     |e=>fun xR w'=>k e v5 xR fun r=>w' (.done (w r)))
    (fun xR w'=>yp cx inl b R (vH (Qc st.env (jnK a) st) (lQ ks y.2)) k xR fun r=>w' (.done (w r))) (Step (Bool×iG ks) ρ) fun z=>z) (aj8,y0)
 | .cond c a b,R,st,k=>match bX st.env c with
  | .bool x=>gu x (yp cx inl a R st k) (yp cx inl b R st k)
  |_=>aN
 | .block id b,R,st,k=>yp cx inl b R st fun e lA=>match e with
  | .exit j=>bif v4 j id then k .normal lA else k (.exit j) lA
  |e=>k e lA
 | .loop live b,_,st,k=>match E9 cx.rk live st with
  |none=>aN
  |some oh=>Vu (Sl (ox oh)) fun ks=>match lZ ks (ox oh) with
   |none=>aN
   |some y0=>fun ρ w=>Oi cx.lp (fun y:iG ks=>yp cx inl b (Step (iG ks) ρ) (vH oh (lQ ks y)) (fun e v5=>match e with
    | .normal=>match E9 cx.rk live v5 with
     |some MO=>bif Aq oh MO then (match lZ ks (ox MO) with
      |some y'=>Dj (.next y')
      |none=>aN) else aN
     |none=>aN
    |e=>fun xR w'=>k e v5 xR fun r=>w' (.done (w r))) (Step (iG ks) ρ) fun z=>z) y0
 | .exit id,_,st,k=>k (.exit id) st
 | .ret,_,st,k=>k .ret st
def MP (st:pq):RV->Option SV
 | .tmp t=>aj6 (Di t st.env)
 | .cell t agg=>match Di t st.env with
  | .bp t _ off=>match nth st.aD t with
   |some (.box cs)=>zR agg off cs
   |_=>aj7
  | .bM cs off=>zR agg off cs
  |_=>aj7
def zf (st:pq):List RV->Option (List SV)
 | []=>aj6 []
 |r::rs=>match MP st r,zf st rs with
  |some v,aj6 vs=>aj6 (v::vs)
  |_,_=>aj7
def CB:List SV->SV
 | [v]=>v
 |vs=> .b8 vs
def MQ:Nat->List SV->SE
 |_,[]=>[]
 |i,v::r=>(i,v)::MQ (i+1) r
noncomputable def KE (cx:Ctx) (inl:Vw) (x:aG) (R:Type) (args:List SV) (s:List SB) (z:List Nat) (k:SV->List SB->List Nat->gT R):gT R:=
 bif v4 (aj3 args) x.C9 then yp cx inl x.code R {env:=MQ 0 args,aD:=s,fz:=z,kn:=aj3 s} fun e st=>match e with
  | .exit _=>aN
  |_=>match zf st x.res with
   |some vs=>k (CB vs) st.aD st.fz
   |none=>aN
 else aN
def gz.nM (s:List SB) (r:gz):List SB:=
 match r.wr with
 | []=>apS s r.news
 |w=>apS (B4 (yo w) (ry w s)) r.news
def Dl:Option FuncId->List SV->Bool
 |none,[]=>aj8
 |some g,[.fh h [] []]=>v4 h g
 |_,_=>aj9
structure akU where
 t:Nat
 r:List PT
 l:List (RT r)
 i:Int
 m:List (RT r)
def Vx (esz:Nat) (args:List SV) (s:List SB) (z:List Nat):Option akU:=
 match args with
 | [.own t _,.int .i64 i,.own u _]=>match nth s t with
  |some (.arr r l)=>match nth s u with
   |some (.arr q m)=>match sV q r m with
    |some m=>bif v4 (aj3 r) esz&&!Nat.beq t u&&!has z t then aj6 ⟨t,r,l,i,m⟩ else aj7
    |none=>aj7
   |_=>aj7
  |_=>aj7
 |_=>aj7
def adq (esz:Nat) (args:List SV) (s:List SB) (z:List Nat) (k:SV->List SB->List Nat->gT R):gT R:=
 match Vx esz args s z with
 |some a=>lP (zd a.l a.i a.m) fun l'=>k (.own (aj3 s) aj9) (gz.nM s {v:= .own (aj3 s) aj9,news:=[.arr a.r l'],wr:=[(a.t,.dead)]}) z
 |none=>aN
structure akV where
 t:Nat
 r:List PT
 l:List (RT r)
 m:List (RT r)
def Vy (args:List SV) (s:List SB) (z:List Nat):Option akV:=
 match args with
 | [.part t off len _ _]=>match nth s t with
  |some (.box [.sl r l,.sl q m])=>match sV q r m with
   |some m=>bif v4 (aj3 r) 1&&v4 off 0&&v4 len 2&&!has z t then aj6 ⟨t,r,l,m⟩ else aj7
   |none=>aj7
  |_=>aj7
 |_=>aj7
def adr (args:List SV) (s:List SB) (z:List Nat) (k:SV->List SB->List Nat->gT R):gT R:=
 match Vy args s z with
 |some a=>lP (adj a.l a.m) fun l'=>k (.own (aj3 s) aj9) (gz.nM s {v:= .own (aj3 s) aj9,news:=[.arr a.r l'],wr:=[(a.t,.dead)]}) z
 |none=>aN
def Vz (r:List PT) (g:Option FuncId) (args:List SV) (s:List SB) (z:List Nat):Option (Nat×Option Nat×List (RT r)):=
 match args with
 | .own t _::a=>match nth s t with
  |some (.arr q l)=>match sV q r l with
   |some l=>bif !has z t&&Dl g a then aj6 (t,aj7,l) else aj7
   |none=>aj7
  |_=>aj7
 | .pre t len _ _::a=>match nth s t with
  |some (.arr q l)=>match sV q r l with
   |some l=>bif !has z t&&Dl g a then aj6 (t,aj6 len,l) else aj7
   |none=>aj7
  |_=>aj7
 |_=>aj7
def ads (q:Srt) (args:List SV) (s:List SB) (z:List Nat) (k:SV->List SB->List Nat->gT R):gT R:=
 match Vz q.r q.g args s z with
 |some (t,aj7,l)=>lP (E1 q.fn l) fun m=>k (.b8 []) (gz.nM s {v:= .b8 [],wr:=[(t,.arr q.r m)]}) z
 |some (t,aj6 len,l)=>lP (IH q.fn len l) fun m=>k (.b8 []) (gz.nM s {v:= .b8 [],wr:=[(t,.arr q.r m)]}) z
 |none=>aN
noncomputable def Sr (cx:Ctx):Nat->Vw
 |0=>fun _ _ _ _ _ _=>aN
 |n+1=>fun f args s z R k=>match cx.code f with
  |some (.code x)=>KE cx (Sr cx n) x R args s z k
  |some (.ins e)=>adq e args s z k
  |some (.srt q)=>ads q args s z k
  |some .cat=>adr args s z k
  |none=>aN
def Ss (kd:Kd) {β:Type} (res:Arg β) (v:SV) (s:List SB) (z:List Nat):gT β:=
 match kd with
 | .pure=>bif Ap v then lY (res.dec v) Dj else aN
 | .l9=>bif Ap v then aN else lY (Si s v) fun u=>lY (res.dec u) Dj
 | .own=>lY (Qa s z [] v) fun u=>lY (res.dec u.1) Dj
noncomputable def aci (cx:Ctx) (x:aG) {α β:Type} (args:ax α) (res:Arg β) (kd:Kd) (a:α):Option β:=
 KE cx (Sr cx 8) x β (args.enc a) [] [] (Ss kd res) β fun b=>b
def Fa:List SB->Bool
 | []=>aj8
 |b::r=>ze b&&Fa r
def Bm {R:Type}:List SB->List SB->gT R->gT R
 | [],[],k=>k
 |x::xs,y::ys,k=>match x with
  | .arr r l=>match y with
   | .arr q m=>bif Bi r q then gu (aj3 m==aj3 l) (Bm xs ys k) aN else aN
   |_=>aN
  | .dead=>match y with
   | .dead=>Bm xs ys k
   |_=>aN
  | .box _=>match y with
   | .box _=>Bm xs ys k
   |_=>aN
  | .set _=>match y with
   | .set _=>Bm xs ys k
   |_=>aN
  | .bC _ _=>match y with
   | .bC _ _=>Bm xs ys k
   |_=>aN
 |_,_,_=>aN
noncomputable def apz (wd:Bool) (cx:Ctx) (x:aG) (ka:List AK) (ta:List SV) (tb:List SB) (ko:List AK) (tv:SV) (to:List SB) (a:iG ka):Option (iG ko):=
 KE cx (Sr cx 8) x (iG ko) (sd ta (lQ ka a)).1 (Ar tb (sd ta (lQ ka a)).2).1 [] (fun v s z=>match z with
  | []=>let u:=bif wd then Hm s v else v
   let s1:=s.take (aj3 tb)
   bif xD tv u&&E' to s1&&ach (aj3 tb) u s1&&u.sure&&Fa s1 then Bm (Ar tb (sd ta (lQ ka a)).2).1 s1 (lY (lZ ko (Cz u++IL s1)) Dj) else aN
  |_=>aN) (iG ko) fun b=>b
end
end Go.Vm
