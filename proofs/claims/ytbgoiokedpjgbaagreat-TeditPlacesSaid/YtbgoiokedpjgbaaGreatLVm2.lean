/- The logical machine, part 2: VmCall3, VmFp, VmRun, VmInv, VmStep, VmShr, VmOp, VmReg, VmReg2, VmNorm, VmNorm2, VmCode, VmSound, VmPrim, VmIns, VmCat, VmTab, VmComp, VmLaw, VmSym, SvBase, SvDef. -/
import Derived.Test.YtbgoiokedpjgbaaGreatLVm1
import Derived.Orders
import Derived.Laws.Sem
import Derived.Laws.Externs
import Derived.Lib.SliceRun
import Derived.Laws.CopyRow
import Derived.ProofKit
import Derived.Carry
import Derived.OpenShut
import Derived.Deep.Slices
import Derived.Deep.Grids
open Bool renaming and_eq_true->ut,false_eq_true->PP,not_eq_true'->UV,or_eq_true->afA,true->amp,false->amq
open List renaming getElem?_eq_getElem->v6,getElem?_eq_some_iff->Do,getElem?_append_left->EQ,getElem?_append_right->M2,mem_append->ae0,all_eq_true->aet,mem_singleton->aew,length_append->aex,take_of_length_le->aeA,append_assoc->aeE,replicate->aeF,mem_cons->aeJ,mem_cons_of_mem->af0,flatMap_append->af5,getD_eq_getElem?_getD->afb,pairwise_iff_getElem->afc,flatMap_cons->afn,getElem?_take_of_lt->afo,length_drop->afp,length_take->aft,drop_of_length_le->afu,mem_append_right->afI,getElem?_set_ne->afK,mem_append_left->afO,mem_of_mem_take->agd,mem_of_mem_drop->age,nodup_append->al2,getElem?_set->al7,any_eq_true->alt,length_set->alX,drop_zero->am1,length->am8
open Option.some renaming injEq->ww,inj->afv
open Nat renaming beq->AC,le_refl->If,lt_trichotomy->acl,lt_or_ge->acK,le_trans->adc,ble->aem,zero_le->aeu,eq_or_lt_of_le->aev,lt_of_lt_of_le->aeD,ble_eq->aeH,blt->aeZ,le_of_lt->af9,add_mul->afY,mul_le_mul_right->aig,lt_or_gt_of_ne->ajC,beq_eq->ajD,le_total->ajE,zero_add->am7
open Option renaming map_eq_some_iff->F0s,some->amn,none->amo
open Prod.mk renaming injEq->IR
open Array renaming getElem?_eq_some_iff->NE,getElem?_setIfInBounds->ae3,getD_eq_getD_getElem?->ae5,getElem?_setIfInBounds_self_of_lt->aeB,replicate->aeC,getElem?_eq_getElem->afe,size_replicate->afX,size_append->al8,ext'->alZ
open Int renaming ofNat_eq_natCast->af3,ofNat->ajB
open Go.Sem renaming run_bind->afa,run_pure->am6
open Go.Result renaming andThen_ok->afm
open Go.World renaming cell?->alu
open Decidable renaming decide->amr
/- A pure call, whole. -/
namespace Go.Vm
structure uH (im:Im) (loc:Loc) (aE:cK) (w:World) (v:PV) (uI:cK) (IJ:List Nat) (eB:Im) (bm:Loc) (w':World) (u:Value):Prop where
 gD:nN im eB
 dV:lZ loc bm
 vr:VR eB bm v u
 sr:SR eB bm uI IJ w'
 os:w'.os=w.os
 tape:w'.tape=w.tape
 output:w'.output=w.output
 size:w.heap.size<=w'.heap.size
 frame: ∀b,b<w.heap.size->(∀t li k,loc t=amn li->aE[t]? =amn k->k.bM=amp->li.df≠b)->w'.heap[b]? =w.heap[b]?
 dY: ∀b o,eB b=amn o->im b=amn o\/w.heap.size<=b\/ ∃t li k,loc t=amn li/\aE[t]? =amn k/\k.bM=amp/\li.df=b
 nE: ∀t li,bm t=amn li->loc t=amn li\/am8 aE<=t
 own: ∀t li k,bm t=amn li->uI[t]? =amn k->k.bM=amp->(w.heap.size<=li.df\/ ∃u lu ku,loc u=amn lu/\aE[u]? =amn ku/\ku.bM=amp/\lu.df=li.df)
def tM (P:Program) (f:FuncId) (us:Array Value) (w:World) (R:Value->World->Prop):Prop:=
 (∃v w',(callFunc f us).run P w= .ok (.value v) w'/\R v w')\/
 ((callFunc f us).run P w= .ok (.enter f us) w/\Calls P f us w fun e w'=> ∃v,e= .returned v/\R v w')
theorem tM.mono {P:Program} {f:FuncId} {us:Array Value} {w:World} {R R':Value->World->Prop} (h:tM P f us w R) (hr: ∀v w',R v w'->R' v w'):tM P f us w R':=by
 rcases h with ⟨v,w',h1,h2⟩|⟨h1,h2⟩
 · exact .inl ⟨v,w',h1,hr _ _ h2⟩
 exact .inr ⟨h1,h2.mono fun e w' ⟨v,he,hv⟩=>⟨v,he,hr _ _ hv⟩⟩
def B7 (P : Program) (rec : Task -> Option Out) : Prop :=
  ∀ (f : FuncId) (args : List PV) (aE : cK) (fz : List Nat) (v : PV) (uI : cK) (IJ : List Nat), rec (.func f args aE fz) = amn (.func v uI IJ) ->
    ∀ (im : Im) (loc : Loc) (w : World) (us : List Value), SR im loc aE fz w -> eX im loc args us ->
      tM P f ⟨us⟩ w fun u w' => ∃ eB bm, uH im loc aE w v uI IJ eB bm w' u
def IK (P : Program) (f : FuncId) (p : List PV -> Option (PV × cK)) : Prop :=
  ∀ (args : List PV) (v : PV) (news : cK), p args = amn (v, news) -> ∀ (im : Im) (w : World) (us : List Value), SR im fW [] [] w -> eX im fW args us ->
    tM P f ⟨us⟩ w fun u w' => ∃ eB bm, uH im fW [] w v news [] eB bm w' u
def AP (P : Program) (f : FuncId) (p : List PV -> cK -> List Nat -> Option (PV × cK × List Nat)) : Prop :=
  ∃ fn c, P.funcs[f]? = amn fn /\ (fn.name == "runtime.NumGoroutine") = amq /\ fn.body = amn c /\
    ∀ (args : List PV) (aE : cK) (fz : List Nat) (v : PV) (uI : cK) (IJ : List Nat), p args aE fz = amn (v, uI, IJ) ->
      ∀ (im : Im) (loc : Loc) (w : World) (us : List Value), SR im loc aE fz w -> eX im loc args us ->
        tM P f ⟨us⟩ w fun u w' => ∃ eB bm, uH im loc aE w v uI IJ eB bm w' u
def yt (P:Program) (F:mJ):Prop:=(∀f k p,F f=amn (.j0 k p)->k=amq/\IK P f p)/\ ∀f p,F f=amn (.GI p)->AP P f p
section
variable {P : Program} {F : mJ} {rec : Task -> Option Out} {im : Im} {loc : Loc} {aE : cK} {w : World}
theorem SR.empty (h: ∀b o,im b=amn o->w.heap[b]? =amn o):SR im fW [] [] w where
 bH:=h
 df:=fun t li h=>by cases h
 iI:=fun t u li lj k k' h=>by cases h
 free:=fun t li k h=>by cases h
theorem Rh {r:nI} {v:PV} {u:Value} {nT:cK} {GJ:List Nat} {im0 DP:Im} {dj:Loc} {w1:World} (hk:jl im loc aE w r) (hr:r.v=v) (hn:r.news=[]) (hw:r.wr=[]) (hno:v.ky=amp)
 (hp:uH im0 fW [] w v nT GJ DP dj w1 u): ∃eB bm,VR eB bm r.v u/\sR im loc aE w r eB bm w1:=by
 refine ⟨im,loc,by rw [hr];exact KK hno hp.vr,?_⟩
 have rQ: ∀b,b<w.heap.size->w1.heap[b]? =w.heap[b]?:=fun b hb=>hp.frame b hb fun t li k h=>by cases h
 exact {
  gD:= .refl _,dV:= .refl _
  bH:=fun b o h=>by
   have h1:=hk.bH b o h;have dI:b<w.heap.size:=(NE.1 h1).1;rw [rQ b dI];exact h1
  dY:=fun _ _ h=> .inl h
  os:=hp.os,tape:=hp.tape,output:=hp.output,size:=hp.size
  frame:=fun b hb _=>rQ b hb
  Q4:=fun t k h=>by rw [hw] at h;cases h
  wr:=fun t k li h=>by rw [hw] at h;cases h
  kU:=fun _ _ h=> .inl h
  news:=fun j k li h=>by rw [hn] at h;simp at h
  distinct:=fun i j ki kj li lj h=>by rw [hn] at h;simp at h}
theorem Ti {r:nI} {v v':PV} {u:Value} {nT:cK} {GJ tk:List Nat} {DP:Im} {dj:Loc} {w1:World} (hr:r.v=v') (hn:r.news=[]) (hw:r.wr=[]) (hf:r.fr=tk)
 (hp:uH (grow im w (zS loc aE tk)) fW [] w v nT GJ DP dj w1 u) (hi:ym nT v=amn v'): ∃eB bm,VR eB bm r.v u/\sR im loc aE w r eB bm w1:=by
 have rQ: ∀b,b<w.heap.size->w1.heap[b]? =w.heap[b]?:=fun b hb=>hp.frame b hb fun t li k h=>by cases h
 let DQ:Im:=fun b=>match DP b with
  |some o=>amn o
  |none=>if (zS dj nT (iZ sK v)).contains b&&aem w.heap.size b then w1.heap[b]? else amo
 have k7:nN DP DQ:=fun b o h=>by simp only [DQ,h]
 have zK: ∀b o,DQ b=amn o->w1.heap[b]? =amn o:=by
  intro b o h;simp only [DQ] at h;split at h
  · rename_i o' ho;injection h with h;subst h;exact hp.sr.bH b _ ho
  split at h
  · exact h
  cases h
 have anf: ∀t,t∈iZ sK v->Over DP DQ dj nT w1 t:=by
  intro t ht li hl;obtain ⟨k,gQ,rR⟩:=hp.sr.df t li hl;refine ⟨k,gQ,rR,fun hs=>?_⟩
  have Wh:w.heap.size<=li.df:=by
   rcases hp.own t li k hl gQ hs with h|⟨u,lu,ku,h,_⟩
   · exact h
   cases h
  simp only [DQ];split
  · rename_i o ho;exact (hp.sr.bH _ _ ho).symm
  rw [pp]
  simp only [ut,aeH];exact ⟨by simpa using zT.2 ⟨t,li,k,ht,hl,gQ,hs,rfl⟩,Wh⟩
 refine ⟨DQ,loc,by rw [hr];exact Tf k7 anf hp.vr hi,?_⟩
 exact {
  gD:=(IF im w _).trans (hp.gD.trans k7),dV:= .refl _
  bH:=zK
  dY:=fun b o h=>by
   simp only [DQ] at h;split at h
   · rename_i o' ho
     injection h with h;subst h;rcases hp.dY b _ ho with h1|h1|⟨t,li,k,h1,_⟩
     · rcases Td h1 with h2|h2
       · exact .inl h2
       obtain ⟨t,li,k,ht,hl,uC,hs,hb⟩:=zT.1 h2
       exact .inr (.inr ⟨t,li,k,by rw [hf];exact pq.2 ht,hl,uC,hs,hb⟩)
     · exact .inr (.inl h1)
     cases h1
   split at h
   · rename_i hc
     simp only [ut,aeH] at hc;exact .inr (.inl hc.2)
   cases h
  os:=hp.os,tape:=hp.tape,output:=hp.output,size:=hp.size
  frame:=fun b hb _=>rQ b hb
  Q4:=fun t k h=>by rw [hw] at h;cases h
  wr:=fun t k li h=>by rw [hw] at h;cases h
  kU:=fun _ _ h=> .inl h
  news:=fun j k li h=>by rw [hn] at h;simp at h
  distinct:=fun i j ki kj li lj h=>by rw [hn] at h;simp at h}
theorem Pr {r:nI} {v v':PV} {u:Value} {nT:cK} {GJ seen':List Nat} {im0 DP:Im} {dj:Loc} {w1:World} {news:cK} (hk:jl im loc aE w r) (hr:r.v=v') (hn:r.news=news) (hw:r.wr=[])
 (hp:uH im0 fW [] w v nT GJ DP dj w1 u) (hi:zb nT GJ (am8 aE) [] v=amn (v',news,seen')): ∃eB bm,VR eB bm r.v u/\sR im loc aE w r eB bm w1:=by
 have rQ: ∀b,b<w.heap.size->w1.heap[b]? =w.heap[b]?:=fun b hb=>hp.frame b hb fun t li k h=>by cases h
 obtain ⟨KL,ts,h1,h2⟩:=Th (fun t li hl=>hp.sr.df t li hl) hp.vr hi
 let qF:Loc:=fun t=>if t<(am8 aE) then loc t else match KL[t-(am8 aE)]? with
  |some li=>amn li
  |none=>loc t
 have AJ: ∀(j:Nat) (li:LI),KL[j]? =amn li->qF (am8 aE+j)=amn li:=by
  intro j li hj;simp only [qF];rw [rc (by omega),show (am8 aE)+j-(am8 aE)=j by omega,hj]
 have k7:lZ loc qF:=by
  intro t li hl;simp only [qF];split
  · exact hl
  rename_i dI
  split
  · rename_i l2 Kw
    have hj:=(Do.1 Kw).1
    have:=hk.fresh (t-(am8 aE)) (by rw [hn,<- h1.IH];exact hj)
    rw [show (am8 aE)+(t-(am8 aE))=t by omega,hl] at this
    cases this
  exact hl
 have hli: ∀(j:Nat) (k:jR),news[j]? =amn k-> ∃li,KL[j]? =amn li:=by
  intro j k hj
  have:=(Do.1 hj).1
  exact ⟨_,v6 (by rw [h1.IH];exact this)⟩
 have hts: ∀(j:Nat) (k:jR),news[j]? =amn k->k.bM=amp-> ∃t,ts[j]? =amn (amn t):=by
  intro j k hj hs;have dI:=(Do.1 hj).1;cases hg:ts[j]? with
  |none=>have:=List.getElem?_eq_none_iff.1 hg;have:=h1.Kn;omega
  |some x=>
   cases x with
   |some t=>exact ⟨t,rfl⟩
   |none=>rw [h1.dum j k hj hg] at hs;cases hs
 refine ⟨im,qF,by rw [hr];exact h2 im qF AJ,?_⟩
 exact {
  gD:= .refl _,dV:=k7
  bH:=fun b o h=>by
   have h1:=hk.bH b o h;have dI:b<w.heap.size:=(NE.1 h1).1;rw [rQ b dI];exact h1
  dY:=fun _ _ h=> .inl h
  os:=hp.os,tape:=hp.tape,output:=hp.output,size:=hp.size
  frame:=fun b hb _=>rQ b hb
  Q4:=fun t k h=>by rw [hw] at h;cases h
  wr:=fun t k li h=>by rw [hw] at h;cases h
  kU:=fun t li h=>by
   simp only [qF] at h;split at h
   · exact .inl h
   rename_i dI
   split at h
   · rename_i l2 Kw
     have hj:=(Do.1 Kw).1;exact .inr ⟨by omega,by rw [hn,<- h1.IH];omega⟩
   exact .inl h
  news:=BZ fun j k hj=>by
   rw [hn] at hj;obtain ⟨li,hl⟩:=hli j k hj;obtain ⟨⟨e,rows,rfl⟩,rR⟩:=h1.br j k li hj hl;refine ⟨li,AJ j li hl,rR,fun hs=>?_⟩
   obtain ⟨t,ht⟩:=hts j _ hj hs;obtain ⟨a1,a2,a3,_,_⟩:=h1.own j _ li t hj hl ht;have Wh:w.heap.size<=li.df:=by
    rcases hp.own t li _ a1 a2 hs with h|⟨u,lu,ku,h,_⟩
    · exact h
    cases h
   refine ⟨?_,.inl Wh⟩;cases hb:im li.df with
   |none=>rfl
   |some o=>
    have:=(NE.1 (hk.bH _ _ hb)).1
    omega
  distinct:=fun i j ki kj li lj sJ hj' WG Ri arS arT SM=>by
   rw [hn] at sJ hj';obtain ⟨l1,Hh⟩:=hli i ki sJ;obtain ⟨l2,Kw⟩:=hli j kj hj';have e1:=AJ i l1 Hh;have e2:=AJ j l2 Kw;rw [arS] at e1;rw [arT] at e2;injection e1 with e1;injection e2 with e2;subst e1 e2;obtain ⟨t1,ht1⟩:=hts i ki sJ WG;obtain ⟨t2,ht2⟩:=hts j kj hj' Ri;obtain ⟨a1,a2,_⟩:=h1.own i ki li t1 sJ Hh ht1;obtain ⟨b1,b2,_⟩:=h1.own j kj lj t2 hj' Kw ht2
   have:=hp.sr.iI t1 t2 li lj ki kj a1 b1 a2 b2 WG Ri SM
   subst this;exact h1.inj i j t1 ht1 ht2}
theorem zU {own:Bool} {f:FuncId} {mX:List PV} {tk:List Nat} {r:nI}
 (h:(match rec (.func f mX [] []) with
  |some (.func v s1 z1)=>
   if own then match zb s1 z1 (am8 aE) [] v with
    |some (v',n2,_)=>amn {v:=v',news:=n2,rd:=tk}
    |none=>amo
   else if v.ky then amn {v,rd:=tk}
   else match ym s1 v with
    |some v'=>amn {v:=v',rd:=tk,fr:=tk}
    |none=>amo
  |_=>amo)=amn r):r.rd=tk:=by
 split at h
 · split at h
   · split at h
     · injection h with h;subst h;rfl
     cases h
   split at h
   · injection h with h;subst h;rfl
   split at h
   · injection h with h;subst h;rfl
   cases h
 cases h
theorem xz (Er:B7 P rec) {own:Bool} {f:FuncId} {mX:List PV} {tk:List Nat} {r:nI} {us:List Value}
 (h:(match rec (.func f mX [] []) with
  |some (.func v s1 z1)=>
   if own then match zb s1 z1 (am8 aE) [] v with
    |some (v',n2,_)=>amn {v:=v',news:=n2,rd:=tk}
    |none=>amo
   else if v.ky then amn {v,rd:=tk}
   else match ym s1 v with
    |some v'=>amn {v:=v',rd:=tk,fr:=tk}
    |none=>amo
  |_=>amo)=amn r) (ha:eX (grow im w (zS loc aE tk)) fW mX us) (hk:jl im loc aE w r):
 tM P f ⟨us⟩ w fun u w'=> ∃eB bm,VR eB bm r.v u/\sR im loc aE w r eB bm w':=by
 cases hr:rec (.func f mX [] []) with
 |none=>rw [hr] at h;cases h
 |some o=>
  rw [hr] at h;cases o with
  |code e st=>cases h
  |func v s1 z1=>
   dsimp only at h;refine (Er f mX [] [] v s1 z1 hr _ fW w us (SR.empty (Po hk.bH)) ha).mono fun u w' hq=>?_
   obtain ⟨DP,dj,hp⟩:=hq;split at h
   · cases hio:zb s1 z1 (am8 aE) [] v with
     |none=>rw [hio] at h;cases h
     |some q2=>
      obtain ⟨v',n2,s2⟩:=q2;rw [hio] at h;simp only [ww] at h;subst h;exact Pr hk rfl rfl rfl hp hio
   split at h
   · rename_i hno
     simp only [ww] at h;subst h;exact Rh hk rfl rfl rfl hno hp
   cases hif:ym s1 v with
   |none=>rw [hif] at h;cases h
   |some v'=>
    rw [hif] at h;simp only [ww] at h;subst h;exact Ti rfl rfl rfl rfl hp hif
theorem IL (Er:B7 P rec) (AQ:yt P F) {own:Bool} {f:FuncId} {args:List PV} {fz:List Nat} {r:nI} {us:List Value}
 (h:dv F rec own f args aE fz=amn r) (ha:eX im loc args us) (hk:jl im loc aE w r):
 tM P f ⟨us⟩ w fun u w'=> ∃eB bm,VR eB bm r.v u/\sR im loc aE w r eB bm w':=by
 have arV: ∀(rd:List Nat),(∀b o,im b=amn o->w.heap[b]? =amn o)-> ∀b o,grow im w (zS loc aE rd) b=amn o->w.heap[b]? =amn o:=fun rd h=>Po h
 have Nq: ∀(mX:List PV),BU aE (xi aE deep) args=amn mX->(∀t,t∈dC (di aE deep) args-> ∀li,loc t=amn li-> ∃k,aE[t]? =amn k/\BR im loc w li k)->(∀b o,im b=amn o->w.heap[b]? =amn o)->
  eX (grow im w (zS loc aE (dC (di aE deep) args))) fW mX us:=by
  intro mX hx arW zK;refine xy (w:=w) (IF _ _ _) (fun t=>Pp (IF _ _ _) deep t) (fun t ht li hl=>?_) ha hx
  obtain ⟨k,gQ,rR⟩:=arW t ht li hl;exact ⟨k,gQ,rR,fun hs=>WD zK (zT.2 ⟨t,li,k,ht,hl,gQ,hs,rfl⟩)⟩
 unfold dv at h;cases hx:BU aE (xi aE deep) args with
 |none=>rw [hx] at h;cases h
 |some mX=>
  rw [hx] at h;dsimp only at h;cases hF:F f with
  |none=>
   rw [hF] at h;dsimp only at h;have GP:r.rd=dC (di aE deep) args:=zU h;exact xz Er h (Nq mX hx (fun t ht=>hk.tok t (.inl (by rw [GP];exact ht))) hk.bH) hk
  |some en=>
   rw [hF] at h;cases en with
   |j0 Pc p=>
    dsimp only at h;obtain ⟨rfl,hpo⟩:=AQ.1 f Pc p hF;cases Tj:p mX with
    |none=>rw [Tj] at h;cases h
    |some q=>
     obtain ⟨v,news⟩:=q;rw [Tj] at h;dsimp only at h;cases hio:zb news [] (am8 aE) [] v with
     |none=>rw [hio] at h;cases h
     |some q2=>
      obtain ⟨v',n2,s2⟩:=q2;rw [hio] at h;simp only [PP,if_false,ww] at h;subst h;refine (hpo mX v news Tj _ w us (SR.empty (arV _ hk.bH)) (Nq mX hx (fun t ht=>hk.tok t (.inl ht)) hk.bH)).mono fun u w' hq=>?_
      obtain ⟨DP,dj,hp⟩:=hq;exact Pr hk rfl rfl rfl hp hio
   |code x=>
    dsimp only at h;have GP:r.rd=dC (di aE deep) args:=zU h;exact xz Er h (Nq mX hx (fun t ht=>hk.tok t (.inl (by rw [GP];exact ht))) hk.bH) hk
   |GI x=>
    dsimp only at h;have GP:r.rd=dC (di aE deep) args:=zU h;exact xz Er h (Nq mX hx (fun t ht=>hk.tok t (.inl (by rw [GP];exact ht))) hk.bH) hk
end
end Go.Vm
/- A call that works on the blocks that its arguments lead to, numbered anew: what it does to the memory. -/
namespace Go.Vm
theorem gE {α:Type} {l:List α} {i:Nat} {x:α} (h:l[i]? =amn x):i<(am8 l):=(Do.1 h).1
theorem B8: ∀{l:List Nat} {t:Nat},t∈oK l↔t∈l
 | [],t=>by simp [oK]
 |a::r,t=>by
  rw [oK];split
  · rename_i h
    rw [B8]
    have:=pq.1 h
    constructor
    · exact fun h=>by simp [h]
    intro h
    rcases aeJ.1 h with h|h
    · subst h;exact this
    exact h
  simp [B8]
theorem sX: ∀{l:List Nat},(oK l).Nodup
 | []=>by simp [oK]
 |a::r=>by
  rw [oK];split
  · exact sX
  rename_i h
  rw [List.nodup_cons];exact ⟨fun hm=>h (pq.2 (B8.1 hm)),sX⟩
theorem Ex: ∀{a b:cK},vg a b=amp-> ∀(i:Nat) (x:jR),a[i]? =amn x-> ∃y,b[i]? =amn y/\x.bM=y.bM
 | [],_,_,i,x,h=>by simp at h
 |c::r,d::q,hf,i,x,h=>by
  simp only [vg,ut] at hf;cases i with
  |zero=>
   simp at h;subst h;refine ⟨d,rfl,?_⟩
   have:=hf.1
   split at this<;>first|(rename_i h1 h2;rw [h1,h2])|cases this
  |succ i=>simpa using Ex hf.2 i x (by simpa using h)
 |_::_,[],hf,_,_,_=>by cases hf
theorem Ey {g:Nat->Nat}: ∀{tk:List Nat} {s:cK} {t:Nat} {k:jR},(t,k)∈oO g tk s↔ ∃(i:Nat) (b:jR),tk[i]? =amn t/\s[i]? =amn b/\k=zd g b
 | [],s,t,k=>by simp [oO]
 |a::r,[],t,k=>by simp [oO]
 |a::r,b::s,t,k=>by
  simp only [oO,aeJ,IR,Ey];constructor
  · rintro (⟨rfl,rfl⟩|⟨i,c,h1,h2,h3⟩)
    · exact ⟨0,b,rfl,rfl,rfl⟩
    exact ⟨i+1,c,by simpa using h1,by simpa using h2,h3⟩
  rintro ⟨i,c,h1,h2,h3⟩
  cases i with
  |zero=>simp at h1 h2;subst h1;subst h2;exact .inl ⟨rfl,h3⟩
  |succ i=>exact .inr ⟨i,c,by simpa using h1,by simpa using h2,h3⟩
theorem Hk {g:Nat->Nat}: ∀(s:cK) (i:Nat),(AE g s)[i]? =(s[i]?).map (zd g)
 | [],i=>by simp [AE]
 |b::r,0=>by simp [AE]
 |b::r,i+1=>by simpa [AE] using Hk r i
theorem AR {g:Nat->Nat}: ∀(s:cK),(AE g s).length=am8 s
 | []=>rfl
 |b::r=>by simp [AE,AR r]
section
variable {P : Program} {F : mJ} {rec : Task -> Option Out} {im : Im} {loc : Loc} {aE : cK} {w : World} {tk : List Nat} {g : Nat -> Nat} {l1 l2 : Loc}
mutual
theorem VR.zf: ∀{x:PV} {v:Value},VR im l1 x v->(∀u,u∈iZ sK x-> ∀li,l1 u=amn li->l2 (g u)=amn li)->VR im l2 (BV g x) v
 |_,_,.undef v,_=> .undef v
 |_,_,.jy,_=> .jy
 |_,_,.int k n,_=> .int k n
 |_,_,.bool b,_=> .bool b
 |_,_,.str s,_=> .str s
 |_,_,.agg cs vs h,hg=> .agg _ vs (eX.zf h (fun u hu=>hg u (by simpa [iZ] using hu)))
 |_,_,.cu cs vs h,hg=> .cu _ vs (eX.zf h (fun u hu=>hg u (by simpa [iZ] using hu)))
 |_,_,.sl esz qA rows a cap hc hk h,_=> .sl esz qA rows a cap hc hk h
 |_,_,.own t esz off len cap ex li a cY h1 h2 h3 h4 h5 h6 h7,hg=> .own _ esz off len cap ex li a cY (hg _ (by simp [iZ]) _ h1) h2 h3 h4 h5 h6 h7
 |_,_,.ptr t esz row off li h1 h2 h3,hg=> .ptr _ esz row off li (hg _ (by simp [iZ]) _ h1) h2 h3
 |_,_,.bI cs off b o vs h hv,hg=> .bI _ off b o vs (eX.zf h (fun u hu=>hg u (by simpa [iZ] using hu))) hv
 |_,_,.mp t li h,hg=> .mp _ li (hg _ (by simp [iZ]) _ h)
 |_,_,.eL fn a b as bs ha hb,hg=> .eL fn _ _ as bs (eX.zf ha (fun u hu=>hg u (by simp [iZ,hu]))) (eX.zf hb (fun u hu=>hg u (by simp [iZ,hu])))
 |_,_,.dU,_=> .dU
theorem eX.zf: ∀{x:List PV} {v:List Value},eX im l1 x v->(∀u,u∈dC sK x-> ∀li,l1 u=amn li->l2 (g u)=amn li)->eX im l2 (wO g x) v
 |_,_,.nil,_=> .nil
 |_,_,.cons x v xs vs h hs,hg=> .cons _ v _ vs (VR.zf h (fun u hu=>hg u (by simp [dC,hu]))) (eX.zf hs (fun u hu=>hg u (by simp [dC,hu])))
end
theorem VR.BV {x:PV} {v:Value} (hg: ∀u,u∈iZ sK x-> ∀li,l1 u=amn li->l2 (g u)=amn li) (h:VR im l1 x v):VR im l2 (Vm.BV g x) v:=h.zf hg
theorem eX.BV {x:List PV} {v:List Value} (hg: ∀u,u∈dC sK x-> ∀li,l1 u=amn li->l2 (g u)=amn li) (h:eX im l1 x v):eX im l2 (wO g x) v:=h.zf hg
theorem AS: ∀(x:List PV),(wO g x).length=am8 x
 | []=>rfl
 |x::xs=>by simp [wO,AS xs]
theorem BR.BV {li:LI} {k:jR} (hg: ∀u,u∈qS k-> ∀li,l1 u=amn li->l2 (g u)=amn li) (h:BR im l1 w li k):BR im l2 w li (zd g k):=by
 cases k with
 |arr e rows=>exact h
 |box cs=>
  obtain ⟨a1,a2,a3,vs,el,a4,a5,a6⟩:=h;exact ⟨by rw [AS];exact a1,a2,a3,vs,el,a4,a5,a6.BV hg⟩
 |map es=>exact h
 |dead=>trivial
theorem xA (k:jR):(zd g k).bM=k.bM:=by cases k<;>rfl
theorem Nv (Er:B7 P rec) {f:FuncId} {args:List PV} {fz:List Nat} {r:nI} {us:List Value}
 (h:tG rec f args aE fz=amn r) (ha:eX im loc args us) (hk:jl im loc aE w r):
 tM P f ⟨us⟩ w fun u w'=> ∃eB bm,VR eB bm r.v u/\sR im loc aE w r eB bm w':=by
 unfold tG at h;have GK:(oK (dC (di aE deep) args)).Nodup:=sX;generalize B5:oK (dC (di aE deep) args)=tk at h GK;split at h
 · cases h
 rename_i a s0 Ez;unfold Wq at Ez;split at Ez
 case isFalse=>cases Ez
 rename_i arX;simp only [aet,UV] at arX;split at Ez
 case h_2=>cases Ez
 rename_i a' s0' hra Ww;simp only [ww,IR] at Ez;obtain ⟨rfl,rfl⟩:=Ez;split at h
 case h_2=>cases h
 rename_i v s hr;unfold Ed at h;split at h
 case isFalse=>cases h
 rename_i Tk;injection h with h;obtain ⟨Ka,Dy⟩:=BW Ww;have hf0:=Ex Tk;have k7:(am8 tk)<=(am8 s):=by
  rcases Nat.eq_zero_or_pos (am8 tk) with h0|h0
  · omega
  obtain ⟨y,hy,_⟩:=hf0 (am8 tk-1) (s0'[am8 tk-1]'(by omega)) (v6 _)
  have:=gE hy;omega
 let Nw:Loc:=fun u=>match tk[u]? with|some t=>loc t|none=>amo
 have EA:Ren tk loc Nw:=fun u t hu=>by simp only [Nw,hu]
 have hC: ∀u li,Nw u=amn li-> ∃t,tk[u]? =amn t/\loc t=amn li:=by
  intro u li hl;simp only [Nw] at hl;split at hl
  · rename_i t ht;exact ⟨t,ht,hl⟩
  cases hl
 have Tl: ∀t k,(t,k)∈r.wr↔ ∃(i:Nat) (b:jR),tk[i]? =amn t/\s[i]? =amn b/\k=zd (j7 tk (am8 aE)) b:=fun t k=>by rw [<- h];exact Ey
 have afB: ∀u t,tk[u]? =amn t->(t∈r.rd\/ ∃b,(t,b)∈r.wr):=fun u t ht=>by
  have:=gE ht
  exact .inr ⟨_,(Tl t _).2 ⟨u,_,ht,v6 (by omega),rfl⟩⟩
 have tL: ∀(u t:Nat) (k:jR),tk[u]? =amn t->s0'[u]? =amn k-> ∃k0:jR,aE[t]? =amn k0/\k.bM=k0.bM:=fun u t k ht hs=>by
  obtain ⟨k0,k',g1,g2,g3⟩:=Dy u t ht;rw [hs] at g3;injection g3 with g3;subst g3;exact ⟨k0,g1,AG g2⟩
 have hSR:SR im Nw s0' [] w:={
  bH:=hk.bH
  df:=fun u li hl=>by
   obtain ⟨t,h1,h2⟩:=hC u li hl;obtain ⟨k,gQ,rR⟩:=hk.tok t (afB u t h1) li h2;obtain ⟨k0,k',g1,g2,g3⟩:=Dy u t h1;rw [gQ] at g1;injection g1 with g1;subst g1;exact ⟨k',g3,Hf EA g2 rR⟩
  iI:=fun t u li lj k k' hl me hs uD Dz arZ hb=>by
   obtain ⟨a1,h1,h2⟩:=hC t li hl;obtain ⟨a2,h3,h4⟩:=hC u lj me;obtain ⟨k0,g1,g2⟩:=tL t a1 k h1 hs;obtain ⟨k0',g1',g2'⟩:=tL u a2 k' h3 uD
   have:=hk.iI a1 a2 li lj k0 k0' (afB t a1 h1) (afB u a2 h3) h2 h4 g1 g1' (by rw [<- g2];exact Dz) (by rw [<- g2'];exact arZ) hb
   subst this;have pw:=afc.1 GK;obtain ⟨l1,e1⟩:=Do.1 h1;obtain ⟨l2,e2⟩:=Do.1 h3;rcases acl t u with h|h|h
   · exact absurd (e1.trans e2.symm) (pw t u l1 l2 h)
   · exact h
   exact absurd (e2.trans e1.symm) (pw u t l2 l1 h)
  free:=fun t li k hl hs Dz _=>by
   obtain ⟨a1,h1,h2⟩:=hC t li hl;obtain ⟨k0,g1,g2⟩:=tL t a1 k h1 hs;have dI:=gE h1;exact hk.free a1 _ ((Tl a1 _).2 ⟨t,_,h1,v6 (by omega),rfl⟩) li k0 h2 g1 (by rw [<- g2];exact Dz)}
 refine (Er f a' s0' [] v s [] hr im Nw w us hSR (sQ EA ha hra)).mono fun u w' ⟨eB,KM,hf⟩=>?_
 let bm:Loc:=fun t=>match loc t with
  |some li=>amn li
  |none=>if (am8 aE)<=t/\t-(am8 aE)<(am8 r.news) then KM (t-(am8 aE)+am8 tk) else amo
 have anl:lZ loc bm:=fun t li hl=>by simp only [bm,hl]
 have GR:(ij (am8 tk) v s=amp/\r.news=[])\/(ij (am8 tk) v s=amq/\r.news=AE (j7 tk (am8 aE)) (s.drop (am8 tk))):=by
  rw [<- h];cases Re:ij (am8 tk) v s with
  |true=>exact .inl ⟨rfl,by simp⟩
  |false=>exact .inr ⟨rfl,by simp⟩
 have anm:ij (am8 tk) v s=amq->am8 r.news=am8 s-(am8 tk):=fun h1=>by
  rcases GR with ⟨h2,_⟩|⟨_,h2⟩
  · rw [h1] at h2;cases h2
  rw [h2];simp [AR]
 have ar0: ∀u li,KM u=amn li->u<(am8 s):=fun u li hl=>let ⟨k,gQ,_⟩:=hf.sr.df u li hl;gE gQ
 have Tm: ∀j li,bm (am8 aE+j)=amn li->j<am8 r.news->KM (am8 tk+j)=amn li:=fun j li hl hj=>by
  simp only [bm,hk.fresh j hj] at hl;rw [pp ⟨by omega,by omega⟩] at hl
  rw [show (am8 aE)+j-(am8 aE)+am8 tk=am8 tk+j by omega] at hl
  exact hl
 have hg: ∀u,(u<am8 tk\/ij (am8 tk) v s=amq)-> ∀li,KM u=amn li->bm (j7 tk (am8 aE) u)=amn li:=by
  intro u WH li hl;unfold j7;split
  · rename_i t ht
    rcases hf.nE u li hl with h1|h1
    · obtain ⟨t',h2,h3⟩:=hC u li h1
      rw [ht] at h2;injection h2 with h2;subst h2;exact anl _ _ h3
    have:=gE ht;omega
  rename_i hn
  have hu:(am8 tk)<=u:=by simpa using hn
  rcases WH with WH|WH
  · omega
  have dI:=ar0 u li hl;have GR:=anm WH;simp only [bm,hk.fresh (u-(am8 tk)) (by omega)]
  rw [pp ⟨by omega,by omega⟩,show (am8 aE)+(u-(am8 tk)) -(am8 aE)+am8 tk=u by omega]
  exact hl
 have Re: ∀u,ij (am8 tk) v s=amp->(u∈iZ sK v\/ ∃i b,i<am8 tk/\s[i]? =amn b/\u∈qS b)->u<(am8 tk):=fun u h1 h2=>by
  unfold ij at h1;have h3:=aet.1 h1 u (by
   rcases h2 with h2|⟨i,b,g1,g2,g3⟩
   · simp [h2]
   refine ae0.2 (.inr (List.mem_flatMap.2 ⟨b,?_,g3⟩))
   exact List.mem_of_getElem? (i:=i) (by rw [List.getElem?_take];simp [g1,g2]))
  simpa using h3
 have hgv: ∀u,u∈iZ sK v-> ∀li,KM u=amn li->bm (j7 tk (am8 aE) u)=amn li:=fun u hu=>hg u (by
  cases hq:ij (am8 tk) v s with
  |true=>exact .inl (Re u hq (.inl hu))
  |false=>exact .inr rfl)
 have hgb: ∀i b,i<am8 tk->s[i]? =amn b-> ∀u,u∈qS b-> ∀li,KM u=amn li->bm (j7 tk (am8 aE) u)=amn li:=fun i b hi hb u hu=>hg u (by
  cases hq:ij (am8 tk) v s with
  |true=>exact .inl (Re u hq (.inr ⟨i,b,hi,hb,hu⟩))
  |false=>exact .inr rfl)
 have hMC: ∀u t li,tk[u]? =amn t->loc t=amn li->KM u=amn li:=fun u t li ht hl=>hf.dV u li (by simp only [Nw,ht];exact hl)
 refine ⟨eB,bm,by rw [<- h];exact hf.vr.BV hgv,?_⟩
 have Tn: ∀(j:Nat) (k:jR),r.news[j]? =amn k-> ∃b,s[am8 tk+j]? =amn b/\k=zd (j7 tk (am8 aE)) b:=fun j k hj=>by
  rcases GR with ⟨_,h0⟩|⟨_,h0⟩
  · rw [h0] at hj;simp at hj
  rw [h0] at hj;simp only [Hk,List.getElem?_drop,F0s] at hj;obtain ⟨b,h1,h2⟩:=hj;exact ⟨b,h1,h2.symm⟩
 have WI: ∀t li,KM t=amn li->am8 tk<=t-> ∀k,s[t]? =amn k->k.bM=amp->w.heap.size<=li.df:=by
  intro t li hl ht k hs Dz;rcases hf.own t li k hl hs Dz with h1|⟨u,lu,ku,h1,h2,h3,h4⟩
  · exact h1
  exfalso
  obtain ⟨a1,g1,g2⟩:=hC u lu h1;obtain ⟨y,y1,y2⟩:=hf0 u ku h2
  have:=hf.sr.iI u t lu li y k (hMC u a1 lu g1 g2) hl y1 hs (by rw [<- y2];exact h3) Dz h4
  subst this
  have:=gE g1;omega
 exact {
  gD:=hf.gD,dV:=anl
  bH:=hf.sr.bH
  dY:=fun b o hb=>by
   rcases hf.dY b o hb with h1|h1|⟨t,li,k,h1,h2,h3,h4⟩
   · exact .inl h1
   · exact .inr (.inl h1)
   exfalso
   obtain ⟨a1,g1,g2⟩:=hC t li h1;obtain ⟨y,y1,y2⟩:=hf0 t k h2
   have:=hf.sr.free t li y (hMC t a1 li g1 g2) y1 (by rw [<- y2];exact h3) rfl
   rw [h4,hb] at this;cases this
  os:=hf.os,tape:=hf.tape,output:=hf.output,size:=hf.size
  frame:=fun b hb hh=>hf.frame b hb fun t li k hl hs Dz=>by
   obtain ⟨a1,g1,g2⟩:=hC t li hl;obtain ⟨k0,e1,e2⟩:=tL t a1 k g1 hs;have dI:=gE g1;exact hh a1 _ li k0 ((Tl a1 _).2 ⟨t,_,g1,v6 (by omega),rfl⟩) g2 e1 (by rw [<- e2];exact Dz)
  Q4:=fun t k hm Dz=>by
   obtain ⟨i,b,g1,g2,rfl⟩:=(Tl t k).1 hm;rw [xA] at Dz;have dI:=gE g1;have e:=v6 (l:=s0') (i:=i) (by omega)
   obtain ⟨y,y1,y2⟩:=hf0 i _ e;rw [g2] at y1;injection y1 with y1;subst y1;obtain ⟨k0,e1,e2⟩:=tL i t _ g1 e;exact ⟨k0,e1,by rw [<- e2,y2];exact Dz⟩
  wr:=fun t k li hm hl=>by
   obtain ⟨i,b,g1,g2,rfl⟩:=(Tl t k).1 hm;obtain ⟨k',gQ,rR⟩:=hf.sr.df i li (hMC i t li g1 hl);rw [g2] at gQ;injection gQ with gQ;subst gQ;exact rR.BV (hgb i b (gE g1) g2)
  kU:=fun t li hl=>by
   simp only [bm] at hl;cases Ka:loc t with
   |some lj=>rw [Ka] at hl;exact .inl hl
   |none=>
    rw [Ka] at hl;dsimp only at hl;split at hl
    · rename_i hn
      exact .inr ⟨hn.1,by omega⟩
    cases hl
  news:=fun j k li hj hl=>by
   have Nn:j<(am8 r.news):=gE hj;obtain ⟨b,hb,rfl⟩:=Tn j k hj;have Ka:=Tm j li hl Nn;obtain ⟨k',gQ,rR⟩:=hf.sr.df _ li Ka;rw [hb] at gQ;injection gQ with gQ;subst gQ;have hq:ij (am8 tk) v s=amq:=by
    rcases GR with ⟨_,h0⟩|⟨h0,_⟩
    · rw [h0] at Nn;simp at Nn
    exact h0
   refine ⟨rR.BV (fun u _=>hg u (.inr hq)),fun Dz=>?_⟩
   rw [xA] at Dz;exact ⟨hf.sr.free _ li b Ka hb Dz rfl,.inl (WI _ li Ka (by omega) b hb Dz)⟩
  distinct:=fun i j ki kj li lj hi hj WG Ri hli hlj hb=>by
   obtain ⟨b1,e1,rfl⟩:=Tn i ki hi;obtain ⟨b2,e2,rfl⟩:=Tn j kj hj;rw [xA] at WG Ri;have h1:=Tm i li hli (gE hi);have h2:=Tm j lj hlj (gE hj)
   have:=hf.sr.iI _ _ li lj b1 b2 h1 h2 e1 e2 WG Ri hb
   omega}
end
end Go.Vm
/- A region's run in the order of the text, step by step; what a block holds when amn of its operations are done. -/
namespace Go.Vm
structure xB (F:mJ) (rec:Task->Option Out) (ops:List bS) (S:Nat->St) (X:Nat->Option XR):Prop where
 steps: ∀(i:Nat) (o:bS),ops[i]? =amn o->
  (wanted o.guard (S i).env=amn amp/\ ∃x,wP F rec (S i).env (S i).aE (S i).fz o.op=amn x/\x.ok (S i).fz=amp/\X i=amn x/\S (i+1)=x.next o.dst (S i))\/
  (wanted o.guard (S i).env=amn amq/\X i=amo/\S (i+1)={S i with env:=iH o.dst .jy (S i).env})
def y7 (x:Option XR) (s:St):Tr:=
 match x with
 |some x=>x.tr (am8 s.aE)
 |none=>Tr.idle
def zg (S:Nat->St) (X:Nat->Option XR) (n:Nat):List Tr:=(List.range n).map fun i=>y7 (X i) (S i)
theorem Nx (S:Nat->St) (X:Nat->Option XR) (n:Nat):zg S X (n+1)=y7 (X 0) (S 0)::zg (fun i=>S (i+1)) (fun i=>X (i+1)) n:=by
 unfold zg;rw [List.range_succ_eq_map];simp [List.map_map,Function.comp_def]
theorem B9 {F:mJ} {rec:Task->Option Out}: ∀(ops:List bS) (st:St) (tr:List Tr) (kH:St) (Rj:List Tr),mf F rec ops st tr=amn (kH,Rj)->
 ∃S X,S 0=st/\S (am8 ops)=kH/\xB F rec ops S X/\Rj=(zg S X (am8 ops)).reverse++tr
 | [],st,tr,kH,Rj,h=>by
  simp only [mf,ww,IR] at h;obtain ⟨rfl,rfl⟩:=h;exact ⟨fun _=>st,fun _=>amo,rfl,rfl,⟨fun i o h=>by simp at h⟩,by simp [zg]⟩
 |o::l,st,tr,kH,Rj,h=>by
  simp only [mf] at h;have mk: ∀(s1:St) (x:Option XR) (t1:Tr),y7 x st=t1->mf F rec l s1 (t1::tr)=amn (kH,Rj)->
   ((wanted o.guard st.env=amn amp/\ ∃y,wP F rec st.env st.aE st.fz o.op=amn y/\y.ok st.fz=amp/\x=amn y/\s1=y.next o.dst st)\/
    (wanted o.guard st.env=amn amq/\x=amo/\s1={st with env:=iH o.dst .jy st.env}))->
   ∃S X,S 0=st/\S (o::l).length=kH/\xB F rec (o::l) S X/\Rj=(zg S X (o::l).length).reverse++tr:=by
   intro s1 x t1 ht he hs;obtain ⟨S,X,h0,hn,cq,htr⟩:=B9 l s1 (t1::tr) kH Rj he;refine ⟨fun i=>match i with|0=>st|i+1=>S i,fun i=>match i with|0=>x|i+1=>X i,rfl,hn,⟨fun i o' ho=>?_⟩,?_⟩
   · cases i with
     |zero=>
      simp at ho;subst ho;rcases hs with ⟨a,y,b,c,d,e⟩|⟨a,b,c⟩
      · exact .inl ⟨a,y,b,c,d,by rw [<- e];exact h0⟩
      exact .inr ⟨a,b,by rw [<- c];exact h0⟩
     |succ i=>exact cq.steps i o' (by simpa using ho)
   rw [List.length_cons,Nx,htr]
   simp [ht]
  cases hw:wanted o.guard st.env with
  |none=>rw [hw] at h;cases h
  |some b=>
   rw [hw] at h;cases b with
   |false=>exact mk _ amo _ rfl h (.inr ⟨hw,rfl,rfl⟩)
   |true=>
    dsimp only at h;cases hx:wP F rec st.env st.aE st.fz o.op with
    |none=>rw [hx] at h;cases h
    |some x=>
     rw [hx] at h;dsimp only at h;split at h
     · rename_i zK
       exact mk _ (amn x) _ rfl h (.inl ⟨hw,x,hx,zK,rfl,rfl⟩)
     cases h
theorem fD: ∀(wr:List (Nat×jR)) (s:cK),(fZ wr s).length=am8 s
 | [],s=>rfl
 |(t,b)::r,s=>by rw [fZ,fD r];simp
theorem tN: ∀(wr:List (Nat×jR)) (s:cK) (t:Nat),(∀k,(t,k)∉wr)->(fZ wr s)[t]? =s[t]?
 | [],s,t,_=>rfl
 |(u,b)::r,s,t,h=>by
  rw [fZ,tN r _ t (fun k hk=>h k (by simp [hk]))]
  have:u≠t:=fun e=>h b (by rw [e];simp)
  rw [afK this]
theorem EB: ∀(wr:List (Nat×jR)) (s:cK),vj wr=amp-> ∀{t:Nat} {k:jR},(t,k)∈wr->t<am8 s->(fZ wr s)[t]? =amn k
 |(u,b)::r,s,hn,t,k,hm,dI=>by
  simp only [vj,ut,aet,UV] at hn;rw [fZ];rcases aeJ.1 hm with h|h
  · injection h with h1 h2
    subst h1 h2;rw [tN r _ t fun k' hk=>by simpa using hn.1 (t,k') hk]
    simp [dI]
  exact EB r _ hn.2 h (by simpa using dI)
section
variable {F : mJ} {rec : Task -> Option Out} {ops : List bS} {S : Nat -> St} {X : Nat -> Option XR}
def W (X:Nat->Option XR) (i t:Nat):Prop:=
 match X i with
 |some (.loc r)=> ∃k,(t,k)∈r.wr
 |some (.shr ..)=>True
 |none=>False
def FR (X:Nat->Option XR) (i t:Nat):Prop:=
 match X i with
 |some (.loc r)=>t∈r.fr
 |some (.shr _ _ z)=>t∈z
 |none=>False
def AT (S:Nat->St) (X:Nat->Option XR) (n:Nat) (done:Nat->Prop) (t:Nat) (k:jR):Prop:=
 ∃m,m<=n/\(∀i,i<n->W X i t->(done i↔i<m))/\(∀c,c<n->(S c).aE.length<=t->t<(S (c+1)).aE.length->c<m)/\(S m).aE[t]? =amn k
theorem Ps {e:Env} {aE:cK} {fz:List Nat} {op:kS} {v:PV} {s:cK} {z:List Nat} (h:wP F rec e aE fz op=amn (.shr v s z)):(am8 aE)<=am8 s/\ ∀t,t∈fz->t∈z:=by
 have key: ∀{f:FuncId} {args:List PV},fO rec f args aE fz=amn (.shr v s z)->am8 aE<=am8 s/\ ∀t,t∈fz->t∈z:=by
  intro f args h;unfold fO at h;split at h
  · split at h
    · rename_i hc
      simp only [ut,aeH,aet] at hc;simp only [ww,XR.shr.injEq] at h;obtain ⟨rfl,rfl,rfl⟩:=h;exact ⟨hc.1,fun t ht=>pq.1 (hc.2 t ht)⟩
    cases h
  cases h
 cases op with
 |call m f args=>
  cases m with
  |Wf=>simp [wP] at h
  |own=>simp [wP] at h
  |shr=>exact key h
  |fp=>simp [wP] at h
 |wN x args=>
  simp only [wP] at h;split at h
  · split at h
    · exact key h
    simp at h
  cases h
 |_=>simp [wP] at h
theorem xB.afC (hr:xB F rec ops S X) {i:Nat} (hi:i<am8 ops):(S i).aE.length<=(S (i+1)).aE.length:=by
 rcases hr.steps i _ (v6 hi) with ⟨_,x,hx,_,_,hn⟩|⟨_,_,hn⟩
 · rw [hn]
   cases x with
   |loc r=>simp [XR.next,qV,fD]
   |shr v s z=>exact (Ps hx).1
 rw [hn];exact If _
theorem xB.iq (hr : xB F rec ops S X) {i j : Nat} (k8 : i <= j) (hj : j <= (am8 ops)) : (S i).aE.length <= (S j).aE.length := by
  induction j with
  | zero => have : i = 0 := by omega
            subst this; exact If _
  | succ j ih =>
    rcases aev k8 with h | h
    · subst h; exact If _
    exact adc (ih (by omega) (by omega)) (hr.afC (by omega))
theorem xB.same (hr:xB F rec ops S X) {i t:Nat} (hi:i<am8 ops) (hw: ¬W X i t) (ht:t<(S i).aE.length):(S (i+1)).aE[t]? =(S i).aE[t]?:=by
 rcases hr.steps i _ (v6 hi) with ⟨_,x,hx,_,hX,hn⟩|⟨_,_,hn⟩
 · rw [hn]
   cases x with
   |loc r=>
    simp only [XR.next,qV]
    rw [EQ (by rw [fD];exact ht)]
    exact tN _ _ _ fun k hk=>hw (by unfold W;rw [hX];exact ⟨k,hk⟩)
   |shr v s z=>exact absurd (by unfold W;rw [hX];trivial) hw
 rw [hn]
theorem xB.yu (hr : xB F rec ops S X) {m m' t : Nat} (hm : m <= m') (B' : m' <= (am8 ops)) (hw : ∀ i, m <= i -> i < m' -> ¬ W X i t) (ht : t < (S m).aE.length) : (S m').aE[t]? = (S m).aE[t]? := by
  induction m' with
  | zero => have : m = 0 := by omega
            subst this; rfl
  | succ j ih =>
    rcases aev hm with h | h
    · subst h; rfl
    rw [hr.same (by omega) (hw j (by omega) (by omega)) (aeD ht (hr.iq (by omega) (by omega)))]
    exact ih (by omega) (by omega) fun i h1 h2 => hw i h1 (by omega)
theorem cO {α:Type} {l:List α} {i:Nat} {x:α} (h:l[i]? =amn x):i<(am8 l):=(Do.1 h).1
theorem AT.unique (hr:xB F rec ops S X) {done:Nat->Prop} {t:Nat} {k k':jR} (h:AT S X (am8 ops) done t k) (h':AT S X (am8 ops) done t k'):k=k':=by
 obtain ⟨m,hm,hw,hc,hs⟩:=h;obtain ⟨m',B',Wl,B2,uD⟩:=h';rcases ajE m m' with h|h
 · have:=hr.yu h B' (fun i h1 h2 hW=>by
    have a:=hw i (by omega) hW
    have b:=Wl i (by omega) hW
    have:=a.1 (b.2 h2);omega) (cO hs)
   rw [hs,uD] at this;exact (afv this).symm
 have:=hr.yu h hm (fun i h1 h2 hW=>by
  have a:=hw i (by omega) hW
  have b:=Wl i (by omega) hW
  have:=b.1 (a.2 h2);omega) (cO uD)
 rw [hs,uD] at this;exact afv this
theorem xB.To (hr:xB F rec ops S X) {i t:Nat} (hi:i<am8 ops) (hd:(ops[i]).dst≠amn t):lk t (S (i+1)).env=lk t (S i).env:=by
 have key: ∀(d:Option Nat) (v:PV) (e:Env),d≠amn t->lk t (iH d v e)=lk t e:=by
  intro d v e h;cases d with
  |none=>rfl
  |some s=>
   simp only [iH];rw [qX,rc (fun e=>h (by rw [e]))]
 rcases hr.steps i _ (v6 hi) with ⟨_,x,hx,_,hX,hn⟩|⟨_,_,hn⟩
 · rw [hn]
   cases x with
   |loc r=>exact key _ _ _ hd
   |shr v s z=>exact key _ _ _ hd
 rw [hn];exact key _ _ _ hd
theorem xB.Ny (hr : xB F rec ops S X) {m m' t : Nat} (hm : m <= m') (B' : m' <= (am8 ops)) (hd : ∀ i (hi : i < (am8 ops)), m <= i -> i < m' -> (ops[i]).dst ≠ amn t) : lk t (S m').env = lk t (S m).env := by
  induction m' with
  | zero => have : m = 0 := by omega
            subst this; rfl
  | succ j ih =>
    rcases aev hm with h | h
    · subst h; rfl
    rw [hr.To (by omega) (hd j (by omega) (by omega) (by omega))]
    exact ih (by omega) (by omega) fun i hi h1 h2 => hd i hi h1 (by omega)
end
end Go.Vm
/- A region: what holds while amn of its operations are done, and that one more keeps it. -/
namespace Go.Vm
def aB (x:bS):List Nat:=(x.op.fj.filterMap fun| .t n=>amn n| .c _=>amo)++(match x.guard with|some (s,_)=>[s]|none=>[])
def uJ (ops:Array Oper):Option (Nat×Bool)->Option (Nat×Bool)->Bool
 |none,amo=>amp
 |some (s,b),amn (j,c)=>b==c&&((ops[j]?).bind (·.dst))==amn s
 |_,_=>amq
def qZ (P:Program) (prims:FuncId->Bool) (nt:Nat) (ops:Array Oper) (x:bS) (o:Oper):Bool:=
 x.dst==o.dst&&(match x.dst with|some d=>aeZ d nt|none=>amp)&&uJ ops x.guard o.guard&&wR P prims o.type x.op o.op
def qR (X:Nat->Option XR) (i:Nat):Prop:= ∃v s z,X i=amn (.shr v s z)
def gR (X:Nat->Option XR) (i:Nat):Prop:=
 match X i with
 |some (.loc r)=>r.rd≠[]\/r.fr≠[]\/r.wr≠[]\/r.news≠[]
 |some (.shr ..)=>True
 |none=>False
def A (X:Nat->Option XR) (i t:Nat):Prop:=
 match X i with
 |some (.loc r)=>t∈r.rd\/t∈r.fr
 |_=>False
structure Ord (ops:List bS) (S:Nat->St) (X:Nat->Option XR) (xa:Nat->Nat->Prop):Prop where
 EC: ∀(i j t:Nat) (x y:bS),i<j->ops[i]? =amn x->ops[j]? =amn y->x.dst=amn t->(t∈aB y\/y.dst=amn t)->xa i j
 Tp: ∀(i j t:Nat) (x y:bS),i<j->ops[i]? =amn x->ops[j]? =amn y->y.dst=amn t->t∈aB x->xa i j
 Nz: ∀i j t,i<j->j<am8 ops->W X i t->(A X j t\/W X j t)->xa i j
 afD: ∀i j t,i<j->j<am8 ops->A X i t->W X j t->xa i j
 afE: ∀i j t,i<j->j<am8 ops-> ¬qR X i->(S i).aE.length<=t->t<(S (i+1)).aE.length-> ¬qR X j->W X j t->xa i j
 Kl: ∀i j,i<j->j<am8 ops->(qR X i/\gR X j\/gR X i/\qR X j)->xa i j
 cl: ∀i t,i<am8 ops-> ¬qR X i->(A X i t\/W X i t)->t<(S i).aE.length\/ ∀c,i<c->c<am8 ops->xa i c
structure Inv (ops:List bS) (S:Nat->St) (X:Nat->Option XR) (im0:Im) (loc0:Loc) (w0:World) (nt:Nat) (done:Nat->Prop) (im:Im) (loc:Loc) (a:Act) (w:World):Prop where
 tm: ∀t,∃m,m<=am8 ops/\(∀i x,ops[i]? =amn x->x.dst=amn t->(done i↔i<m))/\VR im loc (lk t (S m).env) (a.tmps.getD t Go.undef)
 bH: ∀b o,im b=amn o->w.heap[b]? =amn o
 tok: ∀t li,loc t=amn li-> ∃k,AT S X (am8 ops) done t k/\BR im loc w li k
 iI: ∀t u li lj k k',loc t=amn li->loc u=amn lj->AT S X (am8 ops) done t k->AT S X (am8 ops) done u k'->k.bM=amp->k'.bM=amp->li.df=lj.df->t=u
 free: ∀t li k,loc t=amn li->AT S X (am8 ops) done t k->k.bM=amp->t∉(S 0).fz->(∀i,i<am8 ops->done i-> ¬FR X i t)->im li.df=amo
 fresh: ∀i,i<am8 ops-> ¬done i-> ∀t,(S i).aE.length<=t->t<(S (i+1)).aE.length->loc t=amo
 gD:nN im0 im
 dV:lZ loc0 loc
 os:w.os=w0.os
 tape:w.tape=w0.tape
 output:w.output=w0.output
 size:w0.heap.size<=w.heap.size
 frame: ∀b,b<w0.heap.size->(∀t li k,loc0 t=amn li->(S 0).aE[t]? =amn k->k.bM=amp->li.df≠b)->w.heap[b]? =w0.heap[b]?
 dY: ∀b o,im b=amn o->im0 b=amn o\/w0.heap.size<=b\/ ∃t li k,loc0 t=amn li/\(S 0).aE[t]? =amn k/\k.bM=amp/\li.df=b
 nE: ∀t li,loc t=amn li->loc0 t=amn li\/(S 0).aE.length<=t
 own: ∀t li k,loc t=amn li->AT S X (am8 ops) done t k->k.bM=amp->(w0.heap.size<=li.df\/ ∃u lu ku,loc0 u=amn lu/\(S 0).aE[u]? =amn ku/\ku.bM=amp/\lu.df=li.df)
 defers:a.defers=[]
 Nb:a.tmps.size=nt
def plus (done:Nat->Prop) (i:Nat):Nat->Prop:=fun j=>done j\/j=i
section
variable {F : mJ} {rec : Task -> Option Out} {ops : List bS} {S : Nat -> St} {X : Nat -> Option XR} {xa : Nat -> Nat -> Prop} {im0 : Im} {loc0 : Loc} {w0 : World} {nt : Nat}
  {done : Nat -> Prop} {im : Im} {loc : Loc} {a : Act} {w : World} {i : Nat}
structure Place (ops:List bS) (xa:Nat->Nat->Prop) (done:Nat->Prop) (i:Nat):Prop where
 lt:i<am8 ops
 nd: ¬done i
 pre: ∀j,j<am8 ops->xa j i->done j
 eL: ∀k,k<am8 ops->done k-> ∀j,j<am8 ops->xa j k->done j
theorem Place.xC (hp:Place ops xa done i) {k:Nat} (hk:k<am8 ops) (h:xa i k): ¬done k:=fun hd=>hp.nd (hp.eL k hk hd i hp.lt h)
theorem Inv.slot (hr:xB F rec ops S X) (ho:Ord ops S X xa) (hv:Inv ops S X im0 loc0 w0 nt done im loc a w) (hp:Place ops xa done i) {x:bS} (hx:ops[i]? =amn x) {t:Nat} (ht:t∈aB x):
 VR im loc (lk t (S i).env) (a.tmps.getD t Go.undef):=by
 obtain ⟨m,hm,hd,oG⟩:=hv.tm t;have hwr: ∀j y,ops[j]? =amn y->y.dst=amn t->(done j↔j<i):=by
  intro j y hy Pu;rcases acl j i with h|h|h
  · exact ⟨fun _=>h,fun _=>hp.pre j (cO hy) (ho.EC j i t y x h hy hx Pu (.inl ht))⟩
  · subst h;exact ⟨fun hd=>absurd hd hp.nd,fun h=>by omega⟩
  exact ⟨fun KN=>absurd KN (hp.xC (cO hy) (ho.Tp i j t x y h hx hy Pu ht)),fun h'=>by omega⟩
 have same:lk t (S i).env=lk t (S m).env:=by
  rcases ajE m i with h|h
  · refine hr.Ny h (af9 hp.lt) fun j hj h1 h2 sM=>?_
    have a1:=hd j _ (v6 hj) sM;have a2:=hwr j _ (v6 hj) sM
    have:=a1.1 (a2.2 h2);omega
  refine (hr.Ny h hm fun j hj h1 h2 sM=>?_).symm
  have a1:=hd j _ (v6 hj) sM;have a2:=hwr j _ (v6 hj) sM
  have:=a2.1 (a1.2 h2);omega
 rw [same];exact oG
theorem Inv.cur (hr:xB F rec ops S X) (ho:Ord ops S X xa) (hv:Inv ops S X im0 loc0 w0 nt done im loc a w) (hp:Place ops xa done i) {t:Nat} {li:LI} (hl:loc t=amn li)
 (ht:(A X i t\/W X i t)) {k:jR} (hc:AT S X (am8 ops) done t k):(S i).aE[t]? =amn k:=by
 obtain ⟨m,hm,hw,hcr,hs⟩:=hc;have cW:t<(S i).aE.length:=by
  rcases acK t (S i).aE.length with h|h
  · exact h
  exfalso
  have hmi:i<m:=by
   rcases acK i m with h'|h'
   · exact h'
   have:=hr.iq h' (af9 hp.lt);have:=cO hs;omega
  have: ∃c,i<=c/\c<m/\(S c).aE.length<=t/\t<(S (c+1)).aE.length:=by
   have hex: ∀d,i+d<=m->t<(S (i+d)).aE.length-> ∃c,i<=c/\c<i+d/\(S c).aE.length<=t/\t<(S (c+1)).aE.length:=by
    intro d
    induction d with
    |zero=>intro _ h2;exact absurd h2 (by simpa using h)
    |succ d ih=>
     intro h1 h2;rcases acK t (S (i+d)).aE.length with h3|h3
     · obtain ⟨c,c1,c2,c3,c4⟩:=ih (by omega) h3
       exact ⟨c,c1,by omega,c3,c4⟩
     exact ⟨i+d,by omega,by omega,h3,h2⟩
   obtain ⟨c,c1,c2,c3,c4⟩:=hex (m-i) (by omega) (by rw [show i+(m-i)=m by omega];exact cO hs)
   exact ⟨c,c1,by omega,c3,c4⟩
  obtain ⟨c,c1,c2,c3,c4⟩:=this;have hcn:c<(am8 ops):=by omega
  have ar3: ¬done c:=by
   intro hdc;rcases aev c1 with e|e
   · subst e;exact hp.nd hdc
   by_cases hsh:qR X i
   · refine hp.xC hcn (ho.Kl i c e hcn (.inl ⟨hsh,?_⟩)) hdc
     rcases hr.steps c _ (v6 hcn) with ⟨_,x,hx,_,hX,hn⟩|⟨_,_,hn⟩
     · unfold gR;rw [hX]
       cases x with
       |loc r=>
        refine .inr (.inr (.inr fun GV=>?_))
        rw [hn] at c4;simp [XR.next,qV,fD,GV] at c4
        omega
       |shr v s z=>trivial
     rw [hn] at c4;simp at c4;omega
   rcases ho.cl i t hp.lt hsh ht with h'|h'
   · omega
   exact hp.xC hcn (h' c e hcn) hdc
  have:=hv.fresh c hcn ar3 t c3 c4
  rw [hl] at this;cases this
 have hwr: ∀j,j<am8 ops->W X j t->(done j↔j<i):=by
  intro j hj hW;rcases acl j i with h|h|h
  · exact ⟨fun _=>h,fun _=>hp.pre j hj (ho.Nz j i t h hp.lt hW ht)⟩
  · subst h;exact ⟨fun hd=>absurd hd hp.nd,fun h=>by omega⟩
  refine ⟨fun KN=>absurd KN (hp.xC hj ?_),fun h'=>by omega⟩
  rcases ht with ht|ht
  · exact ho.afD i j t h hj ht hW
  exact ho.Nz i j t h hj ht (.inr hW)
 rcases ajE m i with h|h
 · rw [hr.yu h (af9 hp.lt) (fun j h1 h2 hW=>by
    have a1:=hw j (by have:=hp.lt;omega) hW
    have a2:=hwr j (by have:=hp.lt;omega) hW
    have:=a1.1 (a2.2 h2);omega) (cO hs)]
   exact hs
 rw [<- hr.yu h hm (fun j h1 h2 hW=>by
  have a1:=hw j (by omega) hW
  have a2:=hwr j (by omega) hW
  have:=a2.1 (a1.2 h2);omega) cW]
 exact hs
end
end Go.Vm
/- A region: one more operation keeps what holds. -/
namespace Go.Vm
theorem BR.ann {im eB:Im} {loc bm:Loc} {w w':World} {li:LI} {k:jR} (h:BR im loc w li k) (hi:nN im eB) (hl:lZ loc bm)
 (hw:k.bM=amp->w'.heap[li.df]? =w.heap[li.df]?):BR eB bm w' li k:=by
 cases hs:k.bM with
 |true=>exact h.mono hi hl (hw hs)
 |false=>
  cases k with
  |arr e rows=>
   cases rows with
   |nil=>exact ⟨h.1,h.2.1,fun dS=>absurd rfl dS⟩
   |cons _ _=>cases hs
  |box _=>cases hs
  |map _=>cases hs
  |dead=>trivial
section
variable {F : mJ} {rec : Task -> Option Out} {ops : List bS} {S : Nat -> St} {X : Nat -> Option XR} {xa : Nat -> Nat -> Prop} {im0 : Im} {loc0 : Loc} {w0 : World} {nt : Nat}
  {done : Nat -> Prop} {im : Im} {loc : Loc} {a : Act} {w : World} {i : Nat}
theorem xB.ano (hr:xB F rec ops S X) {j:Nat} (hj:j<am8 ops): ∀t,t∈(S j).fz->t∈(S (j+1)).fz:=by
 intro t ht;rcases hr.steps j _ (v6 hj) with ⟨_,x,hx,_,_,hn⟩|⟨_,_,hn⟩
 · rw [hn]
   cases x with
   |loc r=>simp only [XR.next];exact afI _ ht
   |shr v s z=>exact (Ps hx).2 t ht
 rw [hn];exact ht
theorem xB.DR (hr : xB F rec ops S X) {m m' : Nat} (h : m <= m') (hm : m' <= (am8 ops)) : ∀ t, t ∈ (S m).fz -> t ∈ (S m').fz := by
  induction m' with
  | zero => have : m = 0 := by omega
            subst this; exact fun _ h => h
  | succ j ih =>
    rcases aev h with e | e
    · subst e; exact fun _ h => h
    exact fun t ht => hr.ano (by omega) t (ih (by omega) (by omega) t ht)
theorem xB.aeK (hr:xB F rec ops S X) {j:Nat} (hj:j<am8 ops) {t:Nat} (h:FR X j t):t∈(S (j+1)).fz:=by
 rcases hr.steps j _ (v6 hj) with ⟨_,x,hx,_,hX,hn⟩|⟨_,hX,_⟩
 · rw [hn]
   unfold FR at h;rw [hX] at h;cases x with
   |loc r=>exact afO _ h
   |shr v s z=>exact h
 unfold FR at h;rw [hX] at h;exact h.elim
theorem anp {j t:Nat} (h:FR X j t):A X j t\/W X j t:=by
 unfold FR at h;unfold A W;cases hX:X j with
 |none=>rw [hX] at h;exact h.elim
 |some x=>
  rw [hX] at h;cases x with
  |loc r=>exact .inl (.inr h)
  |shr v s z=>exact .inr trivial
theorem Inv.ED (hr:xB F rec ops S X) (ho:Ord ops S X xa) (hp:Place ops xa done i) {t:Nat} (hW:W X i t) (hz:t∉(S i).fz):
 t∉(S 0).fz/\ ∀j,j<am8 ops->done j-> ¬FR X j t:=by
 refine ⟨fun h=>hz (hr.DR (aeu _) (af9 hp.lt) t h),fun j hj hd hf=>?_⟩
 rcases acl j i with h|h|h
 · exact hz (hr.DR h (af9 hp.lt) t (hr.aeK hj hf))
 · subst h;exact hp.nd hd
 exact hp.xC hj (ho.Nz i j t h hj hW (anp hf)) hd
theorem Inv.known (hr:xB F rec ops S X) (ho:Ord ops S X xa) (hv:Inv ops S X im0 loc0 w0 nt done im loc a w) (hp:Place ops xa done i) {r:nI} (hX:X i=amn (.loc r)) (zK:(XR.loc r).ok (S i).fz=amp)
 (hn:(S (i+1)).aE.length=(S i).aE.length+am8 r.news):jl im loc (S i).aE w r where
 bH:=hv.bH
 tok:=fun t ht li hl=>by
  obtain ⟨k,hc,rR⟩:=hv.tok t li hl;refine ⟨k,hv.cur hr ho hp hl ?_ hc,rR⟩;rcases ht with ht|ht
  · exact .inl (by unfold A;rw [hX];exact .inl ht)
  exact .inr (by unfold W;rw [hX];exact ht)
 free:=fun t k hm li k' hl hs lN=>by
  have hW:W X i t:=by unfold W;rw [hX];exact ⟨k,hm⟩
  simp only [XR.ok,ut,aet,UV] at zK;have hz:t∉(S i).fz:=jC.1 (zK.1 (t,k) hm);obtain ⟨h0,h1⟩:=Inv.ED hr ho hp hW hz;obtain ⟨k2,hc,_⟩:=hv.tok t li hl
  have:=hv.cur hr ho hp hl (.inr hW) hc
  rw [hs] at this;injection this with this;subst this;exact hv.free t li k' hl hc lN h0 h1
 fresh:=fun j hj=>hv.fresh i hp.lt hp.nd _ (by omega) (by omega)
 iI:=fun t u li lj k k' ht hu hl me hs uD lN Hl hb=>by
  have aw: ∀t,(t∈r.rd\/ ∃b,(t,b)∈r.wr)->A X i t\/W X i t:=fun t h=>by
   rcases h with h|h
   · exact .inl (by unfold A;rw [hX];exact .inl h)
   exact .inr (by unfold W;rw [hX];exact h)
  obtain ⟨k1,C0,_⟩:=hv.tok t li hl;obtain ⟨k2,En,_⟩:=hv.tok u lj me;have e1:=hv.cur hr ho hp hl (aw t ht) C0;have e2:=hv.cur hr ho hp me (aw u hu) En;rw [hs] at e1;injection e1 with e1;subst e1;rw [uD] at e2;injection e2 with e2;subst e2;exact hv.iI t u li lj _ _ hl me C0 En lN Hl hb
theorem Inv.AU (hr:xB F rec ops S X) (ho:Ord ops S X xa) (hv:Inv ops S X im0 loc0 w0 nt done im loc a w) (hp:Place ops xa done i) {x:bS} (hx:ops[i]? =amn x) {r:nI} (hX:X i=amn (.loc r))
 (zK:(XR.loc r).ok (S i).fz=amp) (hS:S (i+1)=(XR.loc r).next x.dst (S i)) {v':Value} {eB:Im} {bm:Loc} {w':World} (oG:VR eB bm r.v v') (he:sR im loc (S i).aE w r eB bm w')
 (sM: ∀d,x.dst=amn d->d<nt):Inv ops S X im0 loc0 w0 nt (plus done i) eB bm (a.put x.dst v') w':=by
 have cW:(S (i+1)).aE.length=(S i).aE.length+(am8 r.news):=by rw [hS];simp [XR.next,qV,fD]
 have vv:=hp.lt;have AI:vj r.wr=amp:=by simp only [XR.ok,ut] at zK;exact zK.2
 have pY:(S (i+1)).aE=fZ r.wr (S i).aE++r.news:=by rw [hS];exact qV _ _
 have anq: ∀t k,(t,k)∈r.wr->t<(S i).aE.length->(S (i+1)).aE[t]? =amn k:=by
  intro t k hm dI;rw [pY,EQ (by rw [fD];exact dI)]
  exact EB _ _ AI hm dI
 have afF: ∀j k,r.news[j]? =amn k->(S (i+1)).aE[(S i).aE.length+j]? =amn k:=by
  intro j k hj;rw [pY,M2 (by rw [fD];omega),fD,show (S i).aE.length+j- (S i).aE.length=j by omega]
  exact hj
 have wlt: ∀t li,loc t=amn li->W X i t->t<(S i).aE.length:=by
  intro t li hl hW;obtain ⟨k,hc,_⟩:=hv.tok t li hl;exact cO (hv.cur hr ho hp hl (.inr hW) hc)
 have IM: ∀t k li,(t,k)∈r.wr->loc t=amn li->AT S X (am8 ops) (plus done i) t k:=by
  intro t k li hm hl;have hW:W X i t:=by unfold W;rw [hX];exact ⟨k,hm⟩
  have dI:=wlt t li hl hW;refine ⟨i+1,vv,fun j hj Pv=>?_,fun c hc h1 h2=>?_,anq t k hm dI⟩
  · rcases acl j i with h|h|h
    · exact ⟨fun _=>by omega,fun _=> .inl (hp.pre j hj (ho.Nz j i t h vv Pv (.inr hW)))⟩
    · subst h;exact ⟨fun _=>by omega,fun _=> .inr rfl⟩
    refine ⟨fun hd=>?_,fun h'=>by omega⟩
    rcases hd with hd|hd
    · exact absurd hd (hp.xC hj (ho.Nz i j t h hj hW (.inr Pv)))
    omega
  rcases acK c (i+1) with h|h
  · exact h
  have:=hr.iq (show i<=c by omega) (by omega);omega
 have yv: ∀j k,r.news[j]? =amn k->AT S X (am8 ops) (plus done i) ((S i).aE.length+j) k:=by
  intro j k hj;have Nn:=cO hj;refine ⟨i+1,vv,fun q hq hWq=>?_,fun c hc h1 h2=>?_,afF j k hj⟩
  · rcases acl q i with h|h|h
    · refine ⟨fun _=>by omega,fun _=> .inl ?_⟩
      by_cases hs:qR X q
      ·
       refine hp.pre q hq (ho.Kl q i h vv (.inl ⟨hs,?_⟩));unfold gR;rw [hX];exact .inr (.inr (.inr (by intro e;rw [e] at hj;simp at hj)))
      rcases ho.cl q _ hq hs (.inr hWq) with h'|h'
      · have:=hr.iq (show q<=i by omega) (by omega);omega
      exact hp.pre q hq (h' i h vv)
    · subst h;exact ⟨fun _=>by omega,fun _=> .inr rfl⟩
    refine ⟨fun hd=>?_,fun h'=>by omega⟩
    rcases hd with hd|hd
    · exfalso
      by_cases hs:qR X q
      · refine hp.xC hq (ho.Kl i q h hq (.inr ⟨?_,hs⟩)) hd
        unfold gR;rw [hX];exact .inr (.inr (.inr (by intro e;rw [e] at hj;simp at hj)))
      exact hp.xC hq (ho.afE i q _ h hq (by rintro ⟨v,s,z,e⟩;rw [hX] at e;cases e) (by omega) (by omega) hs hWq) hd
    omega
  rcases acK c (i+1) with h|h
  · exact h
  have:=hr.iq (show i+1<=c by omega) (by omega);omega
 have Pw: ∀t k,¬W X i t->AT S X (am8 ops) done t k->AT S X (am8 ops) (plus done i) t k:=by
  intro t k hW hc;obtain ⟨m,hm,h1,h2,h3⟩:=hc;refine ⟨m,hm,fun j hj Pv=>?_,h2,h3⟩
  have dS:j≠i:=fun e=>hW (e▸Pv)
  have:=h1 j hj Pv
  exact ⟨fun hd=>this.1 (hd.resolve_right dS),fun h=> .inl (this.2 h)⟩
 have aq0: ¬qR X i:=by rintro ⟨v,s,z,e⟩;rw [hX] at e;cases e
 have yw: ∀t li,bm t=amn li->(∃j k,t=(S i).aE.length+j/\r.news[j]? =amn k/\loc t=amo)\/loc t=amn li:=by
  intro t li hl;rcases he.kU t li hl with h|⟨h1,h2⟩
  · exact .inr h
  refine .inl ⟨t- (S i).aE.length,r.news[t- (S i).aE.length],by omega,v6 (by omega),?_⟩
  exact hv.fresh i vv hp.nd t h1 (by omega)
 have old: ∀t li k,loc t=amn li->AT S X (am8 ops) (plus done i) t k->k.bM=amp-> ∃k0,AT S X (am8 ops) done t k0/\k0.bM=amp/\BR im loc w li k0/\(¬W X i t->k0=k)/\(W X i t->(t,k)∈r.wr):=by
  intro t li k hl hc hs;obtain ⟨k0,EE,rR⟩:=hv.tok t li hl
  by_cases hW:W X i t
  · have IN:=hW
    unfold W at IN;rw [hX] at IN;obtain ⟨k2,hm⟩:=IN;have e:=(IM t k2 li hm hl).unique hr hc;subst e;obtain ⟨k3,h3,h4⟩:=he.Q4 t k2 hm hs
    have:=hv.cur hr ho hp hl (.inr hW) EE
    rw [h3] at this;injection this with this;subst this;exact ⟨k3,EE,h4,rR,fun h=>absurd hW h,fun _=>hm⟩
  have e:=(Pw t k0 hW EE).unique hr hc
  subst e;exact ⟨k0,EE,hs,rR,fun _=>rfl,fun h=>absurd h hW⟩
 have IP: ∀t k li k0,(t,k)∈r.wr->loc t=amn li->(S i).aE[t]? =amn k0->AT S X (am8 ops) done t k0:=by
  intro t k li k0 hm hl hs;obtain ⟨k1,C0,_⟩:=hv.tok t li hl
  have:=hv.cur hr ho hp hl (.inr (by unfold W;rw [hX];exact ⟨k,hm⟩)) C0
  rw [hs] at this;injection this with this;subst this;exact C0
 have Tq: ∀t li k0,t∈r.fr->loc t=amn li->(S i).aE[t]? =amn k0->AT S X (am8 ops) done t k0:=by
  intro t li k0 hm hl hs;obtain ⟨k1,C0,_⟩:=hv.tok t li hl
  have:=hv.cur hr ho hp hl (.inl (by unfold A;rw [hX];exact .inr hm)) C0
  rw [hs] at this;injection this with this;subst this;exact C0
 refine {
  tm:=fun t=>?_
  bH:=he.bH
  tok:=fun t li hl=>?_
  iI:=fun t u li lj k k' hl me hc B2 hs uD hb=>?_
  free:=fun t li k hl hc hs h0 hf=>?_
  fresh:=fun j hj GK t h1 h2=>?_
  gD:=hv.gD.trans he.gD
  dV:=hv.dV.trans he.dV
  os:=he.os.trans hv.os
  tape:=he.tape.trans hv.tape
  output:=he.output.trans hv.output
  size:=adc hv.size he.size
  frame:=fun b hb hh=>?_
  dY:=fun b o hb=>?_
  nE:=fun t li hl=>?_
  own:=fun t li k hl hc hs=>?_
  defers:=by
   cases hd:x.dst<;>simp [Act.put,hv.defers]
  Nb:=by
   cases hd:x.dst<;>simp [Act.put,hv.Nb]}
 ·
  by_cases hd:x.dst=amn t
  · refine ⟨i+1,vv,fun j y hy Pu=>?_,?_⟩
    · rcases acl j i with h|h|h
      · exact ⟨fun _=>by omega,fun _=> .inl (hp.pre j (cO hy) (ho.EC j i t y x h hy hx Pu (.inr hd)))⟩
      · subst h;exact ⟨fun _=>by omega,fun _=> .inr rfl⟩
      refine ⟨fun KN=>?_,fun h'=>by omega⟩
      rcases KN with KN|KN
      · exact absurd KN (hp.xC (cO hy) (ho.EC i j t x y h hx hy hd (.inr Pu)))
      omega
    rw [hS]
    simp only [XR.next,hd,iH,qX,if_true,Act.put]
    have:=sM t hd
    simp [hv.Nb,this,oG]
  obtain ⟨m,hm,h1,h2⟩:=hv.tm t
  refine ⟨m,hm,fun j y hy Pu=>?_,?_⟩
  · have dS:j≠i:=by intro e;subst e;rw [hx] at hy;injection hy with hy;subst hy;exact hd Pu
    have:=h1 j y hy Pu
    exact ⟨fun KN=>this.1 (KN.resolve_right dS),fun h=> .inl (this.2 h)⟩
  have:=h2.mono he.gD he.dV
  cases hxd:x.dst with
  |none=>simpa [Act.put] using this
  |some d=>
   have dS:d≠t:=fun e=>hd (by rw [hxd,e])
   simpa [Act.put,ae3,dS] using this
 ·
  rcases yw t li hl with ⟨j,k,rfl,hj,_⟩|Rf
  · obtain ⟨h2,_⟩:=he.news j k li hj hl
    exact ⟨k,yv j k hj,h2⟩
  obtain ⟨k0,EE,rR⟩:=hv.tok t li Rf
  by_cases hW:W X i t
  · have IN:=hW
    unfold W at IN;rw [hX] at IN;obtain ⟨k2,hm⟩:=IN;exact ⟨k2,IM t k2 li hm Rf,he.wr t k2 li hm Rf⟩
  refine ⟨k0,Pw t k0 hW EE,rR.ann he.gD he.dV fun hs=>?_⟩
  refine he.frame _ (rR.lt hs) fun t2 k2 l2 k3 hm Kw hs3 lN SM=>?_
  have:=hv.iI t2 t l2 li k3 k0 Kw Rf (IP t2 k2 l2 k3 hm Kw hs3) EE lN hs SM
  subst this;exact hW (by unfold W;rw [hX];exact ⟨k2,hm⟩)
 ·
  have Ts: ∀t u li lj k k',(∃j k,t=(S i).aE.length+j/\r.news[j]? =amn k/\loc t=amo)->loc u=amn lj->bm t=amn li->AT S X (am8 ops) (plus done i) t k->AT S X (am8 ops) (plus done i) u k'->
   k.bM=amp->k'.bM=amp->li.df=lj.df->False:=by
   intro t u li lj k k' hj hlu hl hc B2 hs uD hb;obtain ⟨j,k1,rfl,hj,_⟩:=hj;have e:=(yv j k1 hj).unique hr hc;subst e;obtain ⟨h2,h3⟩:=he.news j k1 li hj hl;obtain ⟨k0,EE,IQ,afG,hk0,hw0⟩:=old u lj k' hlu B2 uD;have dI:=afG.lt IQ;rcases (h3 hs).2 with h|⟨td,lt,kd,hm,hld,hsd,Tt,hbd⟩
   · omega
   have:=hv.iI td u lt lj kd k0 hld hlu (IP td _ lt kd hm hld hsd) EE Tt IQ (by rw [hbd,hb])
   subst this;have Tb:=hw0 (by unfold W;rw [hX];exact ⟨_,hm⟩)
   have e2:=(IM td _ lj hm hlu).unique hr (IM td _ lj Tb hlu);subst e2;cases uD
  rcases yw t li hl with h1|h1
  · rcases yw u lj me with h2|h2
    · obtain ⟨j1,k1,rfl,hj1,_⟩:=h1
      obtain ⟨j2,k2,rfl,hj2,_⟩:=h2;have e1:=(yv j1 k1 hj1).unique hr hc;have e2:=(yv j2 k2 hj2).unique hr B2;subst e1 e2;rw [he.distinct j1 j2 k1 k2 li lj hj1 hj2 hs uD hl me hb]
    exact (Ts t u li lj k k' h1 h2 hl hc B2 hs uD hb).elim
  rcases yw u lj me with h2|h2
  · exact (Ts u t lj li k' k h2 h1 me B2 hc uD hs hb.symm).elim
  obtain ⟨k0,EE,IQ,_⟩:=old t li k h1 hc hs
  obtain ⟨k1,C0,hs1,_⟩:=old u lj k' h2 B2 uD;exact hv.iI t u li lj k0 k1 h1 h2 EE C0 IQ hs1 hb
 ·
  rcases yw t li hl with ⟨j,k1,rfl,hj,_⟩|Rf
  · have e:=(yv j k1 hj).unique hr hc
    subst e;obtain ⟨h2,h3⟩:=he.news j k1 li hj hl;exact (h3 hs).1
  obtain ⟨k0,EE,IQ,afG,_,_⟩:=old t li k Rf hc hs
  have hn:=hv.free t li k0 Rf EE IQ h0 (fun j hj hd=>hf j hj (.inl hd))
  cases hb:eB li.df with
  |none=>rfl
  |some o=>
   rcases he.dY _ _ hb with h|h|⟨t2,l2,k2,h1,h2,h3,h4,h5⟩
   · rw [hn] at h;cases h
   · have:=afG.lt IQ;omega
   have hm:=pq.1 h1
   have:=hv.iI t2 t l2 li k2 k0 h2 Rf (Tq t2 l2 k2 hm h2 h3) EE h4 IQ h5
   subst this;exact absurd (by unfold FR;rw [hX];exact hm) (hf i vv (.inr rfl))
 ·
  have WJ:j≠i:=fun e=>GK (.inr e)
  have afH: ¬done j:=fun h=>GK (.inl h)
  cases hl:bm t with
  |none=>rfl
  |some li=>
   exfalso;rcases he.kU t li hl with h|⟨h3,h4⟩
   · rw [hv.fresh j hj afH t h1 h2] at h;cases h
   rcases ajC WJ with h|h
   · have:=hr.iq (show j+1<=i by omega) (by omega);omega
   have:=hr.iq (show i+1<=j by omega) (by omega);omega
 ·
  have hb2:b<w.heap.size:=aeD hb hv.size;rw [he.frame b hb2 (fun t k li k0 hm hl hs lN SM=>?_)]
  · exact hv.frame b hb hh
  rcases hv.own t li k0 hl (IP t k li k0 hm hl hs) lN with h|⟨u,lu,ku,h1,h2,h3,h4⟩
  · omega
  exact hh u lu ku h1 h2 h3 (by omega)
 · rcases he.dY b o hb with h|h|⟨t,li,k,h1,h2,h3,h4,h5⟩
   · exact hv.dY b o h
   · exact .inr (.inl (adc hv.size h))
   rcases hv.own t li k h2 (Tq t li k (pq.1 h1) h2 h3) h4 with h|⟨u,lu,ku,g1,g2,g3,g4⟩
   · exact .inr (.inl (by omega))
   exact .inr (.inr ⟨u,lu,ku,g1,g2,g3,by omega⟩)
 · rcases he.kU t li hl with h|⟨h,_⟩
   · exact hv.nE t li h
   exact .inr (adc (hr.iq (aeu _) (by omega)) h)
 rcases yw t li hl with ⟨j,k1,rfl,hj,_⟩|Rf
 · have e:=(yv j k1 hj).unique hr hc
   subst e;obtain ⟨h2,h3⟩:=he.news j k1 li hj hl;rcases (h3 hs).2 with h|⟨td,lt,kd,hm,hld,hsd,Tt,hbd⟩
   · exact .inl (adc hv.size h)
   rcases hv.own td lt kd hld (IP td _ lt kd hm hld hsd) Tt with h|⟨u,lu,ku,g1,g2,g3,g4⟩
   · exact .inl (by omega)
   exact .inr ⟨u,lu,ku,g1,g2,g3,by omega⟩
 obtain ⟨k0,EE,IQ,_⟩:=old t li k Rf hc hs
 exact hv.own t li k0 Rf EE IQ
end
end Go.Vm
/- A region: a call that works on the blocks themselves, and a skipped operation. -/
namespace Go.Vm
section
variable {F : mJ} {rec : Task -> Option Out} {ops : List bS} {S : Nat -> St} {X : Nat -> Option XR} {xa : Nat -> Nat -> Prop} {im0 : Im} {loc0 : Loc} {w0 : World} {nt : Nat}
  {done : Nat -> Prop} {im : Im} {loc : Loc} {a : Act} {w : World} {i : Nat}
theorem Hm {v:PV} {s:cK} {z:List Nat} (hX:X i=amn (.shr v s z)) (t:Nat):W X i t:=by unfold W;rw [hX];trivial
theorem vw {j t:Nat} (h:W X j t):gR X j:=by
 unfold W at h;unfold gR;cases hX:X j with
 |none=>rw [hX] at h;exact h.elim
 |some x=>
  rw [hX] at h;cases x with
  |loc r=>
   obtain ⟨k,hk⟩:=h;exact .inr (.inr (.inl (by intro e;rw [e] at hk;cases hk)))
  |shr v s z=>trivial
theorem Inv.sr (hr:xB F rec ops S X) (ho:Ord ops S X xa) (hv:Inv ops S X im0 loc0 w0 nt done im loc a w) (hp:Place ops xa done i) {v:PV} {s:cK} {z:List Nat} (hX:X i=amn (.shr v s z)):
 SR im loc (S i).aE (S i).fz w where
 bH:=hv.bH
 df:=fun t li hl=>by
  obtain ⟨k,hc,hb⟩:=hv.tok t li hl;exact ⟨k,hv.cur hr ho hp hl (.inr (Hm hX t)) hc,hb⟩
 iI:=fun t u li lj k k' hl me hs uD h h' hb=>by
  obtain ⟨k1,C0,_⟩:=hv.tok t li hl;obtain ⟨k2,En,_⟩:=hv.tok u lj me;have e1:=hv.cur hr ho hp hl (.inr (Hm hX t)) C0;have e2:=hv.cur hr ho hp me (.inr (Hm hX u)) En;rw [hs] at e1;injection e1 with e1;subst e1;rw [uD] at e2;injection e2 with e2;subst e2;exact hv.iI t u li lj _ _ hl me C0 En h h' hb
 free:=fun t li k hl hs h hz=>by
  obtain ⟨k1,C0,_⟩:=hv.tok t li hl;have e1:=hv.cur hr ho hp hl (.inr (Hm hX t)) C0;rw [hs] at e1;injection e1 with e1;subst e1;obtain ⟨h0,h1⟩:=Inv.ED hr ho hp (Hm hX t) (jC.1 hz);exact hv.free t li _ hl C0 h h0 h1
theorem Inv.Tu {S:Nat->St} (ho:Ord ops S X xa) (hp:Place ops xa done i) {x:bS} (hx:ops[i]? =amn x) {v:PV} {v':Value} {eB:Im} {bm:Loc}
 (hv:Inv ops S X im0 loc0 w0 nt done im loc a w) (hi:nN im eB) (hl:lZ loc bm) (hS:(S (i+1)).env=iH x.dst v (S i).env) (oG:VR eB bm v v') (sM: ∀d,x.dst=amn d->d<nt):
 ∀t,∃m,m<=am8 ops/\(∀j y,ops[j]? =amn y->y.dst=amn t->(plus done i j↔j<m))/\VR eB bm (lk t (S m).env) ((a.put x.dst v').tmps.getD t Go.undef):=by
 intro t;have vv:=hp.lt
 by_cases hd:x.dst=amn t
 · refine ⟨i+1,vv,fun j y hy Pu=>?_,?_⟩
   · rcases acl j i with h|h|h
     · exact ⟨fun _=>by omega,fun _=> .inl (hp.pre j (cO hy) (ho.EC j i t y x h hy hx Pu (.inr hd)))⟩
     · subst h;exact ⟨fun _=>by omega,fun _=> .inr rfl⟩
     refine ⟨fun KN=>?_,fun h'=>by omega⟩
     rcases KN with KN|KN
     · exact absurd KN (hp.xC (cO hy) (ho.EC i j t x y h hx hy hd (.inr Pu)))
     omega
   rw [hS]
   simp only [hd,iH,qX,if_true,Act.put]
   have:=sM t hd
   simp [hv.Nb,this,oG]
 obtain ⟨m,hm,h1,h2⟩:=hv.tm t
 refine ⟨m,hm,fun j y hy Pu=>?_,?_⟩
 · have dS:j≠i:=by intro e;subst e;rw [hx] at hy;injection hy with hy;subst hy;exact hd Pu
   have:=h1 j y hy Pu
   exact ⟨fun KN=>this.1 (KN.resolve_right dS),fun h=> .inl (this.2 h)⟩
 have:=h2.mono hi hl
 cases hxd:x.dst with
 |none=>simpa [Act.put] using this
 |some d=>
  have dS:d≠t:=fun e=>hd (by rw [hxd,e])
  simpa [Act.put,ae3,dS] using this
theorem put_defers (a:Act) (d:Option Nat) (v:Value):(a.put d v).defers=a.defers:=by cases d<;>rfl
theorem KO (a:Act) (d:Option Nat) (v:Value):(a.put d v).tmps.size=a.tmps.size:=by cases d<;>simp [Act.put]
theorem Inv.Tv (hr:xB F rec ops S X) (ho:Ord ops S X xa) (hv:Inv ops S X im0 loc0 w0 nt done im loc a w) (hp:Place ops xa done i) {x:bS} (hx:ops[i]? =amn x) {v:PV} {s:cK} {z:List Nat}
 (hX:X i=amn (.shr v s z)) (hS:S (i+1)=(XR.shr v s z).next x.dst (S i)) {v':Value} {eB:Im} {bm:Loc} {w':World} (hf:uH im loc (S i).aE w v s z eB bm w' v')
 (sM: ∀d,x.dst=amn d->d<nt):Inv ops S X im0 loc0 w0 nt (plus done i) eB bm (a.put x.dst v') w':=by
 have vv:=hp.lt;have pY:(S (i+1)).aE=s:=by rw [hS];rfl
 have afJ: ∀t li,loc t=amn li-> ∀k,(S i).aE[t]? =amn k->AT S X (am8 ops) done t k:=by
  intro t li hl k hs;obtain ⟨k1,C0,_⟩:=hv.tok t li hl;have e1:=hv.cur hr ho hp hl (.inr (Hm hX t)) C0;rw [hs] at e1;injection e1 with e1;subst e1;exact C0
 have WK: ∀t k,s[t]? =amn k->AT S X (am8 ops) (plus done i) t k:=by
  intro t k hs;refine ⟨i+1,vv,fun j hj Pv=>?_,fun c hc h1 h2=>?_,by rw [pY];exact hs⟩
  · rcases acl j i with h|h|h
    · exact ⟨fun _=>by omega,fun _=> .inl (hp.pre j hj (ho.Kl j i h vv (.inr ⟨vw Pv,⟨v,s,z,hX⟩⟩)))⟩
    · subst h;exact ⟨fun _=>by omega,fun _=> .inr rfl⟩
    refine ⟨fun hd=>?_,fun h'=>by omega⟩
    rcases hd with hd|hd
    · exact absurd hd (hp.xC hj (ho.Kl i j h hj (.inl ⟨⟨v,s,z,hX⟩,vw Pv⟩)))
    omega
  rcases acK c (i+1) with h|h
  · exact h
  have:=hr.iq (show i+1<=c by omega) (by omega)
  have:=cO hs
  rw [pY] at*;omega
 have IS: ∀t li,bm t=amn li-> ∀k,AT S X (am8 ops) (plus done i) t k->s[t]? =amn k:=by
  intro t li hl k hc;obtain ⟨k1,h1,_⟩:=hf.sr.df t li hl
  have:=hc.unique hr (WK t k1 h1)
  subst this;exact h1
 refine {
  tm:=Inv.Tu ho hp hx hv hf.gD hf.dV (by rw [hS];rfl) hf.vr sM
  bH:=hf.sr.bH
  tok:=fun t li hl=>by
   obtain ⟨k,h1,h2⟩:=hf.sr.df t li hl;exact ⟨k,WK t k h1,h2⟩
  iI:=fun t u li lj k k' hl me hc B2 hs uD hb=>hf.sr.iI t u li lj k k' hl me (IS t li hl k hc) (IS u lj me k' B2) hs uD hb
  free:=fun t li k hl hc hs h0 rQ=>by
   refine hf.sr.free t li k hl (IS t li hl k hc) hs (jC.2 ?_)
   have:=rQ i vv (.inr rfl)
   unfold FR at this;rw [hX] at this;exact this
  fresh:=fun j hj GK t h1 h2=>?_
  gD:=hv.gD.trans hf.gD
  dV:=hv.dV.trans hf.dV
  os:=hf.os.trans hv.os
  tape:=hf.tape.trans hv.tape
  output:=hf.output.trans hv.output
  size:=adc hv.size hf.size
  frame:=fun b hb hh=>?_
  dY:=fun b o hb=>?_
  nE:=fun t li hl=>?_
  own:=fun t li k hl hc hs=>?_
  defers:=by rw [put_defers];exact hv.defers
  Nb:=by rw [KO];exact hv.Nb}
 · have WJ:j≠i:=fun e=>GK (.inr e)
   have afH: ¬done j:=fun h=>GK (.inl h)
   cases hl:bm t with
   |none=>rfl
   |some li=>
    exfalso;obtain ⟨k,hk,_⟩:=hf.sr.df t li hl;have dI:=cO hk;rcases hf.nE t li hl with h|h
    · rw [hv.fresh j hj afH t h1 h2] at h;cases h
    rcases ajC WJ with h'|h'
    · have:=hr.iq (show j+1<=i by omega) (by omega);omega
    have:=hr.iq (show i+1<=j by omega) (by omega)
    rw [pY] at this;omega
 · rw [hf.frame b (aeD hb hv.size) fun t li k hl hs lN SM=>?_]
   · exact hv.frame b hb hh
   rcases hv.own t li k hl (afJ t li hl k hs) lN with h|⟨u,lu,ku,g1,g2,g3,g4⟩
   · omega
   exact hh u lu ku g1 g2 g3 (by omega)
 · rcases hf.dY b o hb with h|h|⟨t,li,k,h1,h2,h3,h4⟩
   · exact hv.dY b o h
   · exact .inr (.inl (adc hv.size h))
   rcases hv.own t li k h1 (afJ t li h1 k h2) h3 with h|⟨u,lu,ku,g1,g2,g3,g4⟩
   · exact .inr (.inl (by omega))
   exact .inr (.inr ⟨u,lu,ku,g1,g2,g3,by omega⟩)
 · rcases hf.nE t li hl with h|h
   · exact hv.nE t li h
   exact .inr (adc (hr.iq (aeu _) (by omega)) h)
 rcases hf.own t li k hl (IS t li hl k hc) hs with h|⟨u,lu,ku,h1,h2,h3,h4⟩
 · exact .inl (adc hv.size h)
 rcases hv.own u lu ku h1 (afJ u lu h1 ku h2) h3 with h|⟨u',lu',ku',g1,g2,g3,g4⟩
 · exact .inl (by omega)
 exact .inr ⟨u',lu',ku',g1,g2,g3,by omega⟩
theorem Inv.step_skip (_hr:xB F rec ops S X) (ho:Ord ops S X xa) (hv:Inv ops S X im0 loc0 w0 nt done im loc a w) (hp:Place ops xa done i) {x:bS} (hx:ops[i]? =amn x)
 (hX:X i=amo) (hS:S (i+1)={S i with env:=iH x.dst .jy (S i).env}) (sM: ∀d,x.dst=amn d->d<nt):Inv ops S X im0 loc0 w0 nt (plus done i) im loc (a.put x.dst Go.undef) w:=by
 have vv:=hp.lt;have hnW: ∀t,¬W X i t:=fun t h=>by unfold W at h;rw [hX] at h;exact h
 have pY:(S (i+1)).aE=(S i).aE:=by rw [hS]
 have WK: ∀t k,AT S X (am8 ops) done t k->AT S X (am8 ops) (plus done i) t k:=by
  intro t k ⟨m,hm,h1,h2,h3⟩;refine ⟨m,hm,fun j hj Pv=>?_,h2,h3⟩
  have dS:j≠i:=fun e=>hnW t (e▸Pv)
  have:=h1 j hj Pv
  exact ⟨fun hd=>this.1 (hd.resolve_right dS),fun h=> .inl (this.2 h)⟩
 have IS: ∀t k,AT S X (am8 ops) (plus done i) t k->AT S X (am8 ops) done t k:=by
  intro t k ⟨m,hm,h1,h2,h3⟩;refine ⟨m,hm,fun j hj Pv=>?_,h2,h3⟩
  have dS:j≠i:=fun e=>hnW t (e▸Pv)
  have:=h1 j hj Pv
  exact ⟨fun hd=>this.1 (.inl hd),fun h=>(this.2 h).resolve_right dS⟩
 refine {
  tm:=Inv.Tu ho hp hx hv (.refl _) (.refl _) (by rw [hS]) .jy sM
  bH:=hv.bH
  tok:=fun t li hl=>let ⟨k,h1,h2⟩:=hv.tok t li hl;⟨k,WK t k h1,h2⟩
  iI:=fun t u li lj k k' hl me hc B2 hs uD hb=>hv.iI t u li lj k k' hl me (IS t k hc) (IS u k' B2) hs uD hb
  free:=fun t li k hl hc hs h0 rQ=>hv.free t li k hl (IS t k hc) hs h0 fun j hj hd=>rQ j hj (.inl hd)
  fresh:=fun j hj GK t h1 h2=>hv.fresh j hj (fun h=>GK (.inl h)) t h1 h2
  gD:=hv.gD
  dV:=hv.dV
  os:=hv.os
  tape:=hv.tape
  output:=hv.output
  size:=hv.size
  frame:=hv.frame
  dY:=hv.dY
  nE:=hv.nE
  own:=fun t li k hl hc hs=>hv.own t li k hl (IS t k hc) hs
  defers:=by rw [put_defers];exact hv.defers
  Nb:=by rw [KO];exact hv.Nb}
theorem Inv.start {st:St} (h0:S 0=st) (kB:SR im0 loc0 st.aE st.fz w0) (her:ER im0 loc0 st.env a.tmps) (hd:a.defers=[]) (hn:a.tmps.size=nt) (hr:xB F rec ops S X):
 Inv ops S X im0 loc0 w0 nt (fun _=>False) im0 loc0 a w0:=by
 subst h0;have dI: ∀t li,loc0 t=amn li->t<(S 0).aE.length:=fun t li hl=>let ⟨k,h,_⟩:=kB.df t li hl;cO h
 have cur: ∀t li k,loc0 t=amn li->AT S X (am8 ops) (fun _=>False) t k->(S 0).aE[t]? =amn k:=by
  intro t li k hl ⟨m,hm,h1,h2,h3⟩;rw [<- hr.yu (aeu m) hm (fun j _ hj hW=>(h1 j (by omega) hW).2 hj) (dI t li hl)]
  exact h3
 exact {
  tm:=fun t=>⟨0,aeu _,fun j y _ _=>⟨fun h=>h.elim,fun h=>by omega⟩,her t⟩
  bH:=kB.bH
  tok:=fun t li hl=>by
   obtain ⟨k,h1,h2⟩:=kB.df t li hl;refine ⟨k,⟨0,aeu _,fun j _ _=>⟨fun h=>h.elim,fun h=>by omega⟩,fun c hc h3 h4=>?_,h1⟩,h2⟩
   have:=dI t li hl
   have:=hr.iq (aeu c) (by omega)
   omega
  iI:=fun t u li lj k k' hl me hc B2=>kB.iI t u li lj k k' hl me (cur t li k hl hc) (cur u lj k' me B2)
  free:=fun t li k hl hc hs hz _=>kB.free t li k hl (cur t li k hl hc) hs (jC.2 hz)
  fresh:=fun j hj _ t h1 h2=>by
   cases hl:loc0 t with
   |none=>rfl
   |some li=>
    have:=dI t li hl
    have:=hr.iq (aeu j) (by omega)
    omega
  gD:= .refl _
  dV:= .refl _
  os:=rfl
  tape:=rfl
  output:=rfl
  size:=If _
  frame:=fun _ _ _=>rfl
  dY:=fun _ _ h=> .inl h
  nE:=fun _ _ h=> .inl h
  own:=fun t li k hl hc hs=> .inr ⟨t,li,k,hl,cur t li k hl hc,hs,rfl⟩
  defers:=hd
  Nb:=hn}
structure Kept (im0:Im) (loc0:Loc) (ja:cK) (w0:World) (st:St) (im:Im) (loc:Loc) (w:World):Prop where
 sr:SR im loc st.aE st.fz w
 gD:nN im0 im
 dV:lZ loc0 loc
 os:w.os=w0.os
 tape:w.tape=w0.tape
 output:w.output=w0.output
 size:w0.heap.size<=w.heap.size
 frame: ∀b,b<w0.heap.size->(∀t li k,loc0 t=amn li->ja[t]? =amn k->k.bM=amp->li.df≠b)->w.heap[b]? =w0.heap[b]?
 dY: ∀b o,im b=amn o->im0 b=amn o\/w0.heap.size<=b\/ ∃t li k,loc0 t=amn li/\ja[t]? =amn k/\k.bM=amp/\li.df=b
 nE: ∀t li,loc t=amn li->loc0 t=amn li\/am8 ja<=t
 own: ∀t li k,loc t=amn li->st.aE[t]? =amn k->k.bM=amp->(w0.heap.size<=li.df\/ ∃u lu ku,loc0 u=amn lu/\ja[u]? =amn ku/\ku.bM=amp/\lu.df=li.df)
theorem Inv.finish (hr : xB F rec ops S X) (hv : Inv ops S X im0 loc0 w0 nt done im loc a w) (hd : ∀ j, j < (am8 ops) -> done j) :
    Kept im0 loc0 (S 0).aE w0 (S (am8 ops)) im loc w /\ ER im loc (S (am8 ops)).env a.tmps /\ a.defers = [] /\ a.tmps.size = nt := by
  have cur : ∀ t k, AT S X (am8 ops) done t k -> (S (am8 ops)).aE[t]? = amn k := by
    intro t k ⟨m, hm, h1, h2, h3⟩
    rw [hr.yu hm (If _) (fun j h4 h5 hW => by have := (h1 j h5 hW).1 (hd j h5); omega) (cO h3)]
    exact h3
  have WL : ∀ t li k, loc t = amn li -> (S (am8 ops)).aE[t]? = amn k -> AT S X (am8 ops) done t k := by
    intro t li k hl hs
    obtain ⟨k1, hc, _⟩ := hv.tok t li hl
    have := cur t k1 hc
    rw [hs] at this; injection this with this; subst this; exact hc
  refine ⟨{
    sr := { bH := hv.bH
            df := fun t li hl => let ⟨k, h1, h2⟩ := hv.tok t li hl; ⟨k, cur t k h1, h2⟩
            iI := fun t u li lj k k' hl me hs uD => hv.iI t u li lj k k' hl me (WL t li k hl hs) (WL u lj k' me uD)
            free := fun t li k hl hs lN hz => by
              have hz := jC.1 hz
              refine hv.free t li k hl (WL t li k hl hs) lN (fun h => hz (hr.DR (aeu _) (If _) t h)) fun j hj _ hf => ?_
              exact hz (hr.DR (show j + 1 <= (am8 ops) from hj) (If _) t (hr.aeK hj hf)) }
    gD := hv.gD, dV := hv.dV, os := hv.os, tape := hv.tape, output := hv.output, size := hv.size, frame := hv.frame, dY := hv.dY, nE := hv.nE
    own := fun t li k hl hs => hv.own t li k hl (WL t li k hl hs) }, fun t => ?_, hv.defers, hv.Nb⟩
  obtain ⟨m, hm, h1, h2⟩ := hv.tm t
  rw [hr.Ny hm (If _) fun j hj h3 h4 sM => ?_]
  · exact h2
  have := (h1 j _ (v6 hj) sM).1 (hd j hj); omega
end
end Go.Vm
/- One operation of a region, in the model. -/
namespace Go.Vm
theorem Ca {P:Program} {o:Oper} {a:Act} {w:World} {f:FuncId} {us:Array Value} {R:Value->World->Prop} {next:Act->World->Prop} {Q:Exit->Act->World->Prop}
 (h:(execOp a.eval o).run P w=(callFunc f us).run P w) (hc:tM P f us w R) (hR: ∀v w',R v w'->next (a.put o.dst v) w'):o.wp P a w next Q:=by
 unfold Oper.wp;rw [h];rcases hc with ⟨v,w',h1,h2⟩|⟨h1,h2⟩
 · rw [h1,Oper.upon_value];exact hR v w' h2
 rw [h1,Oper.upon_enter]
 refine h2.mono fun e w' ⟨v,he,hv⟩=>?_
 subst he;exact hR v w' hv
theorem NA {im:Im} {loc:Loc} {e:Env} {a:Act} (x:fy) (h: ∀t,x= .t t->VR im loc (lk t e) (a.tmps.getD t Go.undef)) (o:Operand) (hc:bB x o=amp):VR im loc (x.ev e) (a.eval o):=by
 unfold bB at hc;split at hc
 · rename_i n m
   have:n=m:=by simpa using hc
   subst this;exact h n rfl
 · exact Iy hc
 · rename_i f g
   have:f=g:=by simpa using hc
   subst this;exact .eL f [] [] [] [] .nil .nil
 · exact .undef _
 cases hc
section
variable {P : Program} {F : mJ} {rec : Task -> Option Out} {ops : List bS} {S : Nat -> St} {X : Nat -> Option XR} {xa : Nat -> Nat -> Prop} {im0 : Im} {loc0 : Loc} {w0 : World} {nt : Nat}
  {done : Nat -> Prop} {im : Im} {loc : Loc} {a : Act} {w : World} {i : Nat} {prims : FuncId -> Bool} {iR : Array Oper}
theorem VR.WM {v:Value} (h:VR im loc .jy v):v=Go.undef:=by
 cases h;rfl
theorem vz {r:nI} {d:Option Nat} {st:St}:((XR.loc r).next d st).aE.length=am8 st.aE+(am8 r.news):=by simp [XR.next,qV,fD]
theorem Hn {x:bS} {o:Oper} {e:Env} {b:Bool} (hc:uJ iR x.guard o.guard=amp) (hs: ∀s c,x.guard=amn (s,c)->VR im loc (lk s e) (a.tmps.getD s Go.undef)) (h:wanted x.guard e=amn b):
 Region.wanted o (yielded iR a.tmps)=b:=by
 unfold Region.wanted;cases hg:x.guard with
 |none=>
  rw [hg] at hc h;cases ho:o.guard with
  |none=>simp [wanted] at h;subst h;rfl
  |some q=>rw [ho] at hc;simp [uJ] at hc
 |some q=>
  obtain ⟨s,c⟩:=q;rw [hg] at hc h;cases ho:o.guard with
  |none=>rw [ho] at hc;simp [uJ] at hc
  |some q'=>
   obtain ⟨j,c'⟩:=q';rw [ho] at hc;simp only [uJ,ut,beq_iff_eq] at hc;obtain ⟨rfl,hd⟩:=hc;have hv:=hs s c hg;dsimp only;unfold yielded;rw [hd];simp only [wanted] at h;simp only [Option.bind_some];split at h
   · rename_i b' hl
     rw [hl] at hv
     have:=hv.jB
     have ht:a.tmps[s]? =amn (.bool b'):=by
      simp only [ae5] at this;cases hq:a.tmps[s]? with
      |none=>rw [hq] at this;simp [Go.undef] at this
      |some u=>rw [hq] at this;exact congrArg amn this
     rw [ht];rw [ww] at h;rw [<- h];cases b'<;>cases c<;>rfl
   · rename_i hl
     rw [hl] at hv
     have:a.tmps.getD s Go.undef=Go.undef:=hv.WM
     injection h with h;subst h;have ht: ∀b',a.tmps[s]?≠amn (.bool b'):=by
      intro b' hq;simp only [ae5,hq,Option.getD_some,Go.undef] at this;cases this
     split
     · rename_i b' hq
       exact absurd hq (ht b')
     rfl
   cases h
structure IT (P:Program) (F:mJ) (rec:Task->Option Out):Prop where
 func:B7 P rec
 j0:yt P F
theorem Inv.wpOp (hE:IT P F rec) (hr:xB F rec ops S X) (ho:Ord ops S X xa) (hv:Inv ops S X im0 loc0 w0 nt done im loc a w) (hp:Place ops xa done i) {x:bS} {o:Oper} (hx:ops[i]? =amn x) (hmo:iR[i]? =amn o)
 (hc:qZ P prims nt iR x o=amp) {Q:Exit->Act->World->Prop} {K:Act->World->Prop}
 (hK: ∀eB bm a' w',Inv ops S X im0 loc0 w0 nt (plus done i) eB bm a' w'->K a' w'):Go.wpOp P iR Q i K a w:=by
 unfold qZ at hc;simp only [ut,beq_iff_eq] at hc;obtain ⟨⟨⟨sM,hnt⟩,hg⟩,fv⟩:=hc;have hd: ∀d,x.dst=amn d->d<nt:=by
  intro d h;rw [h] at hnt;simpa using hnt
 have aeL: ∀t,t∈aB x->VR im loc (lk t (S i).env) (a.tmps.getD t Go.undef):=fun t ht=>hv.slot hr ho hp hx ht
 have Rk: ∀y∈x.op.fj,∀o',bB y o'=amp->VR im loc (y.ev (S i).env) (a.eval o'):=by
  intro y hy o' hco;refine NA y (fun t ht=>aeL t ?_) o' hco
  subst ht;exact afO _ (List.mem_filterMap.2 ⟨.t t,hy,rfl⟩)
 have hgs: ∀s c,x.guard=amn (s,c)->VR im loc (lk s (S i).env) (a.tmps.getD s Go.undef):=by
  intro s c h;refine aeL s (afI _ ?_);rw [h];simp
 unfold Go.wpOp;simp only [hmo];rcases hr.steps i x hx with ⟨hw,xr,gK,zK,hX,hS⟩|⟨hw,hX,hS⟩
 · rw [Hn hg hgs hw]
   simp only [if_true];left;have EF: ∀{own:Bool} {f:FuncId} {args:List PV} {us:List Value} {r:nI},xr= .loc r->dv F rec own f args (S i).aE (S i).fz=amn r->eX im loc args us->
    (execOp a.eval o).run P w=(callFunc f ⟨us⟩).run P w->o.wp P a w K Q:=by
    intro own f args us r hxr hcp xf cq;subst hxr;have hk:=hv.known hr ho hp hX zK (by rw [hS];exact vz)
    refine Ca cq (IL hE.func hE.j0 hcp xf hk) fun v' w' ⟨eB,bm,oG,w9⟩=>?_
    exact hK _ _ _ _ (sM▸hv.AU hr ho hp hx hX zK hS oG w9 hd)
   have KP: ∀{f:FuncId} {args:List PV} {us:List Value},fO rec f args (S i).aE (S i).fz=amn xr->eX im loc args us->
    (execOp a.eval o).run P w=(callFunc f ⟨us⟩).run P w->o.wp P a w K Q:=by
    intro f args us mL xf cq;unfold fO at mL;split at mL
    · rename_i v s z Er
      split at mL
      · injection mL with mL;subst mL
        refine Ca cq (hE.func f args _ _ v s z Er im loc w us (hv.sr hr ho hp hX) xf) fun v' w' ⟨eB,bm,hf⟩=>?_
        exact hK _ _ _ _ (sM▸hv.Tv hr ho hp hx hX hS hf hd)
      cases mL
    cases mL
   have afL: ∀{r:nI},xr= .loc r->bF (S i).env (S i).aE (S i).fz x.op=amn r->o.wp P a w K Q:=by
    intro r hxr he;subst hxr;have hk:=hv.known hr ho hp hX zK (by rw [hS];exact vz)
    obtain ⟨nx,w',bm,cq,hnx,w9⟩:=Ta fv Rk he hk;unfold Oper.wp;rw [cq];rcases hnx with ⟨rfl,hu⟩|⟨v,rfl,oG⟩
    · rw [Oper.upon_skip]
      exact hK _ _ _ _ (sM▸hv.AU hr ho hp hx hX zK hS (by rw [hu];exact .undef _) w9 hd)
    rw [Oper.upon_value]
    exact hK _ _ _ _ (sM▸hv.AU hr ho hp hx hX zK hS oG w9 hd)
   cases Wj:x.op with
   |call m f args=>
    rw [Wj] at gK fv Rk;have Tw: ∃as Wk,o.op= .call {callee:= .value (.func f),args:=as,argTypes:=Wk}/\eY args as.toList=amp:=by
     cases SN:o.op with
     |call c=>
      obtain ⟨callee,as,Wk⟩:=c;rw [SN] at fv;cases callee with
      |value g=>
       cases g with
       |func g=>
        simp only [wR,ut,beq_iff_eq] at fv;obtain ⟨⟨rfl,_⟩,h⟩:=fv;exact ⟨as,Wk,rfl,h⟩
       |_=>simp [wR] at fv
      |_=>simp [wR] at fv
     |_=>rw [SN] at fv;simp [wR] at fv
    obtain ⟨as,Wk,SN,hco⟩:=Tw;have uG:eX im loc (D' (S i).env args) (as.toList.map a.eval):=mZ (fun y hy=>Rk y (by simpa [kS.fj] using hy)) hco
    have cq:(execOp a.eval o).run P w=(callFunc f ⟨as.toList.map a.eval⟩).run P w:=by
     have:(⟨as.toList.map a.eval⟩:Array Value)=as.map a.eval:=by apply alZ;simp
     rw [this];simp [execOp,SN,resolve,Act.eval,Deferred.ofValue,invoke]
    cases m with
    |Wf=>
     simp only [wP,F0s] at gK;obtain ⟨r,Px,Py⟩:=gK;exact EF Py.symm Px uG cq
    |own=>
     simp only [wP,F0s] at gK;obtain ⟨r,Px,Py⟩:=gK;exact EF Py.symm Px uG cq
    |shr=>exact KP gK uG cq
    |fp=>
     simp only [wP,F0s] at gK;obtain ⟨r,Px,Py⟩:=gK;subst Py;have hk:=hv.known hr ho hp hX zK (by rw [hS];exact vz)
     refine Ca cq (Nv hE.func Px uG hk) fun v' w' ⟨eB,bm,oG,w9⟩=>?_
     exact hK _ _ _ _ (sM▸hv.AU hr ho hp hx hX zK hS oG w9 hd)
   |wN y args=>
    rw [Wj] at gK fv Rk;have Tw: ∃t as Wk,o.op= .call {callee:= .value (.tmp t),args:=as,argTypes:=Wk}/\bB y (.tmp t)=amp/\eY args as.toList=amp:=by
     cases SN:o.op with
     |call c=>
      obtain ⟨callee,as,Wk⟩:=c;rw [SN] at fv;cases callee with
      |value g=>
       cases g with
       |tmp g=>
        simp only [wR,ut] at fv;exact ⟨g,as,Wk,rfl,fv.1,fv.2⟩
       |_=>simp [wR] at fv
      |_=>simp [wR] at fv
     |_=>rw [SN] at fv;simp [wR] at fv
    obtain ⟨t,as,Wk,SN,hcy,hco⟩:=Tw;have uG:eX im loc (D' (S i).env args) (as.toList.map a.eval):=mZ (fun y hy=>Rk y (by simp [kS.fj,hy])) hco
    have hy:=Rk y (by simp [kS.fj]) (.tmp t) hcy
    simp only [wP] at gK;split at gK
    · rename_i f p q Tx
      rw [Tx] at hy;generalize hgv:a.eval (.tmp t)=gv at hy;cases hy with
      |eL _ _ _ us vs h1 h2=>
      have kW:=(h1.append uG).append h2;have cq:(execOp a.eval o).run P w=(callFunc f ⟨us++as.toList.map a.eval++vs⟩).run P w:=by
       have:(⟨us++as.toList.map a.eval++vs⟩:Array Value)=(⟨us⟩++as.map a.eval)++⟨vs⟩:=by apply alZ;simp
       rw [this];simp [execOp,SN,resolve,hgv,Deferred.ofValue,invoke]
      split at gK
      · exact KP gK kW cq
      rw [F0s] at gK
      obtain ⟨r,Px,Py⟩:=gK;exact EF Py.symm Px kW cq
    cases gK
   |_=>
    rw [Wj] at gK;simp only [wP,F0s] at gK;obtain ⟨r,Px,Py⟩:=gK;exact afL Py.symm (by rw [Wj];exact Px)
 rw [Hn hg hgs hw]
 simp only [PP,if_false];exact hK _ _ _ _ (sM▸hv.step_skip hr ho hp hx hX hS hd)
end
end Go.Vm
/- A region, in the order of the text or in a drawn one. -/
namespace Go.Vm
def uK (P:Program) (prims:FuncId->Bool) (nt:Nat) (iR:Array Oper):List bS->List Oper->Bool
 | [],[]=>amp
 |x::xs,o::os=>qZ P prims nt iR x o&&uK P prims nt iR xs os
 |_,_=>amq
theorem AV {P:Program} {prims:FuncId->Bool} {nt:Nat} {iR:Array Oper}: ∀{xs:List bS} {os:List Oper},uK P prims nt iR xs os=amp->
 (am8 xs)=am8 os/\ ∀(i:Nat) (x:bS) (o:Oper),xs[i]? =amn x->os[i]? =amn o->qZ P prims nt iR x o=amp
 | [],[],_=>⟨rfl,fun i x o h=>by simp at h⟩
 |x::xs,o::os,h=>by
  simp only [uK,ut] at h;obtain ⟨h1,h2⟩:=AV h.2;refine ⟨by simp [h1],fun i y p hy hp=>?_⟩
  cases i with
  |zero=>simp at hy hp;subst hy hp;exact h.1
  |succ i=>exact h2 i y p (by simpa using hy) (by simpa using hp)
 | [],_::_,h=>by simp [uK] at h
 |_::_,[],h=>by simp [uK] at h
def bit (m i:Nat):Bool:=Nat.testBit m i
def m8 (jm:List Nat) (j:Nat):List Edge->Option Nat
 | []=>amn 0
 |e::es=>match m8 jm j es with
  |some m=>if Region.binds .any e then (if aeZ e.on j then amn (m|||((jm.getD e.on 0)|||(1<<<e.on))) else amo) else amn m
  |none=>amo
def uL (jm:List Nat):Nat->List Nat->List Oper->Bool
 |_,[],[]=>amp
 |j,m::ms,o::os=>(match m8 jm j o.after.toList with|some m'=>m==m'|none=>amq)&&uL jm (j+1) ms os
 |_,_,_=>amq
def uM (i : Nat) (x : bS) (ux : List Nat) : List bS -> List Nat -> Bool
  | [], _ => amp
  | y :: ys, m :: ms => (bit m i || ((match x.dst with
      | some d => !has (aB y) d && (match y.dst with | some d' => !(AC d d') | none => amp)
      | none => amp) && (match y.dst with | some d => !has ux d | none => amp))) && uM i x ux ys ms
  | _ :: _, [] => amq
def uN:Nat->List bS->List Nat->Bool
 |_,[],_=>amp
 |i,x::xs,_::ms=>uM i x (aB x) xs ms&&uN (i+1) xs ms
 |_,_::_,[]=>amq
def Cb (P:Program) (prims:FuncId->Bool) (nt:Nat) (draw:Option (List Nat)) (afM:List bS) (iR:Array Oper) (flag:Bool):Bool:=
 uK P prims nt iR afM iR.toList&&match draw with
 |none=>!flag
 |some bf=>flag&&AC (am8 bf) (am8 afM)&&uL bf 0 bf iR.toList&&uN 0 afM bf
section
variable {P : Program} {F : mJ} {rec : Task -> Option Out} {ops : List bS} {S : Nat -> St} {X : Nat -> Option XR} {xa : Nat -> Nat -> Prop} {im0 : Im} {loc0 : Loc} {w0 : World} {nt : Nat}
  {done : Nat -> Prop} {im : Im} {loc : Loc} {a : Act} {w : World} {i : Nat} {prims : FuncId -> Bool} {iR : Array Oper}
theorem Ord.text:Ord ops S X (· < ·) where
 EC:=fun _ _ _ _ _ h _ _ _ _=>h
 Tp:=fun _ _ _ _ _ h _ _ _ _=>h
 Nz:=fun _ _ _ h _ _ _=>h
 afD:=fun _ _ _ h _ _ _=>h
 afE:=fun _ _ _ h _ _ _ _ _ _=>h
 Kl:=fun _ _ h _ _=>h
 cl:=fun _ _ _ _ _=> .inr fun _ h _=>h
theorem EG (hE:IT P F rec) (hr:xB F rec ops S X) (hc: ∀(i:Nat) (x:bS) (o:Oper),ops[i]? =amn x->iR[i]? =amn o->qZ P prims nt iR x o=amp) (cW:(am8 ops)=iR.size)
 {Q:Exit->Act->World->Prop} (hQ: ∀im loc a w,Inv ops S X im0 loc0 w0 nt (fun i=>i<am8 ops) im loc a w->Q .normal a w):
 ∀(d n:Nat) (im:Im) (loc:Loc) (a:Act) (w:World),n+d=am8 ops->Inv ops S X im0 loc0 w0 nt (fun i=>i<n) im loc a w->wpOps P iR Q (List.range' n d) a w
 |0,n,im,loc,a,w,hn,hv=>by
  have:n=(am8 ops):=by omega
  subst this;exact hQ im loc a w hv
 |d+1,n,im,loc,a,w,hn,hv=>by
  rw [List.range'_succ,wpOps_cons];have hx:=v6 (show n<(am8 ops) by omega)
  have ho:=afe (show n<iR.size by omega)
  refine Inv.wpOp hE hr Ord.text hv {lt:=by omega,nd:=by omega,pre:=fun j _ h=>h,eL:=fun k _ h1 j _ h2=>by omega} hx ho (hc n _ _ hx ho) fun eB bm a' w' h'=>?_
  refine EG hE hr hc cW hQ d (n+1) eB bm a' w' (by omega) ?_
  have e:plus (fun i=>i<n) n=fun i=>i<n+1:=by
   funext j;unfold plus;apply propext;omega
  rw [e] at h';exact h'
def WN (jm:List Nat) (i j:Nat):Prop:=bit (jm.getD j 0) i=amp
theorem vA {jm:List Nat} {j:Nat}: ∀{es:List Edge} {m:Nat},m8 jm j es=amn m->(∀e∈es,Region.binds .any e=amp->e.on<j)/\
 ∀i,bit m i=amp-> ∃e∈es,Region.binds .any e=amp/\(e.on=i\/bit (jm.getD e.on 0) i=amp)
 | [],m,h=>by
  simp only [m8,ww] at h;subst h;exact ⟨fun e h=>(by cases h),fun i h=>by simp [bit] at h⟩
 |e::es,m,h=>by
  simp only [m8] at h;split at h
  · rename_i m' B'
    obtain ⟨h1,h2⟩:=vA B';split at h
    · rename_i hb
      split at h
      · rename_i dI
        injection h with h;subst h;refine ⟨fun e' BN Az=>?_,fun i hi=>?_⟩
        · rcases aeJ.1 BN with rfl|BN
          · simpa using dI
          exact h1 e' BN Az
        simp only [bit,Nat.testBit_or,afA] at hi
        rcases hi with hi|hi|hi
        · obtain ⟨e',BN,h3⟩:=h2 i hi
          exact ⟨e',af0 _ BN,h3⟩
        · exact ⟨e,by simp,hb,.inr hi⟩
        refine ⟨e,by simp,hb,.inl ?_⟩
        rw [Nat.one_shiftLeft,Nat.testBit_two_pow] at hi;simpa using hi
      cases h
    rename_i hb
    injection h with h;subst h;refine ⟨fun e' BN Az=>?_,fun i hi=>?_⟩
    · rcases aeJ.1 BN with rfl|BN
      · exact absurd Az hb
      exact h1 e' BN Az
    obtain ⟨e',BN,h3⟩:=h2 i hi
    exact ⟨e',af0 _ BN,h3⟩
  cases h
theorem C3 {jm:List Nat}: ∀{j:Nat} {ms:List Nat} {os:List Oper},uL jm j ms os=amp->am8 ms=am8 os/\
 ∀(k:Nat) (m:Nat) (o:Oper),ms[k]? =amn m->os[k]? =amn o->m8 jm (j+k) o.after.toList=amn m
 |j,[],[],_=>⟨rfl,fun k m o h=>by simp at h⟩
 |j,m::ms,o::os,h=>by
  simp only [uL,ut] at h;obtain ⟨h1,h2⟩:=h;obtain ⟨h3,h4⟩:=C3 h2;refine ⟨by simp [h3],fun k m' o' hm ho=>?_⟩
  cases k with
  |zero=>
   simp at hm ho;subst hm ho;split at h1
   · rename_i m2 Tb
     have:m=m2:=by simpa using h1
     subst this;exact Tb
   cases h1
  |succ k=>
   have:=h4 k m' o' (by simpa using hm) (by simpa using ho)
   rw [show j+(k+1)=j+1+k by omega];exact this
 |j,[],_::_,h=>by simp [uL] at h
 |j,_::_,[],h=>by simp [uL] at h
theorem AW {i:Nat} {x:bS} {ux:List Nat}: ∀{ys:List bS} {ms:List Nat},uM i x ux ys ms=amp-> ∀(k:Nat) (y:bS),ys[k]? =amn y->
 bit (ms.getD k 0) i=amp\/((∀d,x.dst=amn d->d∉aB y/\y.dst≠amn d)/\ ∀d,y.dst=amn d->d∉ux)
 | [],_,_,k,y,h=>by simp at h
 |z::ys,[],h,k,y,hy=>by simp [uM] at h
 |z::ys,m::ms,h,k,y,hy=>by
  simp only [uM,ut,afA] at h;obtain ⟨h1,h2⟩:=h;cases k with
  |succ k=>simpa using AW h2 k y (by simpa using hy)
  |zero=>
   simp at hy;subst hy;rcases h1 with h1|⟨h1,h3⟩
   · exact .inl (by simpa using h1)
   refine .inr ⟨fun d hd=>?_,fun d hd=>?_⟩
   · rw [hd] at h1
     simp only [ut,UV] at h1;refine ⟨jC.1 h1.1,fun hz=>?_⟩
     rw [hz] at h1;simp at h1
   rw [hd] at h3
   simp only [UV] at h3;exact jC.1 h3
theorem xD: ∀{i0:Nat} {xs:List bS} {ms:List Nat},uN i0 xs ms=amp-> ∀(i j:Nat) (x y:bS),i<j->xs[i]? =amn x->xs[j]? =amn y->
 bit (ms.getD j 0) (i0+i)=amp\/((∀d,x.dst=amn d->d∉aB y/\y.dst≠amn d)/\ ∀d,y.dst=amn d->d∉aB x)
 |i0,[],_,_,i,j,x,y,_,hx,_=>by simp at hx
 |i0,z::xs,[],h,i,j,x,y,_,hx,_=>by simp [uN] at h
 |i0,z::xs,m::ms,h,i,j,x,y,k8,hx,hy=>by
  simp only [uN,ut] at h;obtain ⟨h1,h2⟩:=h;cases j with
  |zero=>omega
  |succ j=>
   cases i with
   |zero=>
    simp at hx;subst hx;simpa using AW h1 j y (by simpa using hy)
   |succ i=>
    have:=xD h2 i j x y (by omega) (by simpa using hx) (by simpa using hy)
    rw [show i0+(i+1)=i0+1+i by omega]
    simpa using this
theorem Ho {i:Nat} {t:Tr}: ∀{l:List (Tr×Nat)},It i t l=amp-> ∀(k:Nat) (b:Tr) (m:Nat),l[k]? =amn (b,m)->t.uy b=amp->bit m i=amp
 | [],_,k,b,m,h,_=>by simp at h
 |(b',m')::r,h,k,b,m,hk,hc=>by
  simp only [It,ut,afA,UV] at h;cases k with
  |zero=>
   simp at hk;obtain ⟨rfl,rfl⟩:=hk;rcases h.1 with h1|h1
   · rw [hc] at h1;cases h1
   exact h1
  |succ k=>exact Ho h.2 k b m (by simpa using hk) hc
theorem EH: ∀{i0:Nat} {l:List (Tr×Nat)},qW i0 l=amp->(∀(i:Nat) (t:Tr) (m:Nat),l[i]? =amn (t,m)->t.cl=amp)/\
 ∀(i j:Nat) (t b:Tr) (m m':Nat),i<j->l[i]? =amn (t,m)->l[j]? =amn (b,m')->t.uy b=amp->bit m' (i0+i)=amp
 |_,[],_=>⟨fun i t m h=>by simp at h,fun i j t b m m' _ h=>by simp at h⟩
 |i0,(t0,m0)::r,h=>by
  simp only [qW,ut] at h;obtain ⟨⟨h1,h2⟩,h3⟩:=h;obtain ⟨h4,h5⟩:=EH h3;refine ⟨fun i t m hi=>?_,fun i j t b m m' k8 hi hj hc=>?_⟩
  · cases i with
    |zero=>simp at hi;obtain ⟨rfl,rfl⟩:=hi;exact h1
    |succ i=>exact h4 i t m (by simpa using hi)
  cases j with
  |zero=>omega
  |succ j=>
   cases i with
   |zero=>
    simp at hi;obtain ⟨rfl,rfl⟩:=hi;exact Ho h2 j b m' (by simpa using hj) hc
   |succ i=>
    rw [show i0+(i+1)=i0+1+i by omega]
    exact h5 i j t b m m' (by omega) (by simpa using hi) (by simpa using hj) hc
theorem EI {l m:List Nat} {t:Nat} (h1:t∈l) (h2:t∈m):meets l m=amp:=by
 unfold meets;rw [alt];exact ⟨t,h1,pq.2 h2⟩
theorem Ord.drawn (hr : xB F rec ops S X) {jm : List Nat} (Kb : (am8 jm) = (am8 ops)) (hs : uN 0 ops jm = amp) (ho : qW 0 ((zg S X (am8 ops)).zip jm) = amp) : Ord ops S X (WN jm) := by
  obtain ⟨AA, hcz⟩ := EH ho
  have Dy : ∀ i, i < (am8 ops) -> ((zg S X (am8 ops)).zip jm)[i]? = amn (y7 (X i) (S i), jm.getD i 0) := by
    intro i hi
    rw [List.getElem?_zip_eq_some]
    refine ⟨?_, ?_⟩
    · unfold zg; simp [hi]
    rw [afb, v6 (by omega)]; rfl
  have uy : ∀ i j, i < j -> j < (am8 ops) -> (y7 (X i) (S i)).uy (y7 (X j) (S j)) = amp -> WN jm i j := by
    intro i j k8 hj hc
    have := hcz i j _ _ _ _ k8 (Dy i (by omega)) (Dy j hj) hc
    unfold WN; simpa using this
  have tch : ∀ j, gR X j -> (y7 (X j) (S j)).gR = amp := by
    intro j h
    unfold gR at h
    unfold y7
    cases hX : X j with
    | none => rw [hX] at h; exact h.elim
    | some x =>
      rw [hX] at h
      cases x with
      | shr v s z => rfl
      | loc r =>
        simp only [XR.tr, Tr.gR, Bool.or_false]
        rcases h with h | h | h | h
        · cases GP : r.rd with
          | nil => exact absurd GP h
          | cons _ _ => simp
        · cases GP : r.fr with
          | nil => exact absurd GP h
          | cons _ _ => simp
        · cases GP : r.wr with
          | nil => exact absurd GP h
          | cons _ _ => simp
        cases GP : r.news with
        | nil => exact absurd GP h
        | cons _ _ => simp
  have brr : ∀ j, qR X j -> (y7 (X j) (S j)).Kl = amp := by
    rintro j ⟨v, s, z, h⟩; rw [h]; rfl
  have tW : ∀ j t, W X j t -> gR X j := fun j t h => vw h
  have tA : ∀ j t, A X j t -> gR X j := by
    intro j t h
    unfold A at h; unfold gR
    cases hX : X j with
    | none => rw [hX] at h; exact h.elim
    | some x =>
      rw [hX] at h
      cases x with
      | shr v s z => exact h.elim
      | loc r =>
        rcases h with h | h
        · exact .inl (by intro e; rw [e] at h; cases h)
        exact .inr (.inl (by intro e; rw [e] at h; cases h))
  have Kl : ∀ i j, i < j -> j < (am8 ops) -> (qR X i /\ gR X j \/ gR X i /\ qR X j) -> WN jm i j := by
    intro i j k8 hj h
    refine uy i j k8 hj ?_
    unfold Tr.uy
    rcases h with ⟨h1, h2⟩ | ⟨h1, h2⟩
    · rw [brr i h1, tch j h2]; simp
    rw [brr j h2, tch i h1]; simp
  have wrT : ∀ j t, W X j t -> ¬ qR X j -> t ∈ (y7 (X j) (S j)).wr := by
    intro j t h hn
    unfold W at h
    cases hX : X j with
    | none => rw [hX] at h; exact h.elim
    | some x =>
      rw [hX] at h
      cases x with
      | shr v s z => exact absurd ⟨v, s, z, hX⟩ hn
      | loc r =>
        obtain ⟨k, hk⟩ := h
        exact List.mem_map.2 ⟨(t, k), hk, rfl⟩
  have rdT : ∀ j t, A X j t -> t ∈ (y7 (X j) (S j)).rd := by
    intro j t h
    unfold A at h
    cases hX : X j with
    | none => rw [hX] at h; exact h.elim
    | some x =>
      rw [hX] at h
      cases x with
      | shr v s z => exact h.elim
      | loc r => exact ae0.2 h
  exact {
    EC := fun i j t x y k8 hx hy hd hu => by
      rcases xD hs i j x y k8 hx hy with h | ⟨h, _⟩
      · unfold WN; simpa using h
      rcases hu with hu | hu
      · exact absurd hu (h t hd).1
      exact absurd hu (h t hd).2
    Tp := fun i j t x y k8 hx hy hd hu => by
      rcases xD hs i j x y k8 hx hy with h | ⟨_, h⟩
      · unfold WN; simpa using h
      exact absurd hu (h t hd)
    Nz := fun i j t k8 hj hW hAW => by
      by_cases hi : qR X i
      · exact Kl i j k8 hj (.inl ⟨hi, hAW.elim (tA j t) (tW j t)⟩)
      by_cases Ri : qR X j
      · exact Kl i j k8 hj (.inr ⟨tW i t hW, Ri⟩)
      refine uy i j k8 hj ?_
      unfold Tr.uy
      rcases hAW with h | h
      · rw [EI (wrT i t hW hi) (rdT j t h)]; simp
      rw [EI (wrT i t hW hi) (wrT j t h Ri)]; simp
    afD := fun i j t k8 hj hA hW => by
      by_cases Ri : qR X j
      · exact Kl i j k8 hj (.inr ⟨tA i t hA, Ri⟩)
      refine uy i j k8 hj ?_
      unfold Tr.uy
      rw [EI (rdT i t hA) (wrT j t hW Ri)]; simp
    afE := fun i j t k8 hj WG h1 h2 Ri hW => by
      refine uy i j k8 hj ?_
      unfold Tr.uy
      have : ((y7 (X j) (S j)).wr.any fun t => aem (y7 (X i) (S i)).lo t && aeZ t (y7 (X i) (S i)).hi) = amp := by
        rw [alt]
        refine ⟨t, wrT j t hW Ri, ?_⟩
        rcases hr.steps i _ (v6 (show i < (am8 ops) by omega)) with ⟨_, x, hx, _, hX, hn⟩ | ⟨_, hX, hn⟩
        · cases x with
          | shr v s z => exact absurd ⟨v, s, z, hX⟩ WG
          | loc r =>
            rw [hn, vz] at h2
            rw [hX]
            simp only [y7, XR.tr, ut, aeH]
            exact ⟨h1, by simpa using h2⟩
        rw [hn] at h2; dsimp only at h2; omega
      rw [this]; simp
    Kl := Kl
    cl := fun i t hi WG hAW => by
      left
      have hc := AA i _ _ (Dy i hi)
      cases hX : X i with
      | none => rcases hAW with h | h
                · unfold A at h; rw [hX] at h; exact h.elim
                unfold W at h; rw [hX] at h; exact h.elim
      | some x =>
        cases x with
        | shr v s z => exact absurd ⟨v, s, z, hX⟩ WG
        | loc r =>
          have hb : ∀ u v : Nat, aeZ u v = amp -> u < v := fun u v h => by simpa using h
          rw [hX] at hc
          simp only [y7, XR.tr, ut, aet] at hc
          rcases hAW with h | h
          · unfold A at h; rw [hX] at h
            exact hb _ _ (hc.1 t (ae0.2 h))
          unfold W at h; rw [hX] at h
          obtain ⟨k, hk⟩ := h
          exact hb _ _ (hc.2 (t, k) hk) }
end
end Go.Vm
/- A region: the theorem. -/
namespace Go.Vm
section
variable {P : Program} {F : mJ} {rec : Task -> Option Out} {ops : List bS} {S : Nat -> St} {X : Nat -> Option XR} {im0 : Im} {loc0 : Loc} {w0 : World} {nt : Nat}
  {im : Im} {loc : Loc} {a : Act} {w : World} {i : Nat} {prims : FuncId -> Bool} {iR : Array Oper} {jm : List Nat}
def j8 (l:Array Bool) (i:Nat):Prop:=l.getD i amq=amp
theorem KQ (hE:IT P F rec) (hr:xB F rec ops S X) (ho:Ord ops S X (WN jm)) (hc: ∀(i:Nat) (x:bS) (o:Oper),ops[i]? =amn x->iR[i]? =amn o->qZ P prims nt iR x o=amp) (cW:(am8 ops)=iR.size)
 (hm: ∀(k:Nat) (o:Oper),iR[k]? =amn o->m8 jm k o.after.toList=amn (jm.getD k 0))
 {Q:Exit->Act->World->Prop} (hQ: ∀im loc a w (done:Nat->Prop),(∀i,i<am8 ops->done i)->Inv ops S X im0 loc0 w0 nt done im loc a w->Q .normal a w):
 ∀(zV:Nat) (l:Array Bool) (im:Im) (loc:Loc) (a:Act) (w:World),l.size=am8 ops->zV+l.toList.count amp=am8 ops->(∀k j,j8 l k->WN jm j k->j8 l j)->
  Inv ops S X im0 loc0 w0 nt (j8 l) im loc a w->wpAny P .any iR Q zV l a w:=by
 have full: ∀l:Array Bool,l.size=am8 ops->Region.ready .any iR l=[]-> ∀i,i<am8 ops->j8 l i:=by
  intro l hl GV i
  induction i using Nat.strongRecOn with
  |_ i ih=>
   intro hi
   by_cases h:j8 l i
   · exact h
   exfalso
   have y6:i∈Region.ready .any iR l:=by
    rw [mem_ready];have ho:=afe (show i<iR.size by omega)
    refine ⟨?_,_,ho,fun e he hb=>?_⟩
    · unfold j8 at h
      have dI:i<l.size:=by omega
      simp [dI] at h ⊢;exact h
    have:=(vA (hm i _ ho)).1 e (by simpa using he) hb
    exact ih e.on this (by omega)
   rw [GV] at y6;cases y6
 intro zV
 induction zV with
 |zero=>
  intro l im loc a w hl anx WQ hv;have qY: ∀b∈l.toList,amp=b:=by
   have:l.toList.count amp=(am8 l.toList):=by simp only [Array.length_toList];omega
   exact List.count_eq_length.1 this
  have Pz: ∀i,i<am8 ops->j8 l i:=by
   intro i hi;have dI:i<l.size:=by omega
   have:=qY (l[i]) (by simp)
   unfold j8;simp [dI,<- this]
  refine ⟨?_,hQ im loc a w _ Pz hv⟩;cases GP:Region.ready .any iR l with
  |nil=>rfl
  |cons x xs=>
   exfalso;have y6:x∈Region.ready .any iR l:=by rw [GP];simp
   obtain ⟨h0,o,hox,_⟩:=mem_ready.1 y6;have dI:=(NE.1 hox).1
   have:=Pz x (by omega)
   unfold j8 at this;have KR:x<l.size:=by omega
   simp [KR] at this h0;rw [this] at h0;cases h0
 |succ zV ih=>
  intro l im loc a w hl anx WQ hv;refine ⟨fun GV=>hQ im loc a w _ (full l hl GV) hv,fun i hi=>?_⟩
  obtain ⟨h0,o,hox,qY⟩:=mem_ready.1 hi;have dI:=(NE.1 hox).1;have KR:i<l.size:=by omega
  have hx:=v6 (show i<(am8 ops) by omega)
  have anz: ∀j,WN jm j i->j8 l j:=by
   intro j hj;obtain ⟨e,he,hb,h⟩:=(vA (hm i o hox)).2 j hj;have k7:j8 l e.on:=qY e (by simpa using he) hb
   rcases h with rfl|h
   · exact k7
   exact WQ _ _ k7 h
  have GK: ¬j8 l i:=by
   unfold j8;simp [KR] at h0 ⊢;exact h0
  refine Inv.wpOp hE hr ho hv {lt:=by omega,nd:=GK,pre:=fun j _ h=>anz j h,eL:=fun k _ h1 j _ h2=>WQ k j h1 h2} hx hox (hc i _ _ hx hox) fun eB bm a' w' h'=>?_
  have e:plus (j8 l) i=j8 (l.setIfInBounds i amp):=by
   funext j
   apply propext;unfold plus j8
   by_cases k8:i=j
   · subst k8;simp [KR]
   simp only [getD_set_ne amq k8]
   exact ⟨fun h=>h.elim id fun h=>absurd h.symm k8,.inl⟩
  rw [e] at h';refine ih _ eB bm a' w' (by simpa using hl) ?_ ?_ h'
  · rw [Array.toList_setIfInBounds,List.count_set (by simpa using KR)]
    have:l.toList[i]=amq:=by simp [KR] at h0;simpa using h0
    rw [this];simp only [Array.count_toList] at anx ⊢;simp;omega
  intro k j hk hj
  rw [<- e] at hk ⊢;rcases hk with hk|rfl
  · exact .inl (WQ k j hk hj)
  exact .inl (anz j hj)
theorem ER.fN {st:Env} {fN:List Nat} (h:ER im loc st a.tmps):ER im loc (fN.map fun s=>(s,lk s st)) a.tmps:=by
 intro t
 have:lk t (fN.map fun s=>(s,lk s st))=lk t st\/lk t (fN.map fun s=>(s,lk s st))= .undef:=by
  induction fN with
  |nil=>exact .inr rfl
  |cons s r ih=>
   simp only [List.map_cons,qX];split
   · rename_i e;subst e;exact .inl rfl
   exact ih
 rcases this with h'|h'
 · rw [h'];exact h t
 rw [h'];exact .undef _
structure wT (im:Im) (loc:Loc) (nt:Nat) (st:St) (a:Act):Prop where
 env:ER im loc st.env a.tmps
 defers:a.defers=[]
 Nb:a.tmps.size=nt
theorem Kept.world {ja : cK} {st : St} {w1 : World} (h : Kept im0 loc0 ja w1 st im loc w) (hh : w1.heap = w0.heap) (ho : w1.os = w0.os) (ht : w1.tape = w0.tape) (hp : w1.output = w0.output) : Kept im0 loc0 ja w0 st im loc w :=
  { sr := h.sr, gD := h.gD, dV := h.dV, os := h.os.trans ho, tape := h.tape.trans ht, output := h.output.trans hp, size := by have := h.size; rw [hh] at this; exact this
    frame := by have := h.frame; rw [hh] at this; exact this
    dY := by have := h.dY; rw [hh] at this; exact this
    nE := h.nE
    own := by have := h.own; rw [hh] at this; exact this }
theorem SR.world {aE:cK} {fz:List Nat} {w1:World} (h:SR im loc aE fz w) (hh:w1.heap=w.heap):SR im loc aE fz w1 where
 bH:=by rw [hh];exact h.bH
 df:=fun t li hl=>let ⟨k,h1,h2⟩:=h.df t li hl;⟨k,h1,h2.mono (.refl _) (.refl _) (by rw [hh])⟩
 iI:=h.iI
 free:=h.free
theorem NB (hE:IT P F rec) (pZ:P.follows .mixedOrders=amp) {draw:Option (List Nat)} {fN:List Nat} {id:Nat} {flag:Bool} {st kH:St}
 (hc:Cb P prims nt draw ops iR flag=amp) (gK:k9 F rec draw ops fN st=amn kH) (kB:SR im0 loc0 st.aE st.fz w0) (ha:wT im0 loc0 nt st a) {Q:Exit->Act->World->Prop}
 (hQ: ∀im loc a' w',Kept im0 loc0 st.aE w0 kH im loc w'->wT im loc nt kH a'->Q .normal a' w'):(Code.region id iR flag).wp P Q a w0:=by
 unfold Cb at hc;simp only [ut] at hc;obtain ⟨Rl,hd⟩:=hc;obtain ⟨cW,WR⟩:=AV Rl;have cW:(am8 ops)=iR.size:=by simpa using cW
 have WR: ∀(i:Nat) (x:bS) (o:Oper),ops[i]? =amn x->iR[i]? =amn o->qZ P prims nt iR x o=amp:=fun i x o hx ho=>WR i x o hx (by simpa using ho)
 unfold k9 at gK;cases he:mf F rec ops st [] with
 |none=>rw [he] at gK;cases gK
 |some q=>
  obtain ⟨nL,tr⟩:=q;rw [he] at gK;dsimp only at gK;obtain ⟨S,X,h0,hn,hr,htr⟩:=B9 ops st [] nL tr he;have fin: ∀(w1:World),w1.heap=w0.heap->w1.os=w0.os->w1.tape=w0.tape->w1.output=w0.output->kH={nL with env:=fN.map fun s=>(s,lk s nL.env)}-> ∀im loc a' w' (done:Nat->Prop),(∀i,i<am8 ops->done i)->
   Inv ops S X im0 loc0 w1 nt done im loc a' w'->Q .normal a' w':=by
   intro w1 q1 q2 q3 q4 ck im loc a' w' done hdn hv;obtain ⟨hk,her,hdf,hns⟩:=hv.finish hr hdn;rw [hn] at hk her;rw [h0] at hk;subst ck;have hk:=hk.world q1 q2 q3 q4;exact hQ im loc a' w' {sr:=hk.sr,gD:=hk.gD,dV:=hk.dV,os:=hk.os,tape:=hk.tape,output:=hk.output,size:=hk.size,frame:=hk.frame,dY:=hk.dY,nE:=hk.nE,own:=hk.own} ⟨her.fN,hdf,hns⟩
  cases draw with
  |none=>
   dsimp only at hd gK
   have:flag=amq:=by simpa using hd
   subst this;injection gK with gK;refine wp_region ?_;rw [List.range_eq_range'];refine EG hE hr WR cW (fun im loc a w hv=>fin w0 rfl rfl rfl rfl gK.symm im loc a w _ (fun i h=>h) hv) iR.size 0 im0 loc0 a w0 (by omega) ?_
   have:=Inv.start (ops:=ops) (X:=X) (w0:=w0) h0 kB ha.env ha.defers ha.Nb hr
   have e:(fun _:Nat=>False)=fun i=>i<0:=by funext i;apply propext;exact ⟨fun h=>h.elim,fun h=>by omega⟩
   rw [e] at this;exact this
  |some bf=>
   dsimp only at hd gK;simp only [ut] at hd;obtain ⟨⟨⟨rfl,hbl⟩,hmk⟩,Wi⟩:=hd;have hbl:(am8 bf)=(am8 ops):=by simpa using hbl
   split at gK
   · rename_i SN
     injection gK with gK;have asb:tr.reverse=zg S X (am8 ops):=by rw [htr];simp
     rw [asb] at SN;obtain ⟨_,hmk⟩:=C3 hmk;refine wp_region_any pZ ?_;refine KQ (w0:={w0 with drawn:=w0.drawn+1}) (im0:=im0) (loc0:=loc0) hE hr (Ord.drawn hr hbl Wi SN) WR cW ?_ (fun im loc a w done hdn hv=>fin {w0 with drawn:=w0.drawn+1} rfl rfl rfl rfl gK.symm im loc a w done hdn hv) iR.size _ im0 loc0 a _ (by simp [cW]) ?_ ?_ ?_
     · intro k o ho
       have dI:=(NE.1 ho).1;have hk:bf[k]? =amn (bf.getD k 0):=by
        rw [afb,v6 (by omega)];rfl
       simpa using hmk k _ o hk (by simpa using ho)
     · simp [cW,List.count_replicate]
     · intro k j h
       unfold j8 at h
       by_cases hk:k<iR.size<;>simp [hk] at h
     have:=Inv.start (ops:=ops) (X:=X) (w0:={w0 with drawn:=w0.drawn+1}) h0 (kB.world rfl) ha.env ha.defers ha.Nb hr
     have e:(fun _:Nat=>False)=j8 (aeC iR.size amq):=by
      funext i;apply propext
      unfold j8
      by_cases hk:i<iR.size<;>simp [hk]
     rw [e] at this;exact this
   cases gK
end
end Go.Vm
/- What a function keeps from its beginning on; the head of a loop. -/
namespace Go.Vm
theorem Kept.trans {im0 DP DQ:Im} {loc0 dj qF:Loc} {ja:cK} {w0 w1 w2:World} {nL Dw:St} (h1:Kept im0 loc0 ja w0 nL DP dj w1) (h2:Kept DP dj nL.aE w1 Dw DQ qF w2) (hl:(am8 ja)<=am8 nL.aE):
 Kept im0 loc0 ja w0 Dw DQ qF w2 where
 sr:=h2.sr
 gD:=h1.gD.trans h2.gD
 dV:=h1.dV.trans h2.dV
 os:=h2.os.trans h1.os
 tape:=h2.tape.trans h1.tape
 output:=h2.output.trans h1.output
 size:=adc h1.size h2.size
 frame:=fun b hb hh=>by
  rw [h2.frame b (aeD hb h1.size) fun t li k hl hs lN SM=>?_]
  · exact h1.frame b hb hh
  rcases h1.own t li k hl hs lN with h|⟨u,lu,ku,g1,g2,g3,g4⟩
  · omega
  exact hh u lu ku g1 g2 g3 (by omega)
 dY:=fun b o hb=>by
  rcases h2.dY b o hb with h|h|⟨t,li,k,g1,g2,g3,g4⟩
  · exact h1.dY b o h
  · exact .inr (.inl (adc h1.size h))
  rcases h1.own t li k g1 g2 g3 with h|⟨u,lu,ku,k1,k2,k3,k4⟩
  · exact .inr (.inl (by omega))
  exact .inr (.inr ⟨u,lu,ku,k1,k2,k3,by omega⟩)
 nE:=fun t li h=>by
  rcases h2.nE t li h with h|h
  · exact h1.nE t li h
  exact .inr (adc hl h)
 own:=fun t li k hl hs lN=>by
  rcases h2.own t li k hl hs lN with h|⟨u,lu,ku,g1,g2,g3,g4⟩
  · exact .inl (adc h1.size h)
  rcases h1.own u lu ku g1 g2 g3 with h|⟨u',lu',ku',k1,k2,k3,k4⟩
  · exact .inl (by omega)
  exact .inr ⟨u',lu',ku',k1,k2,k3,by omega⟩
structure zh (im0:Im) (loc0:Loc) (ja:cK) (w0:World) (st:St) (im:Im) (loc:Loc) (w:World):Prop where
 kept:Kept im0 loc0 ja w0 st im loc w
 kn:st.kn=am8 ja
 len:(am8 ja)<=am8 st.aE
 dom: ∀t li,loc0 t=amn li->t<am8 ja
theorem EJ {F:mJ} {rec:Task->Option Out}: ∀(ops:List bS) (st:St) (tr:List Tr) (kH:St) (Rj:List Tr),mf F rec ops st tr=amn (kH,Rj)->kH.kn=st.kn
 | [],st,tr,kH,Rj,h=>by simp only [mf,ww,IR] at h;rw [h.1]
 |o::l,st,tr,kH,Rj,h=>by
  simp only [mf] at h;split at h
  · split at h
    · rename_i x hx
      split at h
      · have:=EJ l _ _ kH Rj h
        rw [this];cases x<;>rfl
      cases h
    cases h
  · have:=EJ l _ _ kH Rj h
    exact this
  cases h
theorem IU {F:mJ} {rec:Task->Option Out} {draw:Option (List Nat)} {ops:List bS} {fN:List Nat} {st kH:St} (h:k9 F rec draw ops fN st=amn kH):kH.kn=st.kn/\am8 st.aE<=(am8 kH.aE):=by
 unfold k9 at h;cases he:mf F rec ops st [] with
 |none=>rw [he] at h;cases h
 |some q=>
  obtain ⟨nL,tr⟩:=q;rw [he] at h;dsimp only at h;obtain ⟨S,X,h0,hn,hr,_⟩:=B9 ops st [] nL tr he;have h1:=EJ ops st [] nL tr he;have h2:=hr.iq (aeu (am8 ops)) (If _);rw [h0,hn] at h2;cases draw with
  |none=>dsimp only at h;injection h with h;subst h;exact ⟨h1,h2⟩
  |some bf=>
   dsimp only at h;split at h
   · injection h with h;subst h;exact ⟨h1,h2⟩
   cases h
section
variable {im : Im} {loc dj : Loc} {m : List Nat}
theorem KS {fz:List Nat}: ∀{l:List Nat} {i0 u t:Nat},l[u]? =amn t->(i0+u)∉xk fz i0 l->t∉fz
 | [],i0,u,t,h,_=>by simp at h
 |s::r,i0,u,t,h,hn=>by
  simp only [xk] at hn;cases u with
  |zero=>
   simp at h;subst h;intro hf;rw [pp (pq.2 hf)] at hn;exact hn (by simp)
  |succ u=>
   refine KS (l:=r) (i0:=i0+1) (u:=u) (by simpa using h) fun y6=>?_
   rw [show i0+(u+1)=i0+1+u by omega] at hn
   split at hn
   · exact hn (af0 _ y6)
   exact hn y6
theorem EK {aE:cK}: ∀{n:Nat} {ts seen:List Nat} {m:List Nat},reach aE n ts seen=amn m->(∃l,m=seen++l)/\(seen.Nodup->m.Nodup)
 |_,[],seen,m,h=>by
  have h:amn seen=amn m:=by rw [<- h];unfold reach;cases ‹Nat› <;>rfl
  injection h with h;subst h;exact ⟨⟨[],by simp⟩,id⟩
 |0,_::_,seen,m,h=>by simp [reach] at h
 |n+1,t::ts,seen,m,h=>by
  simp only [reach] at h;split at h
  · exact EK h
  rename_i hn
  split at h
  · obtain ⟨⟨l,hl⟩,h2⟩:=EK h
    refine ⟨⟨t::l,by rw [hl];simp⟩,fun hd=>h2 ?_⟩
    rw [al2];refine ⟨hd,by simp,fun a ha b hb=>?_⟩
    have:b=t:=by simpa using hb
    subst this;intro e;subst e;exact hn (pq.2 ha)
  cases h
theorem KT: ∀{n i:Nat},i<n->(uw n)[i]? =amn i
 |n+1,i,h=>by
  have hl: ∀n,(uw n).length=n:=by
   intro n;induction n with
   |zero=>rfl
   |succ n ih=>simp [uw,ih]
  simp only [uw];rcases acK i n with h'|h'
  · rw [EQ (by rw [hl];exact h')];exact KT h'
  rw [M2 (by rw [hl];exact h'),hl]
  have:i=n:=by omega
  subst this;simp
theorem KU: ∀{n i:Nat},i∈uw n->i<n
 |n+1,i,h=>by
  simp only [uw,ae0,aew] at h;rcases h with h|h
  · have:=KU h;omega
  omega
theorem EL: ∀n,(uw n).Nodup
 |0=>by simp [uw]
 |n+1=>by
  simp only [uw];rw [al2];refine ⟨EL n,by simp,fun a ha b hb=>?_⟩
  have:=KU ha
  have:b=n:=by simpa using hb
  omega
end
end Go.Vm
/- The head of a loop. -/
namespace Go.Vm
def Rm (s2:cK):Prop:= ∀(j:Nat) (k:jR),s2[j]? =amn k-> ∃e,k= .arr e []
theorem VR.Hd {im:Im} {loc:Loc} {x:PV} {u:Value} (h:VR im loc x u): ∀k:Option Nat,VR im loc (Hd k x) u
 |none=>h
 |some _=>by
  cases h with
  |own t esz off len cap ex li a cY hl he hn hc hx hk h=>exact .own t esz off len cap amq li a cY hl he hn hc hx (fun h=>by cases h) h
  |undef=>exact .undef _
  |jy=>exact .jy
  |int k n=>exact .int k n
  |bool b=>exact .bool b
  |str s=>exact .str s
  |agg cs vs h=>exact .agg cs vs h
  |cu cs vs h=>exact .cu cs vs h
  |sl e c r a cap h1 h2 h3=>exact .sl e c r a cap h1 h2 h3
  |ptr t e r o li h1 h2 h3=>exact .ptr t e r o li h1 h2 h3
  |bI cs off b o vs h hv=>exact .bI cs off b o vs h hv
  |mp t li hl=>exact .mp t li hl
  |eL fn a b as bs ha hb=>exact .eL fn a b as bs ha hb
  |dU=>exact .dU
theorem zW {im:Im} {loc dj:Loc} {m:List Nat} {e:Env} {tmps:Array Value} (hm:Ren m loc dj) (he:ER im loc e tmps): ∀{live:List (Nat×Option Nat)} {nx:Nat} {e1:Env} {s2:cK},qT e m nx live=amn (e1,s2)->
 Rm s2/\((∀(j:Nat) (esz:Nat),s2[j]? =amn (.arr esz [])->dj (nx+j)=amn ⟨0,0,esz,0,0⟩)->ER im dj e1 tmps)
 | [],nx,e1,s2,h=>by
  simp only [qT,ww,IR] at h;obtain ⟨rfl,rfl⟩:=h;exact ⟨fun j k h=>by simp at h,fun _ t=> .undef _⟩
 |(s,k)::r,nx,e1,s2,h=>by
  have hs:=he s;simp only [qT] at h;split at h
  · rename_i esz e' uO
    rw [F0s] at h;obtain ⟨⟨e2,s3⟩,h1,h2⟩:=h;simp only [IR] at h2;obtain ⟨rfl,rfl⟩:=h2;obtain ⟨g1,g2⟩:=zW hm he h1;refine ⟨fun j k hj=>?_,fun hl t=>?_⟩
    · cases j with
      |zero=>simp at hj;exact ⟨_,hj.symm⟩
      |succ j=>exact g1 j k (by simpa using hj)
    rw [qX]
    split
    · rename_i e;subst e
      rw [uO] at hs;generalize hg:tmps.getD s Go.undef=v at hs;cases hs with
      |sl _ _ _ a cap h1 h2 h3=>
      have:cap=0:=by simpa using h2 rfl
      subst this;exact .own nx esz 0 0 0 amq ⟨0,0,esz,0,0⟩ a 0 (by simpa using hl 0 esz rfl) rfl (If _) (If _) (If _) (fun h=>by cases h) (.inl rfl)
    refine g2 (fun j asc hj=>?_) t
    have:=hl (j+1) asc (by simpa using hj)
    rw [show nx+1+j=nx+(j+1) by omega];exact this
  split at h
  · rename_i v' p h1 h2
    injection h with h;simp only [IR] at h;obtain ⟨rfl,rfl⟩:=h;obtain ⟨g1,g2⟩:=zW hm he (e1:=p.1) (s2:=p.2) h2;refine ⟨g1,fun hl t=>?_⟩
    rw [qX];split
    · rename_i e;subst e
      exact (SW hm hs h1).Hd _
    exact g2 hl t
  cases h
theorem eX.setAt {im:Im} {loc:Loc} {x:PV}: ∀{xs:List PV} {vs:List Value} {c:Nat} {y:PV},eX im loc xs vs->xs[c]? =amn y->(∀v,VR im loc y v->VR im loc x v)->eX im loc (xs.set c x) vs
 | [],_,c,y,h,hc,_=>by simp at hc
 |z::zs,vs,c,y,h,hc,hx=>by
  cases h with
  |cons _ v _ us g1 g2=>
   cases c with
   |zero=>simp at hc;subst hc;exact .cons _ _ _ _ (hx v g1) g2
   |succ c=>exact .cons _ _ _ _ g1 (eX.setAt g2 (by simpa using hc) hx)
theorem NC {im0 im:Im} {loc0 loc:Loc} {ja:cK} {w0 w:World} {nt:Nat} {st:St} {a:Act} (t c esz:Nat) (hk:zh im0 loc0 ja w0 st im loc w) (ha:wT im loc nt st a):
 ∃dj,zh im0 loc0 ja w0 (qU st t c esz) im dj w/\wT im dj nt (qU st t c esz) a:=by
 unfold qU;split
 · rename_i cs hb
   split
   · rename_i e hc
     have sr:=hk.kept.sr;have anB: ∀u li,loc u=amn li->u<(am8 st.aE):=fun u li h=>by obtain ⟨k,h1,_⟩:=sr.df u li h;exact cO h1
     have hn:loc (am8 st.aE)=amo:=by
      cases h:loc (am8 st.aE) with
      |none=>rfl
      |some li=>exact absurd (anB _ _ h) (Nat.lt_irrefl _)
     let dj:Loc:=fun u=>if u=(am8 st.aE) then amn ⟨0,0,esz,0,0⟩ else loc u
     have k7:lZ loc dj:=fun u li h=>by
      have:=anB u li h
      simp only [dj,show u≠(am8 st.aE) by omega,if_false];exact h
     have back: ∀u li,dj u=amn li->u≠am8 st.aE->loc u=amn li:=fun u li h hu=>by
      simpa only [dj,hu,if_false] using h
     have ND:t<(am8 st.aE):=cO hb;have get: ∀u,u<am8 st.aE->(st.aE.set t (.box (cs.set c (.own (am8 st.aE) esz 0 0 0 amq)))++[.arr esz []])[u]? =if t=u then amn (.box (cs.set c (.own (am8 st.aE) esz 0 0 0 amq))) else st.aE[u]?:=fun u hu=>by
      rw [EQ (by simpa using hu),al7]
      split
      · rename_i e;subst e;simp
      rfl
     have anC:(st.aE.set t (.box (cs.set c (.own (am8 st.aE) esz 0 0 0 amq)))++[.arr esz []])[am8 st.aE]? =amn (.arr esz []):=by
      rw [M2 (by simp)];simp
     have bM: ∀(u:Nat) (k:jR),(st.aE.set t (.box (cs.set c (.own (am8 st.aE) esz 0 0 0 amq)))++[.arr esz []])[u]? =amn k->k.bM=amp->u≠am8 st.aE/\ ∃k0:jR,st.aE[u]? =amn k0/\k0.bM=amp:=by
      intro u k hu hs;have dI:=cO hu;simp only [aex,alX,List.length_singleton] at dI;have dS:u≠(am8 st.aE):=by
       intro e;subst e;rw [anC] at hu;injection hu with hu;subst hu;cases hs
      refine ⟨dS,?_⟩;rw [get u (by omega)] at hu
      split at hu
      · rename_i e;subst e;exact ⟨_,hb,rfl⟩
      exact ⟨k,hu,hs⟩
     refine ⟨dj,⟨⟨?_,hk.kept.gD,hk.kept.dV.trans k7,hk.kept.os,hk.kept.tape,hk.kept.output,hk.kept.size,hk.kept.frame,hk.kept.dY,fun u li h=>?_,fun u li k h hs lN=>?_⟩,hk.kn,?_,hk.dom⟩,⟨ha.env.mono (nN.refl _) k7,ha.defers,ha.Nb⟩⟩
     · refine {
        bH:=sr.bH
        df:=fun u li hl=>?_
        iI:=fun u u' li lj k k' hl me hs uD lN Hl hbk=>?_
        free:=fun u li k hl hs lN hz=>?_}
       · by_cases hu:u=am8 st.aE
         · subst hu
           simp only [dj,if_true] at hl;injection hl with hl;subst hl;exact ⟨_,anC,rfl,rfl,fun h=>absurd rfl h⟩
         have Ka:=back u li hl hu
         obtain ⟨k,h1,h2⟩:=sr.df u li Ka
         show∃k,(st.aE.set t (.box (cs.set c (.own (am8 st.aE) esz 0 0 0 amq)))++[.arr esz []])[u]? =amn k/\BR im dj w li k
         rw [get u (cO h1)];split
         · rename_i et;subst et
           rw [hb] at h1;injection h1 with h1;subst h1;obtain ⟨g1,g2,g3,vs,el,g4,g5,g6⟩:=h2;refine ⟨_,rfl,by simpa using g1,g2,g3,vs,el,g4,g5,(g6.mono (nN.refl _) k7).setAt hc fun v hv=>?_⟩
           cases hv with
           |sl _ _ _ a' cap h1 h2 h3=>
           have:cap=0:=by simpa using h2 rfl
           subst this;exact .own _ esz 0 0 0 amq ⟨0,0,esz,0,0⟩ a' 0 (by simp only [dj,if_true]) rfl (If _) (If _) (If _) (fun h=>by cases h) (.inl rfl)
         exact ⟨k,h1,h2.mono (nN.refl _) k7 rfl⟩
       · obtain ⟨n1,k0,g1,g2⟩:=bM u k hs lN
         obtain ⟨n2,k0',g1',g2'⟩:=bM u' k' uD Hl;exact sr.iI u u' li lj k0 k0' (back _ _ hl n1) (back _ _ me n2) g1 g1' g2 g2' hbk
       obtain ⟨n1,k0,g1,g2⟩:=bM u k hs lN
       exact sr.free u li k0 (back _ _ hl n1) g1 g2 hz
     · by_cases hu:u=am8 st.aE
       · right;have:=hk.len;omega
       exact hk.kept.nE u li (back u li h hu)
     · obtain ⟨n1,k0,g1,g2⟩:=bM u k hs lN
       exact hk.kept.own u li k0 (back _ _ h n1) g1 g2
     have:=hk.len
     show (am8 ja)<=(st.aE.set t (.box (cs.set c (.own (am8 st.aE) esz 0 0 0 amq)))++[jR.arr esz []]).length;simp only [aex,alX];omega
   exact ⟨loc,hk,ha⟩
 exact ⟨loc,hk,ha⟩
theorem p4 {im0 im:Im} {loc0:Loc} {ja:cK} {w0 w:World} {nt:Nat} {a:Act}: ∀(live:List (Nat×Option Nat)) {st:St} {loc:Loc},zh im0 loc0 ja w0 st im loc w->wT im loc nt st a->
 ∃dj,zh im0 loc0 ja w0 (kz live st) im dj w/\wT im dj nt (kz live st) a
 | [],st,loc,hk,ha=>⟨loc,hk,ha⟩
 |(s,k)::r,st,loc,hk,ha=>by
  simp only [kz];split
  · split
    · split
      · rename_i t _
        obtain ⟨dj,h1,h2⟩:=NC t _ _ hk ha;exact p4 r h1 h2
      exact p4 r hk ha
    exact p4 r hk ha
  exact p4 r hk ha
theorem KV {im0 im:Im} {loc0 loc:Loc} {ja:cK} {w0 w:World} {nt:Nat} {live:List (Nat×Option Nat)} {st nL:St} {a:Act} (h:Eb live st=amn nL) (hk:zh im0 loc0 ja w0 st im loc w) (ha:wT im loc nt st a):
 ∃dj,zh im0 loc0 ja w0 nL im dj w/\wT im dj nt nL a:=by
 unfold Eb at h;split at h
 · cases h
 rename_i m afN
 split at h
 · rename_i s1 e1 s2 hs1 hlv
   injection h with h;subst h;refine (fun hh: ∃dj,zh im0 loc0 ja w0 {env:=e1,aE:=s1++s2,fz:=xk st.fz 0 m,kn:=st.kn} im dj w/\wT im dj nt {env:=e1,aE:=s1++s2,fz:=xk st.fz 0 m,kn:=st.kn} a=>
    let ⟨_,g1,g2⟩:=hh;p4 live g1 g2) ?_
   obtain ⟨⟨ml,Kb⟩,GK⟩:=EK afN;have GK:=GK (EL _);obtain ⟨Hh,Dy⟩:=BW hs1;have anD: ∀n,(uw n).length=n:=by
    intro n;induction n with
    |zero=>rfl
    |succ n ih=>simp [uw,ih]
   have hid: ∀t,t<st.kn->m[t]? =amn t:=by
    intro t ht;rw [Kb,EQ (by rw [anD];exact ht)]
    exact KT ht
   have avu:st.kn<=(am8 m):=by rw [Kb];simp [anD]
   let dj:Loc:=fun u=>if u<(am8 m) then (match m[u]? with|some t=>loc t|none=>amo) else match s2[u-(am8 m)]? with
    |some (.arr e [])=>amn ⟨0,0,e,0,0⟩
    |_=>amo
   have EA:Ren m loc dj:=by
    intro u t hu
    have:=cO hu
    simp only [dj,this,if_true,hu]
   obtain ⟨asd,her⟩:=zW EA ha.env hlv;have old: ∀u li,dj u=amn li->u<am8 m-> ∃t,m[u]? =amn t/\loc t=amn li:=by
    intro u li hl hu;have e:=v6 hu;rw [EA u _ e] at hl;exact ⟨_,e,hl⟩
   have anE: ∀u,u<am8 m->(s1++s2)[u]? =s1[u]?:=fun u hu=>EQ (by rw [Hh];exact hu)
   have anF: ∀u,¬u<am8 m->(s1++s2)[u]? =s2[u-(am8 m)]?:=fun u hu=>by rw [M2 (by rw [Hh];omega),Hh]
   have yx: ∀(u:Nat) (k:jR),(s1++s2)[u]? =amn k->k.bM=amp->u<(am8 m):=by
    intro u k hs lN;rcases acK u (am8 m) with h|h
    · exact h
    rw [anF u (by omega)] at hs
    obtain ⟨e,rfl⟩:=asd _ _ hs;cases lN
   have back: ∀(u:Nat) (k:jR),(s1++s2)[u]? =amn k-> ∀t,m[u]? =amn t-> ∃k0:jR,st.aE[t]? =amn k0/\k.bM=k0.bM:=by
    intro u k hs t ht;obtain ⟨k0,k',g1,g2,g3⟩:=Dy u t ht;rw [anE u (cO ht),g3] at hs;injection hs with hs;subst hs;exact ⟨k0,g1,AG g2⟩
   have sr:=hk.kept.sr;have afP:SR im dj (s1++s2) (xk st.fz 0 m) w:=by
    refine {
     bH:=sr.bH
     df:=fun u li hl=>?_
     iI:=fun u u' li lj k k' hl me hs uD lN Hl hb=>?_
     free:=fun u li k hl hs lN hz=>?_}
    · by_cases hu:u<am8 m
      · obtain ⟨t,ht,dI⟩:=old u li hl hu
        obtain ⟨k0,h1,h2⟩:=sr.df t li dI;obtain ⟨k1,k',g1,g2,g3⟩:=Dy u t ht;rw [h1] at g1;injection g1 with g1;subst g1;exact ⟨k',by rw [anE u hu];exact g3,Hf EA g2 h2⟩
      simp only [dj,hu,if_false] at hl
      split at hl
      · rename_i e he
        injection hl with hl;subst hl;exact ⟨.arr e [],by rw [anF u hu];exact he,rfl,rfl,fun h=>absurd rfl h⟩
      cases hl
    · have hu:=yx u k hs lN
      have BP:=yx u' k' uD Hl;obtain ⟨t,ht,dI⟩:=old u li hl hu;obtain ⟨t',PA,KR⟩:=old u' lj me BP;obtain ⟨k0,g1,g2⟩:=back u k hs t ht;obtain ⟨k0',g1',g2'⟩:=back u' k' uD t' PA
      have:=sr.iI t t' li lj k0 k0' dI KR g1 g1' (by rw [<- g2];exact lN) (by rw [<- g2'];exact Hl) hb
      subst this;have pw:=afc.1 GK;have e1:=(Do.1 ht).2;have e2:=(Do.1 PA).2;rcases acl u u' with h|h|h
      · exact absurd (e1.trans e2.symm) (pw u u' hu BP h)
      · exact h
      exact absurd (e2.trans e1.symm) (pw u' u BP hu h)
    have hu:=yx u k hs lN
    obtain ⟨t,ht,dI⟩:=old u li hl hu;obtain ⟨k0,g1,g2⟩:=back u k hs t ht;refine sr.free t li k0 dI g1 (by rw [<- g2];exact lN) (jC.2 ?_)
    exact KS (i0:=0) ht (by have:=jC.1 hz;simpa using this)
   refine ⟨dj,⟨⟨afP,hk.kept.gD,fun t li hl=>?_,hk.kept.os,hk.kept.tape,hk.kept.output,hk.kept.size,hk.kept.frame,hk.kept.dY,fun t li hl=>?_,fun u li k hl hs lN=>?_⟩,hk.kn,?_,hk.dom⟩,
    ⟨her fun j esz hj=>?_,ha.defers,ha.Nb⟩⟩
   · have h1:=hk.kept.dV t li hl
     have ht:t<st.kn:=by rw [hk.kn];exact hk.dom t li hl
     rw [EA t t (hid t ht)];exact h1
   · rcases acK t st.kn with ht|ht
     · rw [EA t t (hid t ht)] at hl
       exact hk.kept.nE t li hl
     right;rw [hk.kn] at ht;exact ht
   · have hu:=yx u k hs lN
     obtain ⟨t,ht,dI⟩:=old u li hl hu;obtain ⟨k0,g1,g2⟩:=back u k hs t ht;exact hk.kept.own t li k0 dI g1 (by rw [<- g2];exact lN)
   · rw [<- hk.kn]
     simp only [aex];omega
   simp only [dj,show¬am8 m+j<(am8 m) by omega,if_false,show (am8 m)+j-(am8 m)=j by omega,hj]
 exact (by cases h)
theorem WT {im0 im:Im} {loc0 loc:Loc} {ja:cK} {w0 w:World} {nt:Nat} {live:List (Nat×Option Nat)} {st nL:St} {a:Act} (h:norm live st=amn nL) (hk:zh im0 loc0 ja w0 st im loc w) (ha:wT im loc nt st a):
 ∃dj,zh im0 loc0 ja w0 nL im dj w/\wT im dj nt nL a:=by
 unfold norm at h;cases h1:Eb live st with
 |none=>rw [h1] at h;cases h
 |some s=>
  rw [h1] at h;dsimp only at h;obtain ⟨dj,gQ,sU⟩:=KV h1 hk ha;split at h
  · exact KV h gQ sU
  injection h with h
  subst h;exact ⟨dj,gQ,sU⟩
end Go.Vm
/- The code of a function; what it returns. -/
namespace Go.Vm
def gx (P:Program) (prims:FuncId->Bool) (nt:Nat):jT->Code->Bool
 | .skip,.skip=>amp
 | .region d ops _,.region _ iR flag=>Cb P prims nt d ops iR flag
 | .seq a b,.seq c d=>gx P prims nt a c&&gx P prims nt b d
 | .cond c a b,.cond c' a' b'=>bB c c'&&gx P prims nt a a'&&gx P prims nt b b'
 | .block id b,.block id' b'=>id==id'&&gx P prims nt b b'
 | .loop _ b,.loop b'=>gx P prims nt b b'
 | .exit id,.exit id'=>id==id'
 | .ret,.ret=>amp
 |_,_=>amq
def hJ.out:hJ->Exit
 | .normal=> .normal
 | .exit id=> .exit id
 | .ret=> .ret
section
variable {P : Program} {F : mJ} {rec : Task -> Option Out} {im0 : Im} {loc0 : Loc} {ja : cK} {w0 : World} {nt : Nat} {prims : FuncId -> Bool}
structure At (im0:Im) (loc0:Loc) (ja:cK) (w0:World) (nt:Nat) (st:St) (a:Act) (w:World):Prop where
 ex: ∃im loc,zh im0 loc0 ja w0 st im loc w/\wT im loc nt st a
def Cc (P : Program) (prims : FuncId -> Bool) (rec : Task -> Option Out) : Prop :=
  ∀ (live : List (Nat × Option Nat)) (x : jT) (st : St) (e : hJ) (kH : St), rec (.loop live x st) = amn (.code e kH) ->
    ∀ (c : Code) (nt : Nat) (im0 : Im) (loc0 : Loc) (ja : cK) (w0 : World) (a : Act) (w : World), gx P prims nt x c = amp -> At im0 loc0 ja w0 nt st a w ->
      ∀ (b : Frame) (k : List Item) (cs : List Frame), ∃ a' w', At im0 loc0 ja w0 nt kH a' w' /\ Arrives P (lone (b.at a (.code c :: .inLoop c :: k)) cs w) b k cs e.out a' w'
theorem kC (hE:IT P F rec) (hL:Cc P prims rec) (pZ:P.follows .mixedOrders=amp): ∀(x:jT) (c:Code) (st:St) (e:hJ) (kH:St),gx P prims nt x c=amp->sL F rec x st=amn (e,kH)->
 ∀(a:Act) (w:World),At im0 loc0 ja w0 nt st a w-> ∀(Q:Exit->Act->World->Prop),(∀a' w',At im0 loc0 ja w0 nt kH a' w'->Q e.out a' w')->c.wp P Q a w
 | .skip,c,st,e,kH,hc,gK,a,w,ha,Q,hQ=>by
  cases c<;>simp only [gx,PP] at hc
  simp only [sL,ww,IR] at gK;obtain ⟨rfl,rfl⟩:=gK;exact wp_skip (hQ _ _ ha)
 | .region d ops fN,c,st,e,kH,hc,gK,a,w,ha,Q,hQ=>by
  cases c<;>simp only [gx,PP] at hc
  simp only [sL,F0s] at gK;obtain ⟨nL,gK,h⟩:=gK;simp only [IR] at h;obtain ⟨rfl,rfl⟩:=h;obtain ⟨im,loc,hk,EM⟩:=ha.ex;refine NB hE pZ hc gK hk.kept.sr EM fun eB bm a' w' KW EN=>hQ a' w' ⟨eB,bm,?_,EN⟩
  obtain ⟨h1,h2⟩:=IU gK;exact ⟨hk.kept.trans KW hk.len,by rw [h1];exact hk.kn,adc hk.len h2,hk.dom⟩
 | .seq x y,c,st,e,kH,hc,gK,a,w,ha,Q,hQ=>by
  cases c<;>simp only [gx,PP,ut] at hc
  obtain ⟨h1,h2⟩:=hc;simp only [sL] at gK;refine wp_seq ?_;cases hx:sL F rec x st with
  |none=>rw [hx] at gK;cases gK
  |some q=>
   obtain ⟨e1,nL⟩:=q;rw [hx] at gK;refine kC hE hL pZ x _ st e1 nL h1 hx a w ha _ fun a' w' EN=>?_
   cases e1 with
   |normal=>exact kC hE hL pZ y _ nL e kH h2 gK a' w' EN Q hQ
   |exit id=>
    simp only [ww,IR] at gK;obtain ⟨rfl,rfl⟩:=gK;exact hQ a' w' EN
   |ret=>
    simp only [ww,IR] at gK;obtain ⟨rfl,rfl⟩:=gK;exact hQ a' w' EN
 | .cond cc x y,c,st,e,kH,hc,gK,a,w,ha,Q,hQ=>by
  cases c<;>simp only [gx,PP,ut] at hc
  obtain ⟨⟨h0,h1⟩,h2⟩:=hc;obtain ⟨im,loc,hk,EM⟩:=ha.ex;have hv:=NA (a:=a) (e:=st.env) cc (fun t _=>EM.env t) _ h0
  simp only [sL] at gK;split at gK
  · rename_i hb
    rw [hb] at hv;exact wp_cond_true hv.jB (kC hE hL pZ x _ st e kH h1 gK a w ha Q hQ)
  · rename_i hb
    rw [hb] at hv;exact wp_cond_false hv.jB (kC hE hL pZ y _ st e kH h2 gK a w ha Q hQ)
  cases gK
 | .block id x,c,st,e,kH,hc,gK,a,w,ha,Q,hQ=>by
  cases c<;>simp only [gx,PP,ut,beq_iff_eq] at hc
  obtain ⟨rfl,h1⟩:=hc;refine wp_block ?_;simp only [sL] at gK;cases hx:sL F rec x st with
  |none=>rw [hx] at gK;cases gK
  |some q=>
   obtain ⟨e1,nL⟩:=q;rw [hx] at gK;refine kC hE hL pZ x _ st e1 nL h1 hx a w ha _ fun a' w' EN=>?_
   cases e1 with
   |normal=>
    simp only [ww,IR] at gK;obtain ⟨rfl,rfl⟩:=gK;exact hQ a' w' EN
   |ret=>
    simp only [ww,IR] at gK;obtain ⟨rfl,rfl⟩:=gK;exact hQ a' w' EN
   |exit j=>
    dsimp only at gK;simp only [hJ.out,Exit.inBlock];split at gK
    · rename_i hj
      have:j=id:=by simpa using hj
      simp only [ww,IR] at gK;obtain ⟨rfl,rfl⟩:=gK;rw [pp this];exact hQ a' w' EN
    rename_i hj
    have:j≠id:=by simpa using hj
    simp only [ww,IR] at gK;obtain ⟨rfl,rfl⟩:=gK;rw [rc this];exact hQ a' w' EN
 | .loop live x,c,st,e,kH,hc,gK,a,w,ha,Q,hQ=>by
  cases c<;>simp only [gx,PP] at hc
  simp only [sL] at gK;split at gK
  · rename_i e1 nL hr
    simp only [ww,IR] at gK;obtain ⟨rfl,rfl⟩:=gK;intro b k cs;obtain ⟨a',w',h1,h2⟩:=hL live x st _ _ hr _ nt im0 loc0 ja w0 a w hc ha b k cs;exact ⟨_,a',w',hQ a' w' h1,.of_steps (.one step_loop) h2⟩
  cases gK
 | .exit id,c,st,e,kH,hc,gK,a,w,ha,Q,hQ=>by
  cases c<;>simp only [gx,PP,beq_iff_eq] at hc
  subst hc;simp only [sL,ww,IR] at gK;obtain ⟨rfl,rfl⟩:=gK;exact wp_exit (hQ _ _ ha)
 | .ret,c,st,e,kH,hc,gK,a,w,ha,Q,hQ=>by
  cases c<;>simp only [gx,PP] at hc
  simp only [sL,ww,IR] at gK;obtain ⟨rfl,rfl⟩:=gK;exact wp_ret (hQ _ _ ha)
theorem Rn (hE:IT P F rec) (hL:Cc P prims rec) (pZ:P.follows .mixedOrders=amp):Cc P prims (step F rec):=by
 intro live x st e kH h c nt im0 loc0 ja w0 a w hc ha b k cs;simp only [step] at h;cases hn:norm live st with
 |none=>rw [hn] at h;cases h
 |some nL=>
  rw [hn] at h;dsimp only at h;obtain ⟨im,loc,hk,EM⟩:=ha.ex;obtain ⟨dj,gQ,sU⟩:=WT hn hk EM;have db:At im0 loc0 ja w0 nt nL a w:=⟨im,dj,gQ,sU⟩;cases hx:sL F rec x nL with
  |none=>rw [hx] at h;cases h
  |some q=>
   obtain ⟨e1,Dw⟩:=q;rw [hx] at h;have hw:=kC hE hL pZ x c nL e1 Dw hc hx a w db (fun e' a' w'=>e'=e1.out/\At im0 loc0 ja w0 nt Dw a' w') fun a' w' h=>⟨rfl,h⟩
   obtain ⟨e',a1,w1,⟨rfl,hq⟩,GW⟩:=hw b (.inLoop c::k) cs;cases e1 with
   |normal=>
    dsimp only at h;obtain ⟨a',w',h1,h2⟩:=hL live x Dw e kH h c nt im0 loc0 ja w0 a1 w1 hc hq b k cs;exact ⟨a',w',h1,.of_steps (Steps.trans GW (.one step_inLoop)) h2⟩
   |exit id=>
    simp only [ww,Out.code.injEq] at h;obtain ⟨rfl,rfl⟩:=h;exact ⟨a1,w1,hq,.pass (x:= .inLoop c) rfl (fun _ _=> .inl (by simp [hJ.out])) GW⟩
   |ret=>
    simp only [ww,Out.code.injEq] at h;obtain ⟨rfl,rfl⟩:=h;exact ⟨a1,w1,hq,.pass (x:= .inLoop c) rfl (fun _ _=> .inl (by simp [hJ.out])) GW⟩
def oQ (P:Program):List RV->List ResultVar->Bool
 | [],[]=>amp
 | .tmp t::r,.tmp t'::s=>t==t'&&oQ P r s
 | .cell t agg::r,.cell t' ty::s=>t==t'&&AF P ty agg&&oQ P r s
 |_,_=>amq
def NF (tmps:Array Value):ResultVar->Sem Value
 | .tmp t=>pure (tmps.getD t undef)
 | .cell a t=>do loadVar t (<- asAddr (tmps.getD a undef))
theorem Ro {im:Im} {loc:Loc} {aE:cK} {agg:Option Nat} {p:PV} {u:Value} {r:nI} (hp:VR im loc p u) (h:oJ aE agg p=amn r): ∃ad,u= .pointer (amn ad):=by
 cases hp<;>first|(simp [oJ] at h;done)|exact ⟨_,rfl⟩
theorem SR.known {im:Im} {loc:Loc} {aE:cK} {fz:List Nat} {w:World} (h:SR im loc aE fz w) {r:nI} (hn:r.news=[]) (hw:r.wr=[]):jl im loc aE w r where
 bH:=h.bH
 tok:=fun t _ li hl=>h.df t li hl
 free:=fun t k hm=>by rw [hw] at hm;cases hm
 fresh:=fun j hj=>by rw [hn] at hj;simp at hj
 iI:=fun t u li lj k k' _ _=>h.iI t u li lj k k'
theorem NG {aE:cK} {agg:Option Nat} {p:PV} {r:nI} (h:oJ aE agg p=amn r):r.news=[]/\r.wr=[]:=by
 unfold oJ at h;split at h
 · split at h
   · split at h
     · rw [F0s] at h;obtain ⟨_,_,rfl⟩:=h;exact ⟨rfl,rfl⟩
     cases h
   · split at h
     · rw [F0s] at h;obtain ⟨_,_,rfl⟩:=h;exact ⟨rfl,rfl⟩
     cases h
   cases h
 · rw [F0s] at h;obtain ⟨_,_,rfl⟩:=h;exact ⟨rfl,rfl⟩
 cases h
theorem Ty {im : Im} {loc : Loc} {st : St} {a : Act} {w : World} (kB : SR im loc st.aE st.fz w) (ha : ER im loc st.env a.tmps) : ∀ {rs : List RV} {vs : List PV} {os : List ResultVar}, oQ P rs os = amp -> nK st rs = amn vs ->
    ∃ us, (os.mapM (NF a.tmps)).run P w = .ok us w /\ eX im loc vs us
  | [], vs, os, hc, h => by
    cases os <;> simp only [oQ, PP] at hc
    simp only [nK, ww] at h; subst h
    exact ⟨[], by simp, .nil⟩
  | r :: rs, vs, [], hc, h => by cases r <;> simp [oQ] at hc
  | r :: rs, vs, o :: os, hc, h => by
    simp only [nK] at h
    split at h
    · rename_i v M' h1 h2
      injection h with h; subst h
      have AI : ∃ u, (NF a.tmps o).run P w = .ok u w /\ VR im loc v u /\ oQ P rs os = amp := by
        cases r with
        | tmp t =>
          cases o with
          | tmp t' =>
            simp only [oQ, ut, beq_iff_eq] at hc
            obtain ⟨rfl, hc⟩ := hc
            simp only [Ee, ww] at h1; subst h1
            exact ⟨_, rfl, ha t, hc⟩
          | cell _ _ => simp [oQ] at hc
        | cell t agg =>
          cases o with
          | tmp t' => simp [oQ] at hc
          | cell t' ty =>
            simp only [oQ, ut, beq_iff_eq] at hc
            obtain ⟨⟨rfl, hag⟩, hc⟩ := hc
            simp only [Ee, F0s] at h1
            obtain ⟨rr, h3, rfl⟩ := h1
            obtain ⟨g1, g2⟩ := NG h3
            obtain ⟨u, cq, oG, _⟩ := Kr (P := P) (ha t) hag h3 (kB.known g1 g2)
            obtain ⟨ad, had⟩ := Ro (ha t) h3
            refine ⟨u, ?_, oG, hc⟩
            simp only [NF, had, asAddr]
            rw [had] at cq
            simpa [Instr.loadAt, Instr.sureAddr] using cq
      obtain ⟨u, hu, oG, hc⟩ := AI
      obtain ⟨us, xf, asf⟩ := Ty kB ha hc h2
      refine ⟨u :: us, ?_, .cons _ _ _ _ oG asf⟩
      rw [List.mapM_cons]
      simp only [afa, hu, afm, xf, am6]
    cases h
theorem EO {im:Im} {loc:Loc} {st:St} {a:Act} {w:World} {fn:Func} (kB:SR im loc st.aE st.fz w) (ha:ER im loc st.env a.tmps) {rs:List RV} {vs:List PV} (hc:oQ P rs fn.results.toList=amp) (h:nK st rs=amn vs):
 ∃u,(results fn a.tmps).run P w= .ok u w/\VR im loc (results1 vs) u:=by
 obtain ⟨us,h1,h2⟩:=Ty (P:=P) kB ha hc h;have e:fn.results.mapM (NF a.tmps)=List.toArray<$>fn.results.toList.mapM (NF a.tmps):=Array.mapM_eq_mapM_toList;have h3:(fn.results.mapM (NF a.tmps)).run P w= .ok us.toArray w:=by
  rw [e];rw [map_eq_pure_bind,afa,h1];rfl
 have AX:results fn a.tmps=(do let vs <- fn.results.mapM (NF a.tmps);pure (if h:vs.size=1 then vs[0] else .tuple vs)):=by
  unfold results
  congr 1
 rw [AX];simp only [afa,h3,afm,am6];refine ⟨_,rfl,?_⟩;cases h2 with
 |nil=>exact .cu _ _ .nil
 |cons x u xs us g2 g3=>
  cases g3 with
  |nil=>exact g2
  |cons y v ys vs g4 g5=>exact .cu _ _ (.cons _ _ _ _ g2 (.cons _ _ _ _ g4 g5))
end
end Go.Vm
/- What the logical machine answers, the model answers. -/
namespace Go.Vm
def az (P:Program) (prims:FuncId->Bool) (x:aK) (f:FuncId):Bool:=
 match P.funcs[f]? with
 |some fn=>!(fn.name== "runtime.NumGoroutine")&&aem x.CV fn.ntmps&&oQ P x.res fn.results.toList&&(match fn.body with|some c=>gx P prims fn.ntmps x.code c|none=>amq)
 |none=>amq
section
variable {P : Program} {F : mJ} {rec : Task -> Option Out} {prims : FuncId -> Bool}
def KX (P:Program) (prims:FuncId->Bool) (F:mJ):Prop:= ∀f x,F f=amn (.code x)->az P prims x f=amp
theorem KY: ∀(args:List PV) (i t:Nat),lk t (uz i args)=if i<=t then (args[t-i]?).getD .undef else .undef
 | [],i,t=>by simp [uz,lk]
 |v::r,i,t=>by
  simp only [uz,qX];rw [KY r (i+1) t]
  by_cases h:i=t
  · subst h;simp
  rw [rc h]
  by_cases h2:i<=t
  · rw [pp h2,pp (by omega)]
    have:t-i=(t- (i+1))+1:=by omega
    rw [this];simp
  rw [rc h2,rc (by omega)]
theorem Hq {im:Im} {loc:Loc} {args:List PV} {us:List Value} (h:eX im loc args us) (n:Nat):ER im loc (uz 0 args) ((⟨us⟩:Array Value)++aeC n Go.undef):=by
 intro t;rw [KY];simp only [aeu,if_true,Nat.sub_zero];cases ha:args[t]? with
 |none=>exact .undef _
 |some x=>
  obtain ⟨v,hv,hr⟩:=h.get t x ha
  have:((⟨us⟩:Array Value)++aeC n Go.undef).getD t Go.undef=v:=by
   have dI:=cO hv;simp only [ae5];rw [Array.getElem?_append_left (by simpa using dI)]
   simp [hv]
  rw [this];exact hr
theorem ir {f:FuncId} {fn:Func} {c:Code} {us:Array Value} {w:World} (hf:P.funcs[f]? =amn fn) (hn:(fn.name== "runtime.NumGoroutine")=amq) (hb:fn.body=amn c):(callFunc f us).run P w= .ok (.enter f us) w:=by
 unfold callFunc;have hn: ¬fn.name= "runtime.NumGoroutine" :=by simpa using hn
 simp [afa,hf,hn,hb]
theorem Rp (hE:IT P F rec) (hL:Cc P prims rec) (hT:KX P prims F) (pZ:P.follows .mixedOrders=amp):B7 P (step F rec):=by
 intro f args aE fz v uI IJ h im loc w us kB xf;simp only [step] at h;split at h
 · rename_i x hF
   have hc:=hT f x hF;unfold az at hc;cases hf:P.funcs[f]? with
   |none=>rw [hf] at hc;cases hc
   |some fn=>
    rw [hf] at hc;simp only [ut,UV] at hc;obtain ⟨⟨⟨p5,hna⟩,AX⟩,p6⟩:=hc;cases hb:fn.body with
    |none=>rw [hb] at p6;cases p6
    |some c=>
     rw [hb] at p6;dsimp only at p6;refine .inr ⟨ir hf p5 hb,calls_of_wp hf hb ?_⟩;split at h
     · rename_i cW
       have cW:(am8 args)=x.CV:=by simpa using cW
       have hna:x.CV<=fn.ntmps:=by simpa using hna
       have axe:=xf.mK
       let st0:St:={env:=uz 0 args,aE,fz,kn:=am8 aE}
       let a0:Act:={tmps:=(⟨us⟩:Array Value)++aeC (fn.ntmps- (⟨us⟩:Array Value).size) Go.undef,defers:=[]}
       have db:At im loc aE w fn.ntmps st0 a0 w:=by
        refine ⟨im,loc,⟨⟨kB,.refl _,.refl _,rfl,rfl,rfl,If _,fun _ _ _=>rfl,fun _ _ h=> .inl h,fun _ _ h=> .inl h,fun t li k hl hs lN=> .inr ⟨t,li,k,hl,hs,lN,rfl⟩⟩,rfl,If _,fun t li hl=>?_⟩,⟨Hq xf _,rfl,?_⟩⟩
        · obtain ⟨k,hk,_⟩:=kB.df t li hl
          exact cO hk
        simp only [a0,al8,afX]
        show (am8 us)+_=_
        have:(⟨us⟩:Array Value).size=(am8 us):=rfl
        rw [this];omega
       have fin: ∀(st:St),(nK st x.res).map (fun vs=>Out.func (results1 vs) st.aE st.fz)=amn (.func v uI IJ)-> ∀a' w',At im loc aE w fn.ntmps st a' w'->
        a'.defers=[]/\ ∃u,(results fn a'.tmps).run P w'= .ok u w'/\ ∃v',Ending.returned u= .returned v'/\ ∃eB bm,uH im loc aE w v uI IJ eB bm w' v':=by
        intro st ck a' w' db
        obtain ⟨eB,bm,hk,EM⟩:=db.ex;rw [F0s] at ck;obtain ⟨vs,IE,he⟩:=ck;simp only [Out.func.injEq] at he;obtain ⟨rfl,rfl,rfl⟩:=he;obtain ⟨u,hu,oG⟩:=EO (P:=P) (fn:=fn) hk.kept.sr EM.env AX IE;have K:=hk.kept;exact ⟨EM.defers,u,hu,u,rfl,eB,bm,⟨K.gD,K.dV,oG,K.sr,K.os,K.tape,K.output,K.size,K.frame,K.dY,K.nE,K.own⟩⟩
       split at h
       · rename_i st gK
         exact kC hE hL pZ x.code c st0 .normal st p6 gK a0 w db _ fun a' w' afQ=>fin st h a' w' afQ
       · rename_i st gK
         exact kC hE hL pZ x.code c st0 .ret st p6 gK a0 w db _ fun a' w' afQ=>fin st h a' w' afQ
       cases h
     cases h
 · rename_i p hF
   obtain ⟨fn,c,hf,p5,hb,key⟩:=hE.j0.2 f p hF;rw [F0s] at h;obtain ⟨⟨v1,s1,z1⟩,hp,he⟩:=h;simp only [Out.func.injEq] at he;obtain ⟨rfl,rfl,rfl⟩:=he;exact key args aE fz _ _ _ hp im loc w us kB xf
 cases h
theorem aeM (hT:KX P prims F) (AQ:yt P F) (pZ:P.follows .mixedOrders=amp): ∀n,B7 P (run F n)/\Cc P prims (run F n)
 |0=>⟨fun f args aE fz v uI IJ h=>by simp [run] at h,fun live x st e kH h=>by simp [run] at h⟩
 |n+1=>by
  obtain ⟨h1,h2⟩:=aeM hT AQ pZ n;have hE:IT P F (run F n):=⟨h1,AQ⟩;exact ⟨Rp hE h2 hT pZ,Rn hE h2 pZ⟩
theorem Rq (hT:KX P prims F) (AQ:yt P F) (pZ:P.follows .mixedOrders=amp) {n:Nat} {f:FuncId} {args:List PV} {v:PV} {uI:cK} {IJ:List Nat} (h:run F n (.func f args [] [])=amn (.func v uI IJ))
 {im:Im} {w:World} {us:List Value} (WE: ∀b o,im b=amn o->w.heap[b]? =amn o) (xf:eX im fW args us):
 Calls P f ⟨us⟩ w fun e w'=> ∃u,e= .returned u/\(∃eB bm,VR eB bm v u/\SR eB bm uI IJ w')/\w'.os=w.os/\w'.tape=w.tape/\w'.output=w.output/\w.heap.size<=w'.heap.size/\ ∀b,b<w.heap.size->w'.heap[b]? =w.heap[b]?:=by
 have key:=(aeM hT AQ pZ n).1 f args [] [] v uI IJ h im fW w us (SR.empty WE) xf;rcases key with ⟨u,w',h1,h2⟩|⟨h1,h2⟩
 · exfalso
   cases n with
   |zero=>simp [run] at h
   |succ n=>
    have h:step F (run F n) (.func f args [] [])=amn (.func v uI IJ):=h;simp only [step] at h;split at h
    · rename_i x hF
      have hc:=hT f x hF;unfold az at hc;cases hf:P.funcs[f]? with
      |none=>rw [hf] at hc;cases hc
      |some fn=>
       rw [hf] at hc;simp only [ut,UV] at hc;cases hb:fn.body with
       |none=>rw [hb] at hc;exact (by have hzz:=hc.2;cases hzz)
       |some c=>
        rw [ir hf hc.1.1.1 hb] at h1;cases h1
    · rename_i p hF
      obtain ⟨fn,c,hf,p5,hb,key⟩:=AQ.2 f p hF;rw [ir hf p5 hb] at h1;cases h1
    cases h
 refine h2.mono fun e w' ⟨u,he,eB,bm,hp⟩=>⟨u,he,⟨eB,bm,hp.vr,hp.sr⟩,hp.os,hp.tape,hp.output,hp.size,fun b hb=>hp.frame b hb fun t li k hl=>by cases hl⟩
end
end Go.Vm
/- Functions that are known without their code: math/bits.Add64 and Sub64, slices.Clone. -/
namespace Go.Vm
section
variable {P : Program}
theorem NH {im:Im} {w:World} {v:PV} {u:Value} (kB:SR im fW [] [] w) (hv:VR im fW v u):uH im fW [] w v [] [] im fW w u where
 gD:= .refl _
 dV:= .refl _
 vr:=hv
 sr:=kB
 os:=rfl
 tape:=rfl
 output:=rfl
 size:=If _
 frame:=fun _ _ _=>rfl
 dY:=fun _ _ h=> .inl h
 nE:=fun _ _ h=> .inl h
 own:=fun t li k h=>by cases h
theorem NI {im:Im} {loc:Loc} {k1 k2 k3:IntKind} {a b c:Int} {us:List Value} (h:eX im loc [.int k1 a,.int k2 b,.int k3 c] us):us=[.int k1 a,.int k2 b,.int k3 c]:=by
 cases h with
 |cons _ _ _ _ h1 h=>
  cases h with
  |cons _ _ _ _ h2 h=>
   cases h with
   |cons _ _ _ _ h3 h=>
    cases h;rw [h1.gr,h2.gr,h3.gr]
theorem NJ {f:FuncId} {fn:Func} (hf:P.funcs[f]? =amn fn) (p5:(fn.name== "runtime.NumGoroutine")=amq) (hb:fn.body.isNone=amp) (hn:Extern.findNext fn=amo) (he:Extern.find fn=amn add64Entry):IK P f zJ:=by
 intro args v news hp im w us kB xf;unfold zJ at hp;split at hp
 · rename_i a b c
   split at hp
   · rename_i hc
     have hc:c<=1:=by simpa using hc
     simp only [ww,IR] at hp;obtain ⟨rfl,rfl⟩:=hp;obtain rfl:=NI xf;refine .inl ⟨_,w,?_,im,fW,NH kB (.cu _ [.int .u64 (((a:Int)+b+c)%18446744073709551616),.int .u64 (((a:Int)+b+c) / 18446744073709551616)] (.cons _ _ _ _ ?_ (.cons _ _ _ _ ?_ .nil)))⟩
     · rw [run_callFunc_extern hf p5 hb hn he]
       have:=run_add64 (P:=P) (a:Int) b c (by omega) (by omega) (by omega) (by omega) w
       simp only [af3];rw [this];rfl
     · have:ajB ((a+b+c)%18446744073709551616)=((a:Int)+b+c)%18446744073709551616:=by
        simp only [af3];omega
       rw [this];exact .int _ _
     have:ajB ((a+b+c) / 18446744073709551616)=((a:Int)+b+c) / 18446744073709551616:=by
      simp only [af3];omega
     rw [this];exact .int _ _
   cases hp
 cases hp
def xcA (esz:Nat):jT:= .region amo [⟨amn 2,.SG (.c (.sl esz amp [])),amo⟩] [0]
def xcN (esz:Nat):jT:= .seq (.region amo [⟨amn 2,.SG (.c (.sl esz amp [])),amo⟩] [2]) .ret
def xcC (esz:Nat) (zero:Row):jT:= .seq (.region amo [⟨amn 5,.AD esz 0 zero [],amo⟩,⟨amn 6,.SG (.t 0),amo⟩,⟨amn 7,.append esz (.t 5) (.t 6),amo⟩,⟨amn 2,.SG (.t 7),amo⟩] [2]) .ret
def Tz (P:Program) (o:Oper):Bool:=
 o.guard.isNone&&o.dst==amn 4&&(match o.op with
  | .binOp .eql t x (.const (.slice amo 0 0)) _=>bB (.t 3) x&&rN P t
  |_=>amq)
def KZ (P:Program) (esz:Nat) (zero:Row) (f:FuncId):Bool:=
 match P.funcs[f]? with
 |some fn=>!(fn.name== "runtime.NumGoroutine")&&aeZ 7 fn.ntmps&&oQ P [.tmp 2] fn.results.toList&&(match fn.body with
  |some (.seq a (.seq (.seq (.region _ ops amq) (.cond c n .skip)) r))=>
   gx P (fun _=>amp) fn.ntmps (xcA esz) a&&gx P (fun _=>amp) fn.ntmps (xcN esz) n&&gx P (fun _=>amp) fn.ntmps (xcC esz zero) r&&bB (.t 4) c&&
    (match ops.toList with
    | [o1,o2]=>qZ P (fun _=>amp) fn.ntmps ops ⟨amn 3,.SG (.t 0),amo⟩ o1&&Tz P o2
    |_=>amq)
  |_=>amq)
 |none=>amq
theorem WU:IT P (fun _=>amo) (fun _=>amo):=⟨(fun _ _args _sto _fz _v _sto' _fz' h=>(by cases h)),⟨(fun _ _k _p h=>(by cases h)),(fun _ _p h=>(by cases h))⟩⟩
theorem PB {prims:FuncId->Bool}:Cc P prims (fun _=>amo):=fun _ _x _st _e _st' h=>(by cases h)
theorem mM (pZ:P.follows .mixedOrders=amp) {esz:Nat} {zero:Row} {f:FuncId} (hc:KZ P esz zero f=amp):IK P f (fB esz):=by
 intro args v news hp im w us kB xf;unfold KZ at hc;cases hf:P.funcs[f]? with
 |none=>rw [hf] at hc;cases hc
 |some fn=>
  rw [hf] at hc;simp only [ut,UV] at hc;obtain ⟨⟨⟨p5,hnt⟩,AX⟩,p6⟩:=hc;have hnt:7<fn.ntmps:=by simpa using hnt
  split at p6
  · rename_i ca id ops cc cn cr hb
    simp only [ut] at p6;obtain ⟨⟨⟨⟨hA,hN⟩,hC⟩,Nj⟩,Rl⟩:=p6;split at Rl
    · rename_i o1 o2 hl
      simp only [ut] at Rl;obtain ⟨ho1,ho2⟩:=Rl;have asi: ∃e c rows,args=[.sl e c rows]:=by
       unfold fB at hp;split at hp
       · exact ⟨_,_,_,rfl⟩
       cases hp
      obtain ⟨e,cl,rows,rfl⟩:=asi;obtain ⟨u,rfl⟩: ∃u,us=[u]:=by
       cases xf with
       |cons _ u _ us h1 h2=>cases h2;exact ⟨u,rfl⟩
      refine .inr ⟨ir hf p5 hb,calls_of_wp hf hb ?_⟩
      let st0:St:={env:=[(0,.sl e cl rows)],aE:=[],fz:=[],kn:=0}
      let a0:Act:={tmps:=(⟨[u]⟩:Array Value)++aeC (fn.ntmps- (⟨[u]⟩:Array Value).size) Go.undef,defers:=[]}
      have asj:At im fW [] w fn.ntmps st0 a0 w:=by
       refine ⟨im,fW,⟨⟨kB,.refl _,.refl _,rfl,rfl,rfl,If _,fun _ _ _=>rfl,fun _ _ h=> .inl h,fun _ _ h=> .inl h,fun t li k hl=>by cases hl⟩,rfl,If _,fun t li hl=>by cases hl⟩,⟨Hq xf _,rfl,?_⟩⟩
       simp only [a0,al8,afX];show 1+(fn.ntmps-1)=_;omega
      have fin: ∀(st:St) (v':PV),lk 2 st.env=v'-> ∀a' w',At im fW [] w fn.ntmps st a' w'->
       a'.defers=[]/\ ∃u,(results fn a'.tmps).run P w'= .ok u w'/\ ∃v'':Value,Ending.returned u= .returned v''/\ ∃eB bm,uH im fW [] w v' st.aE st.fz eB bm w' v'':=by
       intro st v' hv' a' w' db
       obtain ⟨eB,bm,hk,EM⟩:=db.ex;obtain ⟨u,hu,oG⟩:=EO (P:=P) (fn:=fn) hk.kept.sr EM.env AX (vs:=[v']) (by simp [nK,Ee,hv'])
       have K:=hk.kept;exact ⟨EM.defers,u,hu,u,rfl,eB,bm,⟨K.gD,K.dV,oG,K.sr,K.os,K.tape,K.output,K.size,K.frame,K.dY,K.nE,K.own⟩⟩
      refine wp_seq ?_;refine kC WU PB pZ (xcA esz) _ st0 .normal {env:=[(0,.sl e cl rows)],aE:=[],fz:=[],kn:=0} hA rfl a0 w asj _ fun a1 w1 asl=>?_
      refine wp_seq (wp_seq ?_);refine wp_region ?_;have anG:ops= #[o1,o2]:=alZ (by simpa using hl)
      subst anG;obtain ⟨DP,dj,gQ,K0⟩:=asl.ex;have IV:=K0.env 0;have IV:VR DP dj (.sl e cl rows) (a1.tmps.getD 0 Go.undef):=IV;obtain ⟨ad,cap,WH,GN,Wg,lf⟩:=IV.nO;unfold qZ at ho1;simp only [ut,beq_iff_eq] at ho1;obtain ⟨⟨⟨hd1,_⟩,SP⟩,TA⟩:=ho1;have asm:o1.guard=amo:=by
       cases hg:o1.guard with
       |none=>rfl
       |some q=>rw [hg] at SP;simp [uJ] at SP
      have anH: ∃x,(o1.op= .move x\/o1.op= .assign x)/\bB (.t 0) x=amp:=by
       cases ho:o1.op<;>rw [ho] at TA<;>simp only [wR] at TA<;>first|exact ⟨_,.inl rfl,TA⟩|exact ⟨_,.inr rfl,TA⟩|simp at TA
      obtain ⟨x1,GX,afR⟩:=anH;have asn:a1.eval x1= .slice ad (am8 rows) cap:=by
       have h:=NA (a:=a1) (e:=[(0,PV.sl e cl rows)]) (.t 0) (fun t ht=>by injection ht with ht;subst ht;exact K0.env 0) x1 afR
       cases x1 with
       |tmp t=>
        have:(0:Nat)=t:=by simpa [bB] using afR
        subst this;simpa [Act.eval] using WH
       |_=>simp [bB] at afR
      have anI:(execOp a1.eval o1).run P w1= .ok (.value (.slice ad (am8 rows) cap)) w1:=by
       rcases GX with h|h<;>simp [execOp,h,asn]
      unfold Tz at ho2;simp only [ut,beq_iff_eq,Option.isNone_iff_eq_none] at ho2;obtain ⟨⟨hg2,hd2⟩,WV⟩:=ho2;split at WV
      case h_2=>cases WV
      rename_i ty x2 ub anK;simp only [ut] at WV;obtain ⟨WW,ck⟩:=WV;have aso:x2= .tmp 3:=by
       cases x2 with
       |tmp t=>
        have:(3:Nat)=t:=by simpa [bB] using WW
        subst this;rfl
       |_=>simp [bB] at WW
      subst aso;unfold rN at ck;split at ck
      case h_2=>cases ck
      rename_i el nG;have asq:a1.tmps.size=fn.ntmps:=K0.Nb
      let a2:Act:=a1.put (amn 3) (.slice ad (am8 rows) cap)
      have Iz:a2.tmps.getD 3 Go.undef= .slice ad (am8 rows) cap:=by
       simp only [a2,Act.put,ae5];rw [aeB (by omega)];rfl
      have anL:(execOp a2.eval o2).run P w1= .ok (.value (.bool ad.isNone)) w1:=by
       simp only [execOp,anK];refine eS ?_;have e3:a2.eval (.tmp 3)= .slice ad (am8 rows) cap:=by simpa [Act.eval] using Iz
       rw [e3];have hg:(eqGuard .eql ty (.tmp 3) (.const (.slice amo 0 0)) (.slice ad (am8 rows) cap) (a2.eval (.const (.slice amo 0 0)))).run P w1= .ok () w1:=by
        unfold eqGuard;simp
       simp only [afa,hg,afm];exact Lib.run_eql_slice_nil w1 ty el ad (am8 rows) cap 0 0 nG
      let a3:Act:=a2.put (amn 4) (.bool ad.isNone)
      have afS:At im fW [] w fn.ntmps {env:=[(0,.sl e cl rows)],aE:=[],fz:=[],kn:=0} a3 w1:=by
       refine ⟨DP,dj,gQ,⟨fun t=>?_,K0.defers,by simp [a3,a2,Act.put,asq]⟩⟩
       have h:=K0.env t;simp only [qX] at h ⊢
       by_cases ht:t=0
       · subst ht
         simp only [if_true] at h ⊢;simpa [a3,a2,Act.put,ae3] using h
       rw [rc (fun e=>ht e.symm)];exact .undef _
      have J':a3.eval cc= .bool ad.isNone:=by
       cases cc with
       |tmp t=>
        have:(4:Nat)=t:=by simpa [bB] using Nj
        subst this;simp only [Act.eval,a3,Act.put,ae5];rw [aeB (by simp [a2,Act.put];omega)];rfl
       |_=>simp [bB] at Nj
      have afT:List.range #[o1,o2].size=[0,1]:=rfl;rw [afT];simp only [wpOps];have e0:(#[o1,o2]:Array Oper)[0]? =amn o1:=rfl;have e1:(#[o1,o2]:Array Oper)[1]? =amn o2:=rfl;rw [e0];dsimp only;have hw1:Region.wanted o1 (yielded #[o1,o2] a1.tmps)=amp:=by unfold Region.wanted;rw [asm]
      rw [hw1,pp rfl];refine .inl ?_;unfold Oper.wp;rw [anI,Oper.upon_value,<- hd1,e1];dsimp only;have WC:Region.wanted o2 (yielded #[o1,o2] (a1.put (amn 3) (.slice ad (am8 rows) cap)).tmps)=amp:=by unfold Region.wanted;rw [hg2]
      rw [WC,pp rfl];refine .inl ?_;rw [show a1.put (amn 3) (.slice ad (am8 rows) cap)=a2 from rfl,anL,Oper.upon_value,hd2];show (Code.cond cc cn .skip).wp P _ a3 w1;cases had:ad with
      |none=>
       have GV:rows=[]:=by
        rcases rows with _|⟨r,rs⟩
        · rfl
        obtain ⟨b,o,h,_⟩:=lf (by simp)
        rw [had] at h;cases h
       subst GV;simp only [fB,ww,IR] at hp;obtain ⟨rfl,rfl⟩:=hp;refine wp_cond_true (by rw [J',had];rfl) ?_
       refine kC WU PB pZ (xcN esz) _ _ .ret {env:=[(2,.sl esz amp [])],aE:=[],fz:=[],kn:=0} hN rfl a3 w1 afS _ fun a4 w4 TB=>?_
       obtain ⟨hdf,u',BP,v'',asr,eB,bm,Wm⟩:=fin _ _ rfl a4 w4 TB;refine ⟨hdf,u',BP,v'',asr,eB,bm.set 1 ⟨0,0,esz,0,0⟩,?_⟩;have PC: ∀t,bm t=amo:=fun t=>by
        cases hl:bm t with
        |none=>rfl
        |some li=>obtain ⟨k,hk,_⟩:=Wm.sr.df t li hl;simp at hk
       obtain ⟨ad',cY,hv3,_,ass,_⟩:=Wm.vr.nO;have EE:cY=0:=by simpa using ass rfl
       subst EE;exact {
        gD:=Wm.gD,dV:=fun t li h=>by cases h
        vr:=by rw [hv3];exact .own 1 esz 0 0 0 amq ⟨0,0,esz,0,0⟩ ad' 0 (Loc.eT _ _ _) rfl (If _) (If _) (If _) (fun h=>by cases h) (.inl rfl)
        sr:={
         bH:=Wm.sr.bH
         df:=fun t li h=>by
          unfold Loc.set at h;split at h
          · rename_i ht;subst ht;injection h with h;subst h
            exact ⟨_,rfl,rfl,rfl,fun h=>absurd rfl h⟩
          rw [PC t] at h;cases h
         iI:=fun t u li lj k k' h h' hs uD Dz=>by
          unfold Loc.set at h;split at h
          · rename_i ht;subst ht;simp at hs;subst hs;cases Dz
          rw [PC t] at h;cases h
         free:=fun t li k h hs Dz=>by
          unfold Loc.set at h;split at h
          · rename_i ht;subst ht;simp at hs;subst hs;cases Dz
          rw [PC t] at h;cases h}
        os:=Wm.os,tape:=Wm.tape,output:=Wm.output,size:=Wm.size,frame:=Wm.frame,dY:=Wm.dY
        nE:=fun t li h=> .inr (aeu _)
        own:=fun t li k h hs Dz=>by
         unfold Loc.set at h;split at h
         · rename_i ht;subst ht;simp at hs;subst hs;cases Dz
         rw [PC t] at h;cases h}
      |some ad'=>
       refine wp_cond_false (by rw [J',had];rfl) (wp_skip ?_)
       rcases rows with _|⟨r,rs⟩
       · simp only [fB,ww,IR] at hp
         obtain ⟨rfl,rfl⟩:=hp;exact kC WU PB pZ (xcC esz zero) _ _ .ret {env:=[(2,.own 1 esz 0 0 0 amq)],aE:=[.arr esz [],.arr esz []],fz:=[],kn:=0} hC rfl a3 w1 afS _ fun a4 w4 TB=>fin _ _ rfl a4 w4 TB
       simp only [fB] at hp
       split at hp
       case isFalse=>cases hp
       rename_i Pn;simp only [ut,ajD,aeH] at Pn;obtain ⟨rfl,ik⟩:=Pn;simp only [ww,IR] at hp;obtain ⟨rfl,rfl⟩:=hp;have hap:iP [.arr e []] [] e (.own 0 e 0 0 0 amp) (.sl e cl (r::rs))=amn {v:= .own 1 e 0 (0+(am8 rs+1)) (0+(am8 rs+1)) amq,news:=[.arr e (r::rs)],rd:=[0]}:=by
        have h1:AC e e=amp:=by simp
        have h2:aem (am8 rs+1) 0=amq:=rfl;have h3:aem (0+(am8 rs+1)) dH=amp:=by simpa using ik
        simp only [iP,rowsOf,h1,if_true];simp [h2,ik,iO]
       refine kC WU PB pZ (xcC e zero) _ _ .ret {env:=[(2,.own 1 e 0 (0+(am8 rs+1)) (0+(am8 rs+1)) amq)],aE:=[.arr e [],.arr e (r::rs)],fz:=[],kn:=0} hC ?_ a3 w1 afS _ fun a4 w4 TB=>fin _ _ rfl a4 w4 TB
       simp only [xcC,sL,k9,mf,wanted,wP,bF,fy.ev,lk];simp [pT,XR.ok,vj,XR.next,iH,Km,fZ,lk,hap]
    cases Rl
  cases p6
end
end Go.Vm
/- slices.Insert of one row: what it leaves of the memory. -/
namespace Go.Vm
section
variable {P : Program} {im eB : Im} {loc bm : Loc} {aE : cK} {fz : List Nat} {w w' : World}
theorem pt (w:World) (dT sT ty el:TypeId) (esz g o afU asu:Nat) (a:Addr) (tK sCap:Nat) (cur:Array Value) (t:TypeId) (cs:List Value)
 (hu:P.underlying dT=amn (.slice el)) (hs:(P.info? el).map (·.size)=amn esz)
 (hg:w.heap[g]? =amn (.cells cur t (0,0))) (hn:Nat.min tK afU*esz=am8 cs)
 (asv: ∀j v,cs[j]? =amn v->w.cell? (a.add j)=amn v) (qE:o+am8 cs<=cur.size) (h1: ∀v∈cs,v.oneCell'=amp):
 (Builtin.copy_ #[dT,sT] ty #[.slice (amn ⟨g,o,amo⟩) afU asu,.slice (amn a) tK sCap]).run P w=
  .ok (goInt (Nat.min tK afU)) (w.setRow g (mA o cs cur.toList).toArray):=by
 have hl:=run_loadCells_list (P:=P) w a cs asv;have ck:=run_storeCells_at P g o t cs 0 cur w hg (by simpa using qE) h1
 cases hq:P.info? el with
 |none=>simp [hq] at hs
 |some i=>
  have hi:i.size=esz:=by simpa [hq] using hs
  simp [Builtin.copy_,run_underlying hu,Builtin.lenOf,Builtin.firstCells,sizeOf,typeInfo,hq,hi,hn,hl,ck,mA]
theorem BR.fN {li:LI} {k:jR} (h:BR im loc w li k) (hi:nN im eB) (hl:lZ loc bm) (hw:k.bM=amp->w'.heap[li.df]? =w.heap[li.df]?):BR eB bm w' li k:=by
 cases hs:k.bM with
 |true=>exact h.mono hi hl (hw hs)
 |false=>
  cases k with
  |arr e rows=>
   cases rows with
   |nil=>exact ⟨h.1,h.2.1,fun dS=>absurd rfl dS⟩
   |cons r rs=>cases hs
  |box cs=>cases hs
  |map es=>cases hs
  |dead=>trivial
theorem yz {r:nI} {t:Nat} {u:Value} (kB:SR im loc aE fz w) (he:sR im loc aE w r eB bm w') (rQ:r.fr=[]) (hw:r.wr=[(t,.dead)]) (ht:t<am8 aE) (hv:VR eB bm r.v u):
 uH im loc aE w r.v (aE.set t .dead++r.news) fz eB bm w' u:=by
 have cW:(aE.set t .dead).length=(am8 aE):=by simp
 have old: ∀t' li,loc t'=amn li->t'<(am8 aE):=fun t' li h=>by
  obtain ⟨k,hk,_⟩:=kB.df t' li h;exact (Do.1 hk).1
 have Rr: ∀t' li k,loc t'=amn li->(aE.set t .dead++r.news)[t']? =amn k->k.bM=amp->t'≠t/\aE[t']? =amn k:=by
  intro t' li k h hk hs;have dI:=old t' li h;rw [EQ (by omega),al7] at hk
  split at hk
  · first|(injection hk with hk;subst hk;cases hs)|(split at hk<;>first|(injection hk with hk;subst hk;cases hs)|cases hk)
  rename_i dS;exact ⟨fun e=>dS e.symm,hk⟩
 have Rs: ∀t' k,am8 aE<=t'->(aE.set t .dead++r.news)[t']? =amn k->r.news[t'-(am8 aE)]? =amn k:=by
  intro t' k h hk
  rwa [M2 (by omega),cW] at hk
 have Hr: ∀t' li,bm t'=amn li->loc t'=amn li\/(am8 aE<=t'/\t'=am8 aE+(t'-(am8 aE))):=by
  intro t' li h;rcases he.kU t' li h with h|⟨h,_⟩
  · exact .inl h
  exact .inr ⟨h,by omega⟩
 have imn: ∀b o,eB b=amn o->im b=amn o\/w.heap.size<=b:=by
  intro b o h;rcases he.dY b o h with h|h|⟨t0,li,k,h,_⟩
  · exact .inl h
  · exact .inr h
  rw [rQ] at h;cases h
 have anM: ∀t' li k,loc t'=amn li->aE[t']? =amn k->t'≠t->k.bM=amp->BR im loc w li k->w'.heap[li.df]? =w.heap[li.df]?:=by
  intro t' li k hl hk dS hs hb;refine he.frame li.df (hb.lt hs) fun t0 k1 l0 k0 hm Ka hk0 IQ e=>?_
  rw [hw] at hm;obtain ⟨rfl,rfl⟩:t0=t/\k1= .dead:=by simpa using hm
  exact dS (kB.iI _ _ _ _ _ _ hl Ka hk hk0 hs IQ e.symm)
 have WX: ∀t' li k,bm t'=amn li->am8 aE<=t'->r.news[t'-(am8 aE)]? =amn k->BR eB bm w' li k/\
  (k.bM=amp->eB li.df=amo/\(w.heap.size<=li.df\/ ∃lt k0,loc t=amn lt/\aE[t]? =amn k0/\k0.bM=amp/\lt.df=li.df)):=by
  intro t' li k hl k7 hk;obtain ⟨h1,h2⟩:=he.news (t'-(am8 aE)) k li hk (by rw [show (am8 aE)+(t'-(am8 aE))=t' by omega];exact hl)
  refine ⟨h1,fun hs=>⟨(h2 hs).1,?_⟩⟩
  rcases (h2 hs).2 with h|⟨t0,lt,k0,hm,a,b,c,d⟩
  · exact .inl h
  rw [hw] at hm
  obtain rfl:t0=t:=by have:=aew.1 hm;injection this
  exact .inr ⟨lt,k0,a,b,c,d⟩
 have apart: ∀t1 u1 li lj k k',loc t1=amn li->t1≠t->aE[t1]? =amn k->k.bM=amp->bm u1=amn lj->am8 aE<=u1->r.news[u1-(am8 aE)]? =amn k'->k'.bM=amp->li.df≠lj.df:=by
  intro t1 u1 li lj k k' hl dS hk hs me k7 KW uD e;obtain ⟨k2,BO,hb⟩:=kB.df t1 li hl;rw [hk] at BO;injection BO with BO;subst BO;rcases ((WX u1 lj k' me k7 KW).2 uD).2 with h|⟨lt,k0,a,b,c,d⟩
  · have:=hb.lt hs;omega
  exact dS (kB.iI _ _ _ _ _ _ hl a hk b hs c (by rw [e,d]))
 exact {
  gD:=he.gD,dV:=he.dV,vr:=hv
  sr:={
   bH:=he.bH
   df:=fun t' li h=>by
    rcases Hr t' li h with ho|⟨k7,_⟩
    · obtain ⟨k,hk,hb⟩:=kB.df t' li ho
      have dI:=old t' li ho
      by_cases e:t'=t
      · subst e
        exact ⟨.dead,by rw [EQ (by omega),List.getElem?_set_self (by omega)],trivial⟩
      refine ⟨k,by rw [EQ (by omega),afK (fun x=>e x.symm)];exact hk,hb.fN he.gD he.dV fun hs=>anM t' li k ho hk e hs hb⟩
    have hn:t'-(am8 aE)<(am8 r.news):=by
     rcases he.kU t' li h with ho|⟨_,h2⟩
     · have:=old t' li ho;omega
     omega
    obtain ⟨hb,_⟩:=WX t' li _ h k7 (v6 hn);exact ⟨_,by rw [M2 (by omega),cW];exact v6 hn,hb⟩
   iI:=fun t1 u1 li lj k k' hl me hk KW hs uD e=>by
    rcases Hr t1 li hl with h1|⟨h1,_⟩<;>rcases Hr u1 lj me with h2|⟨h2,_⟩
    · obtain ⟨n1,e1⟩:=Rr _ _ _ h1 hk hs
      obtain ⟨n2,e2⟩:=Rr _ _ _ h2 KW uD;exact kB.iI _ _ _ _ _ _ h1 h2 e1 e2 hs uD e
    · obtain ⟨n1,e1⟩:=Rr _ _ _ h1 hk hs
      exact absurd e (apart _ _ _ _ _ _ h1 n1 e1 hs me h2 (Rs _ _ h2 KW) uD)
    · obtain ⟨n2,e2⟩:=Rr _ _ _ h2 KW uD
      exact absurd e.symm (apart _ _ _ _ _ _ h2 n2 e2 uD hl h1 (Rs _ _ h1 hk) hs)
    have:=he.distinct (t1-(am8 aE)) (u1-(am8 aE)) k k' li lj (Rs _ _ h1 hk) (Rs _ _ h2 KW) hs uD (by rw [show (am8 aE)+(t1-(am8 aE))=t1 by omega];exact hl) (by rw [show (am8 aE)+(u1-(am8 aE))=u1 by omega];exact me) e
    omega
   free:=fun t' li k hl hk hs hz=>by
    rcases Hr t' li hl with h1|⟨h1,_⟩
    · obtain ⟨n1,e1⟩:=Rr _ _ _ h1 hk hs
      obtain ⟨k2,BO,hb⟩:=kB.df t' li h1;rw [e1] at BO;injection BO with BO;subst BO;have h0:=kB.free t' li k h1 e1 hs hz;cases hi:eB li.df with
      |none=>rfl
      |some o=>
       rcases imn _ _ hi with h|h
       · rw [h0] at h;cases h
       have:=hb.lt hs;omega
    exact ((WX t' li k hl h1 (Rs _ _ h1 hk)).2 hs).1}
  os:=he.os,tape:=he.tape,output:=he.output,size:=he.size
  frame:=fun b hb h=>he.frame b hb fun t0 k li k0 hm hl hk hs=>h t0 li k0 hl hk hs
  dY:=fun b o h=>by
   rcases imn b o h with h|h
   · exact .inl h
   exact .inr (.inl h)
  nE:=fun t' li h=>by
   rcases Hr t' li h with h|⟨h,_⟩
   · exact .inl h
   exact .inr h
  own:=fun t' li k hl hk hs=>by
   rcases Hr t' li hl with h1|⟨h1,_⟩
   · obtain ⟨n1,e1⟩:=Rr _ _ _ h1 hk hs
     exact .inr ⟨t',li,k,h1,e1,hs,rfl⟩
   rcases ((WX t' li k hl h1 (Rs _ _ h1 hk)).2 hs).2 with h|⟨lt,k0,a,b,c,d⟩
   · exact .inl h
   exact .inr ⟨t,lt,k0,a,b,c,d⟩}
theorem SR.Hs (h:SR im loc aE fz w):loc (am8 aE)=amo:=by
 cases hl:loc (am8 aE) with
 |none=>rfl
 |some li=>obtain ⟨k,hk,_⟩:=h.df _ _ hl;simp at hk
theorem Rt {t e:Nat} {li:LI} {rows L:List Row} {arr fin:Array Value} {el:TypeId} (kB:SR im loc aE fz w) (hl:loc t=amn li) (ck:aE[t]? =amn (.arr e rows)) (dS:rows≠[]) (hf:has fz t=amq)
 (ha:w.heap[li.df]? =amn (.cells arr el (0,0))) (hh:w'.heap=w.heap.setIfInBounds li.df (.cells fin el (0,0))) (ho:w'.os=w.os) (ht:w'.tape=w.tape) (hp:w'.output=w.output)
 (qz:fin.size=li.sz) (qE:li.sh+am8 L*e<=li.sz) (hr:bO (fun k=>fin[k]?) li.sh e L):
 sR im loc aE w {v:= .own (am8 aE) e 0 (am8 L) (am8 L) amq,news:=[.arr e L],wr:=[(t,.dead)]} im (loc.set (am8 aE) ⟨li.df,li.sh,e,am8 L,li.sz⟩) w':=by
 have dI:=(NE.1 ha).1;have zQ:(jR.arr e rows).bM=amp:=m7 dS;have AM:=kB.free t li _ hl ck zQ hf;have S4:=kB.Hs;exact {
  gD:= .refl _,dV:=Loc.xn _ S4
  bH:=fun b o hb=>by
   have h1:=kB.bH b o hb;have Nr:li.df≠b:=fun e=>by rw [e,hb] at AM;cases AM
   rw [hh,ae3,rc Nr];exact h1
  dY:=fun _ _ h=> .inl h,os:=ho,tape:=ht,output:=hp
  size:=by rw [hh];simp
  Q4:=fun t' k hm hs=>by
   obtain ⟨rfl,rfl⟩:t'=t/\k= .dead:=by simpa using hm
   cases hs
  frame:=fun b _ hb=>by
   have Nr:=hb t .dead li _ (aew.2 rfl) hl ck zQ;rw [hh,ae3,rc Nr]
  wr:=fun t' k li hm me=>by
   obtain ⟨rfl,rfl⟩:t'=t/\k= .dead:=by simpa using hm
   trivial
  kU:=fun t' l h=>by
   unfold Loc.set at h;split at h
   · rename_i e;subst e;exact .inr ⟨If _,by simp⟩
   exact .inl h
  news:=BZ fun j k hj=>by
   cases j with
   |zero=>
    simp at hj;subst hj;refine ⟨_,Loc.eT _ _ _,⟨rfl,rfl,fun _=>⟨fin,el,by rw [hh];simp [dI],qz,qE,hr⟩⟩,fun _=>⟨AM,.inr ⟨t,li,_,aew.2 rfl,hl,ck,zQ,rfl⟩⟩⟩
   |succ j=>simp at hj
  distinct:=fun i j ki kj li lj h1 h2 _ _ _ _ _=>by
   cases i<;>cases j<;>simp at h1 h2<;>rfl}
theorem Ht {t e:Nat} {L:List Row} {fin:Array Value} {el:TypeId} (kB:SR im loc aE fz w)
 (hh:w'.heap=w.heap.push (.cells fin el (0,0))) (ho:w'.os=w.os) (ht:w'.tape=w.tape) (hp:w'.output=w.output)
 (qE:(am8 L)*e<=fin.size) (hr:bO (fun k=>fin[k]?) 0 e L):
 sR im loc aE w {v:= .own (am8 aE) e 0 (am8 L) (am8 L) amq,news:=[.arr e L],wr:=[(t,.dead)]} im (loc.set (am8 aE) ⟨w.heap.size,0,e,am8 L,fin.size⟩) w':=by
 have S4:=kB.Hs;have old: ∀b,b<w.heap.size->w'.heap[b]? =w.heap[b]?:=fun b hb=>by rw [hh,Array.getElem?_push,rc (by omega)]
 have dI: ∀b o,im b=amn o->b<w.heap.size:=fun b o h=>(NE.1 (kB.bH b o h)).1
 exact {
  gD:= .refl _,dV:=Loc.xn _ S4
  bH:=fun b o hb=>by rw [old b (dI b o hb)];exact kB.bH b o hb
  dY:=fun _ _ h=> .inl h,os:=ho,tape:=ht,output:=hp
  size:=by rw [hh];simp
  Q4:=fun t' k hm hs=>by
   obtain ⟨rfl,rfl⟩:t'=t/\k= .dead:=by simpa using hm
   cases hs
  frame:=fun b hb _=>old b hb
  wr:=fun t' k li hm me=>by
   obtain ⟨rfl,rfl⟩:t'=t/\k= .dead:=by simpa using hm
   trivial
  kU:=fun t' l h=>by
   unfold Loc.set at h;split at h
   · rename_i e;subst e;exact .inr ⟨If _,by simp⟩
   exact .inl h
  news:=BZ fun j k hj=>by
   cases j with
   |zero=>
    simp at hj;subst hj;refine ⟨_,Loc.eT _ _ _,⟨rfl,rfl,fun _=>⟨fin,el,by rw [hh];simp,rfl,by simpa using qE,hr⟩⟩,fun _=>⟨?_,.inl (If _)⟩⟩
    cases hi:im w.heap.size with
    |none=>rfl
    |some o=>have:=dI _ _ hi;omega
   |succ j=>simp at hj
  distinct:=fun i j ki kj li lj h1 h2 _ _ _ _ _=>by
   cases i<;>cases j<;>simp at h1 h2<;>rfl}
theorem Hu {esz:Nat}: ∀{rows:List Row} (_: ∀r∈rows,am8 r=esz) (i:Nat),(rows.take i).flatMap aV=(rows.flatMap aV).take (i*esz)
 | [],_,i=>by simp
 |r::rs,h,0=>by simp
 |r::rs,h,i+1=>by
  have hr:(aV r).length=esz:=by rw [lg];exact h r (by simp)
  have e1:(aV r).take ((i+1)*esz)=aV r:=aeA (by rw [hr,afY];omega)
  rw [List.take_succ_cons,afn,Hu (fun x hx=>h x (by simp [hx])) i,afn,List.take_append,e1,hr,show (i+1)*esz-esz=i*esz by rw [afY];omega]
theorem Hv {esz:Nat}: ∀{rows:List Row} (_: ∀r∈rows,am8 r=esz) (i:Nat),(rows.drop i).flatMap aV=(rows.flatMap aV).drop (i*esz)
 | [],_,i=>by simp
 |r::rs,h,0=>by simp
 |r::rs,h,i+1=>by
  have hr:(aV r).length=esz:=by rw [lg];exact h r (by simp)
  have e1:(aV r).drop ((i+1)*esz)=[]:=afu (by rw [hr,afY];omega)
  rw [List.drop_succ_cons,Hv (fun x hx=>h x (by simp [hx])) i,afn,List.drop_append,e1,hr,show (i+1)*esz-esz=i*esz by rw [afY];omega,List.nil_append]
theorem WY {α:Type} {o k:Nat} {cs vs l:List α} (hl:o+(am8 cs+am8 vs)<=am8 l) (hk:k<=am8 cs) (mL: ∀j v,j<k->cs[j]? =amn v->l[o+j]? =amn v):
 ∀j v,(cs.take k++vs++cs.drop k)[j]? =amn v->(mA (o+k) vs (mA (o+k+am8 vs) (cs.drop k) l))[o+j]? =amn v:=by
 intro j v h;have hd:(cs.drop k).length=am8 cs-k:=afp;have ht:(cs.take k).length=k:=by rw [aft];omega
 have l1:o+k+am8 vs+(cs.drop k).length<=(am8 l):=by rw [hd];omega
 rw [gU _ _ _ (by rw [cZ _ _ _ l1];omega)]
 rcases acK j k with h1|h1
 · rw [rc (by omega),gU _ _ _ l1,rc (by omega)]
   rw [aeE,EQ (by omega),afo h1] at h
   exact mL j v h1 h
 rw [aeE,M2 (by omega),ht] at h
 rcases acK (j-k) (am8 vs) with h2|h2
 · rw [EQ h2] at h
   rw [pp ⟨by omega,by omega⟩,<- h]
   congr 1;omega
 rw [M2 h2] at h
 have:=(Do.1 h).1
 rw [rc (by omega),gU _ _ _ l1,pp ⟨by omega,by omega⟩,<- h]
 congr 1;omega
theorem TC {α:Type} {k:Nat} {cs vs l:List α} (hl:(am8 cs)+am8 vs<=am8 l) (hk:k<=am8 cs) (mL: ∀(j:Nat) (v:α),j<k->cs[j]? =amn v->l[j]? =amn v):
 ∀(j:Nat) (v:α),(cs.take k++vs++cs.drop k)[j]? =amn v->(mA (k+am8 vs) (cs.drop k) (mA k vs l))[j]? =amn v:=by
 intro j v h;have hd:(cs.drop k).length=am8 cs-k:=afp;have ht:(cs.take k).length=k:=by rw [aft];omega
 have l1:k+am8 vs<=(am8 l):=by omega
 rw [gU _ _ _ (by rw [cZ _ _ _ l1,hd];omega)]
 rcases acK j k with h1|h1
 · rw [rc (by omega),gU _ _ _ l1,rc (by omega)]
   rw [aeE,EQ (by omega),afo h1] at h
   exact mL j v h1 h
 rw [aeE,M2 (by omega),ht] at h
 rcases acK (j-k) (am8 vs) with h2|h2
 · rw [EQ h2] at h
   rw [rc (by omega),gU _ _ _ l1,pp ⟨by omega,by omega⟩,<- h]
 rw [M2 h2] at h
 have:=(Do.1 h).1
 rw [pp ⟨by omega,by omega⟩,<- h]
 congr 1;omega
theorem SR.Ru (h:SR im loc aE fz w) {t:Nat} (hf:has fz t=amq) {r:nI} (hw:r.wr=[(t,.dead)]):jl im loc aE w r where
 bH:=h.bH
 tok:=fun t _ li hl=>h.df t li hl
 free:=fun t' k hm li k' hl hk hs=>by
  rw [hw] at hm;obtain rfl:t'=t:=by have:=aew.1 hm;injection this
  exact h.free t' li k' hl hk hs hf
 fresh:=fun j hj=>by
  cases hl:loc (am8 aE+j) with
  |none=>rfl
  |some li=>obtain ⟨k,hk,_⟩:=h.df _ _ hl;rw [List.getElem?_eq_none (by omega)] at hk;cases hk
 iI:=fun t u li lj k k' _ _=>h.iI t u li lj k k'
structure K1 (P:Program) (f:FuncId) (e:Nat) (tS:TypeId):Prop where
 ends: ∀(nR:Option Addr) (n c vb oH vc:Nat) (w w':World) (v':Value),n<=c->(Builtin.append_ #[tS,tS] tS #[.slice nR n c,.slice (amn ⟨vb,oH,amo⟩) 1 vc]).run P w= .ok v' w'->
  Calls P f #[.slice nR n c,.int .i64 n,.slice (amn ⟨vb,oH,amo⟩) 1 vc] w fun e W=>e= .returned v'/\W=w'
 room: ∀(b off n c i vb oH vc:Nat) (cs vs:List Value) (arr av:Array Value) (el ev:TypeId) (w:World),i<n->n+1<=c->n<=1048576->vb≠b->w.heap[b]? =amn (.cells arr el (0,0))->w.heap[vb]? =amn (.cells av ev (0,0))->
  off+(n+1)*e<=arr.size->am8 cs=n*e->am8 vs=e->(∀(j:Nat) (v:Value),cs[j]? =amn v->arr[off+j]? =amn v)->(∀(j:Nat) (v:Value),vs[j]? =amn v->av[oH+j]? =amn v)->(∀v∈cs,v.oneCell'=amp)->(∀v∈vs,v.oneCell'=amp)->
  ∃fin:List Value,am8 fin=arr.size/\(∀(j:Nat) (v:Value),(cs.take (i*e)++vs++cs.drop (i*e))[j]? =amn v->fin[off+j]? =amn v)/\
  Calls P f #[.slice (amn ⟨b,off,amo⟩) n c,.int .i64 i,.slice (amn ⟨vb,oH,amo⟩) 1 vc] w fun x w'=>
   x= .returned (.slice (amn ⟨b,off,amo⟩) (n+1) c)/\w'.heap=w.heap.setIfInBounds b (.cells fin.toArray el (0,0))/\w'.os=w.os/\w'.tape=w.tape/\w'.output=w.output
 full: ∀(b off n i vb oH vc:Nat) (cs vs:List Value) (w:World),i<n->n<=1048576->am8 cs=n*e->am8 vs=e->
  (∀(j:Nat) (v:Value),cs[j]? =amn v->w.cell? ⟨b,off+j,amo⟩=amn v)->(∀(j:Nat) (v:Value),vs[j]? =amn v->w.cell? ⟨vb,oH+j,amo⟩=amn v)->(∀v∈cs,v.oneCell'=amp)->(∀v∈vs,v.oneCell'=amp)->
  ∃(G:Nat) (fin:List Value) (el:TypeId),n+1<=G/\am8 fin=G*e/\(∀(j:Nat) (v:Value),(cs.take (i*e)++vs++cs.drop (i*e))[j]? =amn v->fin[j]? =amn v)/\
  Calls P f #[.slice (amn ⟨b,off,amo⟩) n n,.int .i64 i,.slice (amn ⟨vb,oH,amo⟩) 1 vc] w fun x w'=>
   x= .returned (.slice (amn ⟨w.heap.size,0,amo⟩) (n+1) G)/\w'.heap=w.heap.push (.cells fin.toArray el (0,0))/\w'.os=w.os/\w'.tape=w.tape/\w'.output=w.output
theorem AP.ins {f:FuncId} {e:Nat} {tS tE:TypeId} {fn:Func} {c:Code} {i0:TypeInfo} {z:Value} (hf:P.funcs[f]? =amn fn) (p5:(fn.name== "runtime.NumGoroutine")=amq) (hb:fn.body=amn c)
 (ht:P.underlying tS=amn (.slice tE)) (hi:P.info? tE=amn i0) (qz:i0.size=e) (hz:i0.zero=amn z) (Kx:z.cells.size=e) (Np:i0.bytes<=1048576) (he0:0<e) (H:K1 P f e tS):AP P f (Iu e):=by
 refine ⟨fn,c,hf,p5,hb,?_⟩;intro args aE fz v uI IJ hp im loc w us kB xf;unfold Iu at hp;split at hp
 case h_2=>cases hp
 rename_i t e1 off len cap ex i u e2 amW Kn TD ex2;split at hp
 case h_2=>cases hp
 rename_i e3 rows e4 new ck hsu;split at hp
 case isFalse=>cases hp
 rename_i hc;simp only [ut,ajD,UV,decide_eq_true_eq,aeH] at hc;obtain ⟨⟨⟨⟨⟨⟨⟨⟨⟨⟨⟨q1,q2⟩,rfl⟩,rfl⟩,cW⟩,rfl⟩,AJ⟩,htu⟩,SI⟩,PD⟩,hil⟩,ik⟩:=hc;have q1:=q1.symm;subst q1;have q2:=q2.symm;subst q2;have ik:len+1<=1048576:=ik;injection hp with hp;simp only [IR] at hp;obtain ⟨rfl,rfl,rfl⟩:=hp
 obtain ⟨k,rfl⟩: ∃k:Nat,i=(k:Int):=⟨i.toNat,by omega⟩
 simp only [Int.toNat_natCast] at hil ⊢;obtain ⟨x0,Rv,rfl,IV,xf⟩: ∃x0 Rv,us=x0::Rv/\VR im loc (.own t e 0 len cap ex) x0/\eX im loc [.int .i64 (k:Int),.own u e 0 1 TD ex2] Rv:=by cases xf with|cons _ a _ b h1 h2=>exact ⟨a,b,rfl,h1,h2⟩
 obtain ⟨x1,us2,rfl,GX,xf⟩: ∃x1 us2,Rv=x1::us2/\VR im loc (.int .i64 (k:Int)) x1/\eX im loc [.own u e 0 1 TD ex2] us2:=by cases xf with|cons _ a _ b h1 h2=>exact ⟨a,b,rfl,h1,h2⟩
 obtain ⟨x2,us3,rfl,WW,xf⟩: ∃x2 us3,us2=x2::us3/\VR im loc (.own u e 0 1 TD ex2) x2/\eX im loc [] us3:=by cases xf with|cons _ a _ b h1 h2=>exact ⟨a,b,rfl,h1,h2⟩
 obtain rfl:us3=[]:=by cases xf;rfl
 have GX:=GX.gr;subst GX;obtain ⟨li,a,cY,rfl,hl,he,B0,hlc,Nj,_,AL⟩:=IV.gT;obtain ⟨lj,a2,TE,rfl,Kw,CZ,avB,axh,axi,_,anP⟩:=WW.gT;have ND:t<(am8 aE):=(Do.1 ck).1;obtain ⟨k1,gQ,rR⟩:=kB.df t li hl;rw [ck] at gQ;injection gQ with gQ;subst gQ;obtain ⟨k2,BO,asw⟩:=kB.df u lj Kw;rw [hsu] at BO;injection BO with BO;subst BO
 obtain ⟨b1,b2,b3⟩:=rR;obtain ⟨d1,d2,d3⟩:=asw;have afV:new≠[]:=by intro h;subst h;simp at AJ
 obtain ⟨av,ev,Na,hv2,hv3,afW⟩:=d3 afV;have e34:e=e3:=by rw [<- b1,he]
 subst e34;have e44:e=e4:=by rw [<- d1,CZ]
 subst e44;obtain rfl:a2=amn ⟨lj.df,lj.sh,amo⟩:=by
  rcases anP with h|⟨_,h,_⟩
  · omega
  simpa using h
 have GR:=afW.nP;have SJ:=afW.plain;have GS:=dF GR;rw [AJ] at GS;refine .inr ⟨ir hf p5 hb,?_⟩;rcases acK k len with hk|hk
 ·
  have nS:rows≠[]:=by intro h;subst h;simp at cW;omega
  obtain ⟨arr,el,sU,Iz,J',db⟩:=b3 nS;obtain ⟨Wx,rfl,qE⟩:li.n≠0/\a=amn ⟨li.df,li.sh,amo⟩/\li.sh+cY*e<=li.sz:=by
   rcases AL with h|⟨h1,h2,h3⟩
   · omega
   exact ⟨h1,by simpa using h2,by simpa using h3⟩
  have Ku:=db.nP;have WA:=db.plain;have S2:=dF Ku;rw [<- cW] at S2;obtain ⟨L,hL⟩: ∃L,L=rows.take k++new++rows.drop k:=⟨_,rfl⟩;have hLl:(am8 L)=len+1:=by rw [hL];simp only [aex,aft,afp,AJ];omega
  have hLf:L.flatMap aV=(rows.flatMap aV).take (k*e)++new.flatMap aV++(rows.flatMap aV).drop (k*e):=by
   rw [hL,af5,af5,Hu Ku,Hv Ku]
  have hLr: ∀r∈L,am8 r=e:=by
   intro r hr;rw [hL] at hr;rcases ae0.1 hr with h|h
   · rcases ae0.1 h with h|h
     · exact Ku r (agd h)
     exact GR r h
   exact Ku r (age h)
  have hLp: ∀r∈L,∀c∈r,c.plain=amp:=by
   intro r hr;rw [hL] at hr;rcases ae0.1 hr with h|h
   · rcases ae0.1 h with h|h
     · exact WA r (agd h)
     exact SJ r h
   exact WA r (age h)
  rw [<- hL,<- hLl];have mL: ∀j v,(rows.flatMap aV)[j]? =amn v->arr[li.sh+j]? =amn v:=fun j v hj=>db.flat j v hj
  have IE: ∀j v,(new.flatMap aV)[j]? =amn v->av[lj.sh+j]? =amn v:=fun j v hj=>afW.flat j v hj
  have GO:(len+1)*e<=cY*e\/cY=len:=by
   rcases acK len cY with h|h
   · exact .inl (aig _ h)
   exact .inr (by omega)
  rcases GO with sV|Pz
  · have anR:len+1<=cY:=Nat.le_of_mul_le_mul_right sV he0
    have dS:lj.df≠li.df:=fun h=>by
     have:=kB.iI u t lj li _ _ Kw hl hsu ck (m7 afV) (m7 nS) h
     rw [this] at htu;simp at htu
    obtain ⟨fin,f1,f2,f3⟩:=H.room li.df li.sh len cY k lj.df lj.sh TE _ _ arr av el ev w hk anR (by omega) dS sU Na (by omega) S2 (by omega) mL IE (nQ WA) (nQ SJ)
    refine f3.mono fun x w' ⟨hx,hh,ho,htp,hpp⟩=>⟨_,hx,im,loc.set (am8 aE) ⟨li.df,li.sh,e,am8 L,li.sz⟩,?_⟩
    have hE:=Rt (w':=w') (L:=L) kB hl ck nS SI sU hh ho htp hpp (by simp [f1,Iz]) (by rw [hLl];omega) (bO.zO hLr hLp fun j v hj=>by
     rw [hLf] at hj;simpa using f2 j v hj)
    refine yz kB hE rfl rfl ND ?_;rw [<- hLl];exact .own _ _ 0 _ _ amq ⟨li.df,li.sh,e,am8 L,li.sz⟩ _ cY (Loc.eT _ _ _) rfl (by show 0+am8 L<=am8 L;omega) (If _) (by omega) (fun h=>by cases h) (.inr ⟨by show (am8 L)≠0;omega,by simp,by show li.sh+(0+cY)*e<=li.sz;rw [am7];exact qE⟩)
  subst Pz
  obtain ⟨G,fin,el',g1,g2,g3,g4⟩:=H.full li.df li.sh cY k lj.df lj.sh TE _ _ w hk (by omega) S2 (by omega) (fun j v hj=>by simp only [alu,sU];exact mL j v hj) (fun j v hj=>by simp only [alu,Na];exact IE j v hj) (nQ WA) (nQ SJ)
  have hg:(cY+1)*e<=G*e:=aig _ g1;refine g4.mono fun x w' ⟨hx,hh,ho,htp,hpp⟩=>⟨_,hx,im,loc.set (am8 aE) ⟨w.heap.size,0,e,am8 L,fin.toArray.size⟩,?_⟩
  have hE:=Ht (w':=w') (t:=t) (L:=L) (e:=e) kB hh ho htp hpp (by rw [hLl];simp [g2];omega) (bO.zO hLr hLp fun j v hj=>by
   rw [hLf] at hj;simpa using g3 j v hj)
  refine yz kB hE rfl rfl ND ?_;rw [<- hLl];exact .own _ _ 0 _ _ amq ⟨w.heap.size,0,e,am8 L,fin.toArray.size⟩ _ G (Loc.eT _ _ _) rfl (by show 0+am8 L<=am8 L;omega) (If _) (by omega) (fun h=>by cases h) (.inr ⟨by show (am8 L)≠0;omega,by simp,by show 0+(0+G)*e<=fin.toArray.size;simp [g2]⟩)
 ·
  obtain rfl:k=len:=by omega
  have asx:rows.take k++new++rows.drop k=rows++new:=by
   rw [aeA (by omega),afu (by omega),List.append_nil]
  rw [asx];have asz:VR im loc (.own t e 0 k k amq) (.slice a k cY):= .own t e 0 k k amq li a cY hl he (by omega) (If _) (by omega) (by simp) AL
  have AB:rowsOf aE e (.own u e 0 1 TD ex2)=amn new:=by
   have:(new.drop 0).take 1=new:=by rw [am1,aeA (by omega)]
   show (if AC e e=amp then (match aE[u]? with|some (.arr _ rows)=>amn ((rows.drop 0).take 1)|_=>amo) else amo)=_
   rw [pp (Nat.beq_refl e),hsu];exact congrArg amn this
  have hap:iP aE fz e (.own t e 0 k k amq) (.own u e 0 1 TD ex2)=amn {v:= .own (am8 aE) e 0 (k+1) (k+1) amq,news:=[.arr e (rows++new)],wr:=[(t,.dead)],rd:=[u]}:=by
   have h1:aem (k+1) k=amq:=by
    cases h:aem (k+1) k with
    |false=>rfl
    |true=>have:=Nat.le_of_ble_eq_true h;omega
   have h2:aem (k+1) dH=amp:=by simpa [dH] using ik
   have h3:(rows.drop 0).take k=rows:=by rw [am1,aeA (by omega)]
   unfold iP;rw [AB];cases new with
   |nil=>exact absurd rfl afV
   |cons r rs=>
    have h0:(r::rs).length=1:=AJ;simp only [h0,ck,h1,h2,h3,SI,iO];simp
  obtain ⟨v',w',bm,cq,oG,hE⟩:=Ek (P:=P) (w:=w) (ty:=tS) ht ht hi qz hz Kx Np asz WW hap (kB.Ru SI rfl);refine (H.ends a k cY lj.df lj.sh TE w w' v' (by omega) cq).mono fun x W ⟨hx,hW⟩=>⟨v',hx,im,bm,?_⟩
  subst hW;exact yz kB hE rfl rfl ND oG
end
end Go.Vm
/- slices.Concat of two slices that nobody writes to: the table's entry. -/
namespace Go.Vm
def TF (P : Program) (f : FuncId) : Prop :=
  ∀ (vb c : Nat) (a1 a2 : Option Addr) (c1 c2 : Nat) (GY GZ : List Value) (av : Array Value) (ev : TypeId) (w : World), w.heap[vb]? = amn (.cells av ev (0, 0)) -> av[0]? = amn (.slice a1 (am8 GY) c1) -> av[1]? = amn (.slice a2 (am8 GZ) c2) -> 1 <= (am8 GY) + (am8 GZ) -> (am8 GY) + (am8 GZ) <= 1048576 ->
    (∀ (j : Nat) (v : Value), GY[j]? = amn v -> ∃ b o, a1 = amn ⟨b, o, amo⟩ /\ w.cell? ⟨b, o + j, amo⟩ = amn v) -> (∀ (j : Nat) (v : Value), GZ[j]? = amn v -> ∃ b o, a2 = amn ⟨b, o, amo⟩ /\ w.cell? ⟨b, o + j, amo⟩ = amn v) -> (∀ v ∈ GY, v.oneCell' = amp) -> (∀ v ∈ GZ, v.oneCell' = amp) ->
    ∃ (G : Nat) (fin : List Value) (el : TypeId), (am8 GY) + (am8 GZ) <= G /\ (am8 fin) = G /\ (∀ (j : Nat) (v : Value), (GY ++ GZ)[j]? = amn v -> fin[j]? = amn v) /\
    Calls P f #[.slice (amn ⟨vb, 0, amo⟩) 2 c] w fun x w' => x = .returned (.slice (amn ⟨w.heap.size, 0, amo⟩) ((am8 GY) + (am8 GZ)) G) /\ w'.heap = w.heap.push (.cells fin.toArray el (0, 0)) /\ w'.os = w.os /\ w'.tape = w.tape /\ w'.output = w.output
section
variable {P : Program} {im : Im} {loc : Loc} {w : World}
theorem mN {rows:List Row} (h:vn rows=amp):(∀r∈rows,am8 r=1)/\ ∀r∈rows,∀c∈r,c.plain=amp:=by
 unfold vn at h;rw [aet] at h;constructor
 · intro r hr
   have:=h r hr
   simp only [ut,ajD] at this;exact this.1
 intro r hr c hc
 have:=h r hr
 simp only [ut,aet] at this;exact this.2 c hc
theorem K2 {e:Nat} {cl:Bool} {rows:List Row} {u:Value} (h:VR im loc (.sl e cl rows) u) (h1:vn rows=amp) (he:(AC e 1||rows.isEmpty)=amp) (bH: ∀b o,im b=amn o->w.heap[b]? =amn o):
 ∃a c,u= .slice a (rows.flatMap aV).length c/\(rows.flatMap aV).length=am8 rows/\ ∀(j:Nat) (v:Value),(rows.flatMap aV)[j]? =amn v-> ∃b o,a=amn ⟨b,o,amo⟩/\w.cell? ⟨b,o+j,amo⟩=amn v:=by
 obtain ⟨a,cap,rfl,_,_,lf⟩:=h.nO;obtain ⟨l1,l2⟩:=mN h1;have hl:=dF l1;rw [Nat.mul_one] at hl;refine ⟨a,cap,by rw [hl],hl,fun j v hj=>?_⟩
 have dS:rows≠[]:=by intro h;subst h;simp at hj
 obtain ⟨b,o,rfl,db⟩:=lf dS;obtain rfl:e=1:=by
  cases rows with
  |nil=>exact absurd rfl dS
  |cons r rs=>simpa using he
 exact ⟨b,o,rfl,pX bH (db.flat j v hj)⟩
theorem AP.cat {f:FuncId} {fn:Func} {c:Code} (hf:P.funcs[f]? =amn fn) (p5:(fn.name== "runtime.NumGoroutine")=amq) (hb:fn.body=amn c) (H:TF P f):AP P f Is:=by
 refine ⟨fn,c,hf,p5,hb,?_⟩;intro args aE fz v uI IJ hp im loc w us kB xf;unfold Is at hp;split at hp
 case h_2=>cases hp
 rename_i t e off len cap ex;split at hp
 case h_2=>cases hp
 rename_i e1 cl1 x e2 cl2 y ck;split at hp
 case isFalse=>cases hp
 rename_i hc;simp only [ut,ajD,UV,aeH] at hc;obtain ⟨⟨⟨⟨⟨⟨⟨⟨⟨rfl,rfl⟩,rfl⟩,SI⟩,GX⟩,WZ⟩,GQ⟩,ik⟩,SK⟩,CZ⟩:=hc;have ik:(am8 x)+am8 y<=1048576:=ik;injection hp with hp;simp only [IR] at hp;obtain ⟨rfl,rfl,rfl⟩:=hp
 obtain ⟨x0,Rv,rfl,IV,xf⟩: ∃x0 Rv,us=x0::Rv/\VR im loc (.own t 1 0 2 cap ex) x0/\eX im loc [] Rv:=by cases xf with|cons _ a _ b h1 h2=>exact ⟨a,b,rfl,h1,h2⟩
 obtain rfl:Rv=[]:=by cases xf;rfl
 obtain ⟨li,a,cY,rfl,hl,he,B0,hlc,Nj,_,AL⟩:=IV.gT;obtain ⟨k1,gQ,rR⟩:=kB.df t li hl;rw [ck] at gQ;injection gQ with gQ;subst gQ;obtain ⟨_,_,b3,vs,ev,b4,b5,b6⟩:=rR;have ND:t<(am8 aE):=(Do.1 ck).1
 obtain ⟨u1,vs1,rfl,v1,b6⟩: ∃u1 vs1,vs=u1::vs1/\VR im loc (.sl e1 cl1 x) u1/\eX im loc [.sl e2 cl2 y] vs1:=by cases b6 with|cons _ a _ b h1 h2=>exact ⟨a,b,rfl,h1,h2⟩
 obtain ⟨u2,vs2,rfl,v2,b6⟩: ∃u2 vs2,vs1=u2::vs2/\VR im loc (.sl e2 cl2 y) u2/\eX im loc [] vs2:=by cases b6 with|cons _ a _ b h1 h2=>exact ⟨a,b,rfl,h1,h2⟩
 obtain rfl:vs2=[]:=by cases b6;rfl
 obtain rfl:a=amn ⟨li.df,0,amo⟩:=by
  rcases AL with h|⟨_,h,_⟩
  · omega
  rw [b3] at h;simpa using h
 obtain ⟨a1,d1,rfl,l1,r1⟩:=K2 v1 GX SK kB.bH;obtain ⟨a2,d2,rfl,l2,r2⟩:=K2 v2 WZ CZ kB.bH;obtain ⟨G,fin,el,g1,g2,g3,g4⟩:=H li.df cY a1 a2 d1 d2 (x.flatMap aV) (y.flatMap aV) _ ev w b4 rfl rfl (by omega) (by omega) r1 r2 (nQ (mN GX).2) (nQ (mN WZ).2)
 refine .inr ⟨ir hf p5 hb,?_⟩;have hL:(x++y).length=(x.flatMap aV).length+(y.flatMap aV).length:=by rw [aex];omega
 refine g4.mono fun z w' ⟨hz,hh,ho,htp,hpp⟩=>⟨_,hz,im,loc.set (am8 aE) ⟨w.heap.size,0,1,(x++y).length,fin.toArray.size⟩,?_⟩
 have hE:=Ht (w':=w') (t:=t) (L:=x++y) (e:=1) kB hh ho htp hpp (by rw [Nat.mul_one,hL,List.size_toArray,g2];exact g1) (bO.zO (fun r hr=>by
  rcases ae0.1 hr with h|h
  · exact (mN GX).1 r h
  · exact (mN WZ).1 r h) (fun r hr=>by
  rcases ae0.1 hr with h|h
  · exact (mN GX).2 r h
  · exact (mN WZ).2 r h) fun j v hj=>by
  rw [af5] at hj;simpa using g3 j v hj)
 refine yz kB hE rfl rfl ND ?_;rw [<- hL];exact .own _ _ 0 _ _ amq ⟨w.heap.size,0,1,(x++y).length,fin.toArray.size⟩ _ G (Loc.eT _ _ _) rfl (by show 0+(x++y).length<=(x++y).length;rw [am7];exact If _) (If _) (by rw [hL];exact g1) (fun h=>by cases h) (.inr ⟨by show (x++y).length≠0;omega,by simp,by show 0+(0+G)*1<=fin.toArray.size;simp [g2]⟩)
end
end Go.Vm
/- A table of functions as a tree. -/
namespace Go.Vm
inductive TT where
 |nil
 |leaf (k:Nat) (e:Ent)
 |node (m:Nat) (a b:TT)
def TT.get:TT->Nat->Option Ent
 | .nil,_=>amo
 | .leaf k e,f=>bif AC f k then amn e else amo
 | .node m a b,f=>bif aeZ f m then a.get f else b.get f
def TT.All (p:Nat->Ent->Prop):TT->Prop
 | .nil=>True
 | .leaf k e=>p k e
 | .node _ a b=>a.All p/\b.All p
theorem TT.AY {p:Nat->Ent->Prop}: ∀{t:TT} {f:Nat} {e:Ent},t.All p->t.get f=amn e->p f e
 | .nil,f,e,_,h=>by cases h
 | .leaf k e',f,e,ha,h=>by
  simp only [TT.get] at h;cases hk:AC f k with
  |false=>rw [hk] at h;cases h
  |true=>
   rw [hk] at h
   have:f=k:=by simpa using hk
   subst this;have h:amn e'=amn e:=h;injection h with h;subst h;exact ha
 | .node m a b,f,e,ha,h=>by
  simp only [TT.get] at h;cases hk:aeZ f m with
  |false=>rw [hk] at h;exact TT.AY ha.2 h
  |true=>rw [hk] at h;exact TT.AY ha.1 h
def sY (P:Program) (f:Nat):Ent->Prop
 | .code x=>az P (fun _=>amp) x f=amp
 | .j0 k p=>k=amq/\IK P f p
 | .GI p=>AP P f p
theorem TT.anU {P:Program} {t:TT} (h:t.All (sY P)):KX P (fun _=>amp) t.get:=fun f x hf=>by
 have:=TT.AY h hf
 exact this
theorem TT.W0 {P:Program} {t:TT} (h:t.All (sY P)):yt P t.get:=⟨fun _ _ _ hf=>TT.AY h hf,fun _ _ hf=>TT.AY h hf⟩
end Go.Vm
/- The logical machine's code of a function, reckoned from the model's own (what it comes to is looked at by chkFunc; nothing is proved of it here). -/
namespace Go.Vm
structure Hint where
 md:FuncId->CM
 fN:List Nat
 asA:List (Nat×List (Nat×Nat)):=[]
 more:List (Nat×List (Nat×Option Nat)):=[]
 tb:Bool:=amq
section
variable (P : Program)
def Rw (t:TypeId):Nat:=match P.info? t with
 |some i=>i.size
 |none=>0
def NK (t:TypeId):Option Nat:=match P.underlying t with
 |some (.struct _)|some (.array _ _)=>amn (Rw P t)
 |_=>amo
def tO:Nat->TypeId->List PV
 |0,_=>[]
 |n+1,t=>match P.underlying t with
  |some (.int k)=>[.int k 0]
  |some .bool=>[.bool amq]
  |some .string=>[.str .empty]
  |some (.slice e)=>[.sl (Rw P e) amp []]
  |some (.struct fs)=>fs.toList.flatMap fun f=>tO n f.type
  |some (.array m e)=>(aeF m (tO n e)).flatten
  |some (.func ..)=>[.dU]
  |_=>[.undef]
def aeN (t:TypeId):PV:=match tO P 9 t with
 |x::_=>x
 | []=> .sl 0 amp []
def aeO (t:TypeId):PV:=match NK P t with
 |some _=> .agg (tO P 9 t)
 |none=>aeN P t
def aeP (z:PV):Value->PV
 | .int k n=> .int k n
 | .bool b=> .bool b
 | .string s=> .str s
 | .slice .. =>z
 | .nilFunc=> .dU
 |_=> .undef
def aeQ:List PV->List Value->List PV
 |z::zs,v::vs=>aeP z v::aeQ zs vs
 |_,_=>[]
def asB (t:TypeId):Value->PV
 | .agg vs=> .agg (aeQ (tO P 9 t) vs.toList)
 |v=>aeP (aeN P t) v
def q8 (t:TypeId):Operand->fy
 | .tmp n=> .t n
 | .const v=> .c (asB P t v)
 | .func f=> .c (.eL f [] [])
 | .global _=> .c .undef
def TG:List TypeId->List Operand->List fy
 |t::ts,o::os=>q8 P t o::TG ts os
 |_,_=>[]
def gy:Operand->fy
 | .tmp n=> .t n
 | .const (.int k n)=> .c (.int k n)
 | .const (.bool b)=> .c (.bool b)
 | .const (.string s)=> .c (.str s)
 | .func f=> .c (.eL f [] [])
 |_=> .c .undef
def zi (t:TypeId):TypeId:=match P.underlying t with
 |some (.slice e)=>e
 |some (.array _ e)=>e
 |_=>0
def TH (place:Nat->Option (Nat×Nat)) (ty:Nat->TypeId):List (Nat×Operand)->List (Nat×Nat×fy)
 | []=>[]
 |(i,o)::r=>match place i with
  |some (a,b)=>(a,b,q8 P (ty i) o)::TH place ty r
  |none=>[]
def TI (t:TypeId) (i:Nat):TypeId:=match P.underlying t with
 |some (.struct fs)=>match fs[i]? with
  |some f=>f.type
  |none=>0
 |some (.array _ e)=>e
 |_=>0
def anV (t:TypeId) (i:Nat):Nat:=match P.underlying t with
 |some (.struct fs)=>match fs[i]? with
  |some f=>f.offset
  |none=>0
 |_=>0
def aeR:BinOp->Bool
 | .neq=>amp
 |_=>amq
def TJ (b:Builtin) (args:List Operand) (ts:List TypeId):kS:=
 match b,args,ts with
 | .len,x::_,t::_=>match P.underlying t with
  |some (.slice _)|some (.map _ _)=> .len (q8 P t x)
  |some (.array m _)=> .Nh m
  |some (.pointer e)=>match P.underlying e with
   |some (.array m _)=> .Nh m
   |_=> .bad
  |_=> .bad
 | .append,[x,y],[t,u]=>match P.underlying u with
  |some (.slice _)=> .append (Rw P (zi P t)) (q8 P t x) (q8 P u y)
  |_=> .bad
 | .copy,[x,y],[t,u]=>match P.underlying u with
  |some (.slice _)=> .copy (Rw P (zi P t)) (q8 P t x) (q8 P u y)
  |_=> .bad
 | .clear,[x],[t]=>match P.underlying t with
  |some (.slice e)=> .clear (Rw P e) (tO P 9 e) (q8 P t x)
  |_=> .bad
 | .min,x::xs,_=> .mm amq (gy x) (xs.map gy)
 | .max,x::xs,_=> .mm amp (gy x) (xs.map gy)
 |_,_,_=> .bad
def cOp (tb:Bool) (md:FuncId->CM) (ty:TypeId):Op->kS
 | .move x| .assign x=> .SG (q8 P ty x)
 | .pick c a b=> .pick (gy c) (q8 P ty a) (q8 P ty b)
 | .binOp op t x y _=>match P.underlying t with
  |some (.int _)=> .bin op (gy x) (gy y)
  |some .bool=> .Kf (aeR op) (gy x) (gy y)
  |some (.struct _)|some (.array _ _)=> .eqc (Rw P t) (aeR op) (q8 P t x) (q8 P t y)
  |_=> .bad
 | .unOp op _ x=> .un op (gy x)
 | .convert _ t x=>match P.underlying t with
  |some (.int k)=> .conv k (gy x)
  |_=> .bad
 | .box t x=> .box (q8 P t x)
 | .alloc t=> .alloc (tO P 9 t)
 | .build t ps=> .build (tO P 9 t) (TH P (placeOf P t) (TI P t) ps.toList)
 | .buildSlice t n ps=>match P.underlying (zi P t),n,ps.toList with
  |some (.slice _),2,[(0,a),(1,b)]=> .CT (q8 P (zi P t) a) (q8 P (zi P t) b)
  |_,_,_=> .AD (Rw P (zi P t)) n (tO P 9 (zi P t)) (ps.toList.map fun p=>(p.1,q8 P (zi P t) p.2))
 | .load t a=> .load (NK P t) (gy a)
 | .store t a v=> .store (Rw P t) (gy a) (q8 P t v)
 | .nilCheck x=> .Kg (gy x)
 | .fieldAddr t a f=> .Kh (anV P t f) (gy a)
 | .field t a f=> .jS (NK P (TI P t f)) (anV P t f) (gy a)
 | .indexAddr t a j=>match P.underlying t with
  |some (.slice e)=> .Ki (Rw P e) (q8 P t a) (gy j)
  |some (.array m e)=> .CU m (Rw P e) (gy a) (gy j)
  |_=> .bad
 | .index t a j=>match P.underlying t with
  |some (.array m e)=> .idx m (Rw P e) (NK P e) (q8 P t a) (gy j)
  |some .string=> .Kj (gy a) (gy j)
  |_=> .bad
 | .slice t a b c d=>match P.underlying t with
  |some (.slice e)=> .Q1 (Rw P e) (q8 P t a) (b.map gy) (c.map gy) (d.map gy)
  |_=> .bad
 | .makeSlice t a b=> .mks (Rw P (zi P t)) (tO P 9 (zi P t)) (gy a) (gy b)
 | .makeFunc (.func g) c d=> .mkf g (c.toList.map gy) (d.toList.map gy)
 | .makeMap t _=> .mkm (bif tb then (match P.underlying t with
  |some (.map _ e)=>amn (aeO P e)
  |_=>amo) else amo)
 | .extract a j=> .ext j (gy a)
 | .lookup t a b ok=>match P.underlying t with
  |some (.map k e)=> .lookup (NK P k) (aeO P e) ok (gy a) (q8 P k b)
  |_=> .bad
 | .mapUpdate t a b c| .insert t a b c=>match P.underlying t with
  |some (.map k e)=> .Ip (NK P k) (gy a) (q8 P k b) (q8 P e c)
  |_=> .bad
 | .call c=>match c.callee with
  | .builtin b=>TJ P b c.args.toList c.argTypes.toList
  | .value (.func f)=> .call (md f) f (TG P c.argTypes.toList c.args.toList)
  | .value x=> .wN (gy x) (TG P c.argTypes.toList c.args.toList)
  |_=> .bad
 |_=> .bad
def anW (tb:Bool) (md:FuncId->CM) (ops:Array Oper) (o:Oper):bS:=
 ⟨o.dst,cOp P tb md o.type o.op,match o.guard with
  |some (i,b)=>match ops[i]? with
   |some q=>match q.dst with
    |some d=>amn (d,b)
    |none=>amo
   |none=>amo
  |none=>amo⟩
def TK:List Nat->List Oper->List Nat
 |acc,[]=>acc
 |acc,o::os=>TK (acc++[(m8 acc (am8 acc) o.after.toList).getD 0]) os
def bitsOf:Nat->Nat->Nat->List Nat
 |0,_,_=>[]
 |n+1,i,m=>bif AC m 0 then [] else bif AC (Nat.mod m 2) 1 then i::bitsOf n (i+1) (Nat.div m 2) else bitsOf n (i+1) (Nat.div m 2)
def TL (l:List (Nat×Nat)) (x:Nat):Nat×Option Nat:=match l with
 | []=>(x,amo)
 |(t,k)::r=>bif AC t x then (x,amn k) else TL r x
def TM {α:Type} (n:Nat):List (Nat×List α)->List α
 | []=>[]
 |(m,l)::r=>bif AC m n then l else TM n r
def hd (l:List Nat):Nat:=match l with
 |x::_=>x
 | []=>0
structure CSt where
 ks:List Nat
 n:Nat
def EP (H:Hint):Code->CSt->jT×CSt
 | .region _ ops dr,s=>(.region (match dr with|true=>amn (TK [] ops.toList)|false=>amo) (ops.toList.map (anW P H.tb H.md ops)) (bitsOf 1000 0 (hd s.ks)),⟨s.ks.tail,s.n⟩)
 | .seq a b,s=>match EP H a s with
  |(x,s1)=>match EP H b s1 with
   |(y,s2)=>(.seq x y,s2)
 | .cond c a b,s=>match EP H a s with
  |(x,s1)=>match EP H b s1 with
   |(y,s2)=>(.cond (gy c) x y,s2)
 | .block id b,s=>match EP H b s with
  |(x,s1)=>(.block id x,s1)
 | .loop b,s=>match EP H b ⟨s.ks.tail,s.n+1⟩ with
  |(x,s1)=>(.loop ((bitsOf 1000 0 (hd s.ks)).map (TL (TM s.n H.asA))++TM s.n H.more) x,s1)
 | .exit id,s=>(.exit id,s)
 | .ret,s=>(.ret,s)
 |_,s=>(.skip,s)
def asC:ResultVar->RV
 | .tmp t=> .tmp t
 | .cell t ty=> .cell t (NK P ty)
def afZ (fn:Func) (H:Hint):aK:=
 ⟨fn.params.size+fn.nfree,match fn.body with
  |some c=>(EP P H c ⟨H.fN,0⟩).1
  |none=> .skip,fn.results.toList.map (asC P)⟩
def asD (ow sh fp:List Nat) (f:FuncId):CM:=bif has ow f then .own else bif has sh f then .shr else bif has fp f then .fp else .Wf
end
end Go.Vm
/- A law's row from what the logical machine answers: the result is amp, nothing that was there has turned. -/
namespace Go.Vm
open Go.ChangeShapes Go.WideShapes Go.ChangeAt Go.RowKit
section
variable {H : Type} {enc : TypeId × Value -> H} {P : Program}
theorem zj (hl:laidOutB P=amp) {W W':World} (hb:Below W.heap.size W W'): ∀{ts:List TypeId} {vs:List Value} {ds:List (DataW H)} {ps:List MemPlace},(∀t∈ts,P.readableRec t=amp/\t<P.types.size)->
 DataW.TrodAll enc P W 0 (fun _=>amp) amp ts vs ds ps->(∀x∈ps,x.block<W.heap.size)->DataW.TrodAll enc P W' 0 (fun b=>decide (b<W.heap.size)) amp ts vs ds ps
 | [],vs,ds,ps,_,h,_=>by
  obtain ⟨rfl,rfl,rfl⟩:=trodAll_nil h;exact trodAll_mk0
 |t::ts,vs,ds,ps,ht,h,dI=>by
  obtain ⟨v,M',d,y8,p,q,rfl,rfl,rfl,h1,h2⟩:=trodAll_cons h;obtain ⟨h3,h4⟩:=ht t (by simp)
  exact trodAll_cons_mk (Below.trod hl h3 h4 h1 hb fun x hx=>dI x (by simp [hx])) (zj hl hb (fun t' PA=>ht t' (by simp [PA])) h2 fun x hx=>dI x (by simp [hx]))
theorem TN (hl:laidOutB P=amp) {f:Func} {s:ChangeSpec} {W W':World} {args:Array Value} {ds:List (DataW H)} {before:List MemPlace} {bt:TypeId} (anX:s.vars=[]) (AX:f.resultTypes= #[bt]) (hbt:P.underlying bt=amn .bool)
 (hp: ∀t∈f.params.toList,P.readableRec t=amp/\t<P.types.size) (hW:DataW.Whole enc P f.params.toList s.vars amq W args.toList ds [] before)
 (hfn:s.fn H (ds++[])={results:=[.lit (.bool amp)],args:=ds}) (hb:Below W.heap.size W W'):s.post enc P f amq amp amq amq W args (.bool amp) W':=by
 have hW':=hW;obtain ⟨p,q,hA,hV,rfl,SI,GK⟩:=hW;have dI: ∀x∈p++q,x.block<W.heap.size:=fun x hx=>by simpa using hW'.lt x hx
 refine ⟨ds,[],p++q,[],p,[],hW',?_,?_,?_,hb.frame _,fun h=>by cases h⟩
 · rw [hfn,AX]
   exact trodAll_mk1 (shut_bool hbt amp)
 · rw [hfn]
   exact zj hl hb hp hA fun x hx=>dI x (by simp [hx])
 rw [hfn,anX]
 rfl
end
def ES (w:World):Im:=fun b=>w.heap[b]?
theorem Rx {w:World} {b o:Nat} {v:Value} (h:w.cell? ⟨b,o,amo⟩=amn v):nM (ES w) b o=amn v:=by
 unfold alu at h;unfold nM ES;exact h
theorem Ry {P:Program} {F:mJ} {prims:FuncId->Bool} (hT:KX P prims F) (AQ:yt P F) (pZ:P.follows .mixedOrders=amp) {f:FuncId} {args:List PV} {s:cK} {z:List Nat} {n:Nat} {us:List Value} {w:World}
 (h:run F n (.func f args [] [])=amn (.func (.bool amp) s z)) (xf:eX (ES w) fW args us):Calls P f ⟨us⟩ w fun e w'=>e= .returned (.bool amp)/\Below w.heap.size w w':=by
 refine (Rq hT AQ pZ h (im:=ES w) (fun b o h=>h) xf).mono fun e w' ⟨u,he,⟨eB,bm,oG,_⟩,h1,h2,h3,h4,h5⟩=>?_
 obtain rfl:=oG.jB;exact ⟨he,⟨h1,h2,h3,h4,h5⟩⟩
end Go.Vm
/- Regions of one order, step by step, for contracts. -/
namespace Go.Vm
def Ce:kS->Bool
 | .call .. | .wN .. =>amp
 |_=>amq
variable {F : mJ}
def WS (F:mJ) (ops:List bS) (st:St) (Q:St->Prop):Prop:= ∀tr,WO F ops st tr (fun s _=>Q s)
def IW (st:St) (o:bS):Option St:=
 match wanted o.guard st.env with
 |some amp=>match bF st.env st.aE st.fz o.op with
  |some x=>if (XR.loc x).ok st.fz then amn ((XR.loc x).next o.dst st) else amo
  |none=>amo
 |some amq=>amn {st with env:=iH o.dst .jy st.env}
 |none=>amo
theorem IX {rec:Task->Option Out} {e:Env} {aE:cK} {fz:List Nat} {op:kS} (h:Ce op=amq):
 wP F rec e aE fz op=(bF e aE fz op).map .loc:=by
 cases op<;>first|rfl|cases h
theorem WS.nil {st:St} {Q:St->Prop} (h:Q st):WS F [] st Q:=fun _=>WO.nil h
theorem WS.cons {o:bS} {r:List bS} {st kH:St} {Q:St->Prop} (h:Ce o.op=amq) (hs:IW st o=amn kH) (k:WS F r kH Q):WS F (o::r) st Q:=by
 intro tr;unfold IW at hs;split at hs
 · rename_i hw
   split at hs
   · rename_i x hx
     split at hs
     · rename_i zK
       injection hs with hs;subst hs;exact WO.op x hw (fun rec=>by rw [IX h,hx];rfl) zK (k _)
     cases hs
   cases hs
 · rename_i hw
   injection hs with hs;subst hs;exact WO.skip hw (k _)
 cases hs
theorem WS.one {o:bS} {r:List bS} {st:St} {Q:St->Prop} (x:nI) (hc:Ce o.op=amq) (hw:wanted o.guard st.env=amn amp) (hx:bF st.env st.aE st.fz o.op=amn x) (zK:(XR.loc x).ok st.fz=amp)
 (k:WS F r ((XR.loc x).next o.dst st) Q):WS F (o::r) st Q:=fun tr=>
 WO.op x hw (fun rec=>by rw [IX hc,hx];rfl) zK (k _)
def DS:List bS->St->Option St
 | [],st=>amn st
 |o::r,st=>match Ce o.op with
  |true=>amo
  |false=>match IW st o with
   |some kH=>DS r kH
   |none=>amo
theorem WS.all: ∀{ops:List bS} {st kH:St} {Q:St->Prop},DS ops st=amn kH->Q kH->WS F ops st Q
 | [],st,kH,Q,h,hq=>by simp only [DS,ww] at h;subst h;exact WS.nil hq
 |o::r,st,kH,Q,h,hq=>by
  simp only [DS] at h;cases hc:Ce o.op with
  |true=>rw [hc] at h;cases h
  |false=>
   rw [hc] at h;dsimp only at h;cases hs:IW st o with
   |none=>rw [hs] at h;cases h
   |some s1=>rw [hs] at h;exact WS.cons hc hs (WS.all h hq)
theorem WS.pure {d:Option Nat} {g:Option (Nat×Bool)} {f:FuncId} {as:List fy} {r:List bS} {st:St} {Q:St->Prop}
 {args:List PV} {v:PV} (h:Pure F f args v) (hw:wanted g st.env=amn amp) (ha:BU st.aE (xi st.aE deep) (D' st.env as)=amn args)
 (k:WS F r {st with env:=iH d v st.env} Q):WS F (⟨d,.call .Wf f as,g⟩::r) st Q:=fun tr=>by
 refine WO.pure h hw ha ?_
 have:=k (XR.tr (am8 st.aE) (.loc {v,rd:=dC (di st.aE deep) (D' st.env as)})::tr)
 simpa [XR.next,qV,fZ] using this
theorem WS.shr {d:Option Nat} {g:Option (Nat×Bool)} {f:FuncId} {as:List fy} {r:List bS} {st:St} {Q:St->Prop}
 (hw:wanted g st.env=amn amp) (h:zL F f (D' st.env as) st.aE st.fz fun v s z=>(aem (am8 st.aE) (am8 s)&&st.fz.all (has z))=amp/\WS F r {st with env:=iH d v st.env,aE:=s,fz:=z} Q):
 WS F (⟨d,.call .shr f as,g⟩::r) st Q:=fun tr=>by
 obtain ⟨n,v,s,z,hr,hc,hk⟩:=h;refine WO.call (.shr v s z) hw ⟨n,?_⟩ rfl (hk _);simp only [wP,fO,hr];rw [pp hc]
end Go.Vm
/- Plain terms for what a function computes: loops, elements of lists, numbers; and the machine's loop over a plain one. -/
namespace Go.Vm
inductive Step (σ ρ:Type) where
 |next (s:σ)
 |done (r:ρ)
section
variable {σ ρ : Type}
def p7 (body:σ->Option (Step σ ρ)):Nat->σ->Option ρ
 |0,_=>amo
 |n+1,x=>match body x with
  |some (.next y)=>p7 body n y
  |some (.done r)=>amn r
  |none=>amo
open Classical in
noncomputable def NL (body:σ->Option (Step σ ρ)) (x:σ):Option ρ:=
 if h: ∃n r,p7 body n x=amn r then p7 body h.choose x else amo
theorem zX {body:σ->Option (Step σ ρ)}: ∀{n:Nat} {x:σ} {r:ρ},p7 body n x=amn r-> ∀k,p7 body (n+k) x=amn r
 |0,x,r,h,_=>by cases h
 |n+1,x,r,h,k=>by
  rw [show n+1+k=(n+k)+1 by omega]
  simp only [p7] at h ⊢;split at h
  · exact zX h k
  · exact h
  cases h
theorem Rz {body:σ->Option (Step σ ρ)} {n m:Nat} {x:σ} {r s:ρ} (h:p7 body n x=amn r) (k:p7 body m x=amn s):r=s:=by
 have h1:=zX h m;have h2:=zX k n;rw [Nat.add_comm m n] at h2;rw [h1] at h2;exact afv h2
theorem C4 {body:σ->Option (Step σ ρ)} {x:σ} {r:ρ}:NL body x=amn r↔ ∃n,p7 body n x=amn r:=by
 unfold NL;constructor
 · intro h
   split at h
   · exact ⟨_,h⟩
   cases h
 rintro ⟨n,hn⟩
 have hex: ∃n r,p7 body n x=amn r:=⟨n,r,hn⟩;rw [dif_pos hex];obtain ⟨s,hs⟩:=hex.choose_spec;rw [hs,Rz hs hn]
end
noncomputable def TO {σ ρ:Type} (b:Option Nat) (body:σ->Option (Step σ ρ)) (x:σ):Option ρ:=
 match b with
 |none=>NL body x
 |some N=>p7 body N x
theorem TP {σ ρ:Type} {b:Option Nat} {body:σ->Option (Step σ ρ)} {x:σ} {r:ρ} (h:TO b body x=amn r): ∃n,p7 body n x=amn r:=by
 cases b with
 |none=>exact C4.1 h
 |some N=>exact ⟨_,h⟩
class LP where
 w:Option Nat
abbrev LP.of (n:Nat):LP:=⟨amn n⟩
noncomputable def ax [LP] {σ ρ:Type} (body:σ->Option (Step σ ρ)) (x:σ):Option ρ:=TO LP.w body x
def aD [LP]:Option Nat:=LP.w
theorem anZ {α β:Type} {x:Option α} {f:α->Option β} {r:β} (h:x.bind f=amn r): ∃a,x=amn a/\f a=amn r:=by
 cases x with
 |none=>cases h
 |some a=>exact ⟨a,rfl,h⟩
def aeS {α ρ:Type} (x:Option α) (f:α->Option ρ):Option ρ:=x.bind f
def aeT {ρ:Type} (c:Bool) (a b:Option ρ):Option ρ:=cond c a b
theorem NM {α ρ:Type} {x:Option α} {f:α->Option ρ} {y:ρ} (h:aeS x f=amn y): ∃a,x=amn a/\f a=amn y:=anZ h
theorem NN {ρ:Type} {c:Bool} {a b:Option ρ} {y:ρ} (h:aeT c a b=amn y):(c=amp/\a=amn y)\/(c=amq/\b=amn y):=by
 cases c
 · exact .inr ⟨rfl,h⟩
 exact .inl ⟨rfl,h⟩
def aI {α:Type} (l:List α) (i:Int):Option α:=
 match i with
 | .ofNat n=>l[n]?
 | .negSucc _=>amo
def cj {α:Type} (l:List α) (i:Int) (a:α):List α:=l.set i.toNat a
theorem m9 {α:Type} {l:List α} {i:Int} {a:α} (h:aI l i=amn a): ∃n:Nat,i=ajB n/\l[n]? =amn a:=by
 unfold aI at h;split at h
 · exact ⟨_,rfl,h⟩
 cases h
@[simp] theorem xE {α:Type} (l:List α) (i:Int) (a:α):(cj l i a).length=(am8 l):=by simp [cj]
def bq {α:Type} (l:List α) (m:List α):Option (List α):=if (am8 l)+am8 m<=1048576 then amn (l++m) else amo
def wU {α:Type} (n:Int) (z:α):Option (List α):=if 0<=n/\n<=1048576 then amn (aeF n.toNat z) else amo
def fP {α:Type} (l:List α) (lo hi:Int):Option (List α):=if 0<=lo/\lo<=hi/\hi<=(am8 l) then amn ((l.drop lo.toNat).take (hi.toNat-lo.toNat)) else amo
def bP {α:Type} (l:List α):Option (List α):=if (am8 l)<=1048576 then amn l else amo
def RA {α:Type} (l m:List α):Option (List α):=if 1<=am8 l+am8 m/\am8 l+am8 m<=1048576 then amn (l++m) else amo
def yA {α:Type} (l:List α) (i:Int) (m:List α):Option (List α):=if 0<=i/\i.toNat<=am8 l/\am8 m=1/\am8 l+1<=1048576 then amn (l.take i.toNat++m++l.drop i.toNat) else amo
def C5 {α:Type} (f:List α->Option (List α)) (l:List α):Option (List α):=
 if (am8 l)<=1048576 then (match f l with
 |some m=>if (am8 m)=(am8 l) then amn m else amo
 |none=>amo) else amo
def yB {α:Type} (f:List α->Option (List α)) (n:Nat) (l:List α):Option (List α):=if n<=(am8 l) then (C5 f (l.take n)).map (· ++l.drop n) else amo
def NO (a:Int):List Int->List Int
 | []=>[a]
 |b::r=>bif amr (a<=b) then a::b::r else b::NO a r
def lh:List Int->List Int
 | []=>[]
 |a::r=>NO a (lh r)
def IY (l:List Int):Option (List Int):=amn (lh l)
def zY (k:IntKind) (a b:Int):Int:=k.wrap (BitVec.ofInt k.bits a&&&BitVec.ofInt k.bits b).toNat
def bOr (k:IntKind) (a b:Int):Int:=k.wrap (BitVec.ofInt k.bits a|||BitVec.ofInt k.bits b).toNat
def asE (k:IntKind) (a b:Int):Int:=k.wrap (BitVec.ofInt k.bits a^^^BitVec.ofInt k.bits b).toNat
def W3 (k:IntKind) (a b:Int):Int:=k.wrap (BitVec.ofInt k.bits a&&& ~~~ BitVec.ofInt k.bits b).toNat
def asF (k:IntKind) (a b:Int):Int:=k.wrap (a*2^(min b.toNat k.bits))
def nF (k:IntKind) (a b:Int):Int:=a.fdiv (2^(min b.toNat k.bits))
def aeU (s:ByteArray) (i:Int):Option Int:=
 match i with
 | .ofNat n=>s[n]?.map fun b=>(b.toNat:Int)
 | .negSucc _=>amo
def DA (l:List (List Int)) (k:List Int):Bool:=l.any fun m=>k==m
def NP (l:List (List Int)) (k:List Int):List (List Int):=bif DA l k then l else l++[k]
def nU (a:List Int) (l:List (List Int)):Bool:=l.all fun b=>AC (am8 b) (am8 a)
def K3 (l:List (List Int)) (k:List Int):Option Bool:=bif nU k l then amn (DA l k) else amo
def K4 (l:List (List Int)) (k:List Int):Option (List (List Int)):=bif nU k l then amn (NP l k) else amo
def p8 {α:Type} (z:α):List (Int×α)->Int->α
 | [],_=>z
 |p::r,k=>bif k==p.1 then p.2 else p8 z r k
def oL {α:Type}:List (Int×α)->Int->α->List (Int×α)
 | [],k,a=>[(k,a)]
 |p::r,k,a=>bif k==p.1 then (k,a)::r else p::oL r k a
section
variable {F : mJ}
end
end Go.Vm
/- A logical machine over typed values: it turns a function's code into a plain term. What it computes is tied to the logical machine in SvRun. -/
namespace Go.Vm
inductive PT where
 |i (k:IntKind)
 |b
@[reducible] def PT.T : PT -> Type
  | .i _ => Int
  | .b => Bool
@[reducible] def RT : List PT -> Type
  | [] => Unit
  | [p] => p.T
  | p :: q :: r => p.T × RT (q :: r)
inductive SV where
 |iS
 |undef
 |jy
 |dU
 |int (k:IntKind) (n:Int)
 |bool (b:Bool)
 |str (s:ByteArray)
 |agg (cs:List SV)
 |cu (cs:List SV)
 |sl (r:List PT) (l:List (RT r))
 |nil (e:Nat) (c:Bool)
 |own (t:Nat) (ex:Bool)
 |pre (t len cap:Nat) (ex:Bool)
 |part (t off len cap:Nat) (ex:Bool)
 |pa (t:Nat) (r:List PT) (i:Int) (a:RT r) (off:Nat)
 |pb (t:Nat) (i:Int) (off:Nat)
 |bp (t n off:Nat)
 |bI (cs:List SV) (off:Nat)
 |eL (f:FuncId) (a b:List SV)
 |mp (t:Nat)
inductive SB where
 |arr (r:List PT) (l:List (RT r))
 |box (cs:List SV)
 |set (l:List (List Int))
 |aO (p:PT) (l:List (RT [.i .i64,p]))
 |dead
abbrev SE:=List (Nat×SV)
structure p9 where
 env:SE
 aE:List SB
 fz:List Nat
 kn:Nat
structure Rows where
 r:List PT
 l:List (RT r)
def PT.same:PT->PT->Bool
 | .i k,.i l=>fu k l
 | .b,.b=>amp
 |_,_=>amq
def AZ:List PT->List PT->Bool
 | [],[]=>amp
 |p::r,q::s=>p.same q&&AZ r s
 |_,_=>amq
theorem PT.PE: ∀{p q:PT},p.same q=amp->p=q
 | .i k,.i l,h=>by rw [fg.1 h]
 | .b,.b,_=>rfl
 | .i _,.b,h=>by cases h
 | .b,.i _,h=>by cases h
theorem uP: ∀{r s:List PT},AZ r s=amp->r=s
 | [],[],_=>rfl
 |p::r,q::s,h=>by
  simp only [AZ,ut] at h;rw [PT.PE h.1,uP h.2]
 | [],_::_,h=>by cases h
 |_::_,[],h=>by cases h
def rS (r q:List PT) (l:List (RT r)):Option (List (RT q)):=if h:AZ r q=amp then amn (uP h▸l) else amo
def PT.pv:(p:PT)->p.T->PV
 | .i k,n=> .int k n
 | .b,x=> .bool x
def RT.pv:(r:List PT)->RT r->List PV
 | [],_=>[]
 | [p],a=>[p.pv a]
 |p::q::r,a=>p.pv a.1::RT.pv (q::r) a.2
def PT.sv:(p:PT)->p.T->SV
 | .i k,n=> .int k n
 | .b,x=> .bool x
def RT.sv:(r:List PT)->RT r->List SV
 | [],_=>[]
 | [p],a=>[p.sv a]
 |p::q::r,a=>p.sv a.1::RT.sv (q::r) a.2
def PT.of:(p:PT)->SV->Option p.T
 | .i k,.int l n=>bif fu l k then amn n else amo
 | .b,.bool x=>amn x
 |_,_=>amo
def RT.of:(r:List PT)->List SV->Option (RT r)
 | [],[]=>amn ()
 | [p],[v]=>p.of v
 |p::q::r,v::vs=>match p.of v,RT.of (q::r) vs with
  |some a,amn b=>amn (a,b)
  |_,_=>amo
 |_,_=>amo
def PT.zero:(p:PT)->p.T
 | .i _=>(0:Int)
 | .b=>amq
def RT.zero:(r:List PT)->RT r
 | []=>()
 | [p]=>p.zero
 |p::q::r=>(p.zero,RT.zero (q::r))
def gF:PV->Option PT
 | .int k n=>match n with
  | .ofNat 0=>amn (.i k)
  |_=>amo
 | .bool b=>match b with
  |false=>amn .b
  |true=>amo
 |_=>amo
def ET:List PV->Option (List PT)
 | []=>amn []
 |v::vs=>match gF v,ET vs with
  |some p,amn r=>amn (p::r)
  |_,_=>amo
def nth {α:Type}:List α->Nat->Option α
 | [],_=>amo
 |x::_,0=>amn x
 |_::r,n+1=>nth r n
theorem cy {α:Type}: ∀(l:List α) (n:Nat),nth l n=l[n]?
 | [],n=>by simp [nth]
 |x::r,0=>by simp [nth]
 |x::r,n+1=>by simp [nth,cy r n]
def GL (t:Nat):SE->SV
 | []=> .undef
 |(s,v)::r=>bif AC s t then v else GL t r
def zZ (t:Nat) (v:SV):SE->SE
 | []=>[]
 |(s,x)::r=>bif AC s t then (s,v)::r else (s,x)::zZ t v r
mutual
def W4:PV->SV
 | .undef=> .undef
 | .jy=> .jy
 | .dU=> .dU
 | .int k n=> .int k n
 | .bool b=> .bool b
 | .str s=> .str s
 | .agg cs=> .agg (A0 cs)
 | .cu cs=> .cu (A0 cs)
 | .sl e c rows=>match rows with
  | []=> .nil e c
  |_=> .iS
 | .eL f a b=> .eL f (A0 a) (A0 b)
 |_=> .iS
def A0:List PV->List SV
 | []=>[]
 |x::xs=>W4 x::A0 xs
end
def bU (e:SE):fy->SV
 | .t n=>GL n e
 | .c v=>W4 v
def jD (e:SE):List fy->List SV
 | []=>[]
 |x::xs=>bU e x::jD e xs
def SV.pS:SV->Bool
 | .iS| .undef| .jy| .agg _| .cu _=>amq
 |_=>amp
def xF:List SV->Bool
 | []=>amp
 |x::xs=>x.pS&&xF xs
def SV.cells:SV->List SV
 | .agg cs=>cs
 |v=>[v]
def SV.stored (v:SV):Option (List SV):=bif xF v.cells then amn v.cells else amo
def zk (agg:Option Nat) (off:Nat) (cs:List SV):Option SV:=
 match agg with
 |some s=>bif aem (off+s) (am8 cs) then amn (.agg ((cs.drop off).take s)) else amo
 |none=>nth cs off
def px (off:Nat) (new old:List SV):List SV:=old.take off++new++old.drop (off+am8 new)
def zl (s:List SB):SV->Option Rows
 | .sl r l=>amn ⟨r,l⟩
 | .own t _=>match nth s t with
  |some (.arr r l)=>amn ⟨r,l⟩
  |_=>amo
 | .pre t len _ _=>match nth s t with
  |some (.arr r l)=>amn ⟨r,l.take len⟩
  |_=>amo
 | .part t off len _ _=>match nth s t with
  |some (.arr r l)=>amn ⟨r,(l.drop off).take len⟩
  |_=>amo
 |_=>amo
def vB:SV->List Nat
 | .own t _=>[t]
 | .pre t _ _ _=>[t]
 | .part t _ _ _ _=>[t]
 |_=>[]
structure fQ where
 v:SV
 news:List SB:=[]
 wr:List (Nat×SB):=[]
 rd:List Nat:=[]
 fr:List Nat:=[]
def gp (R:Type):= ∀ρ:Type,(R->ρ)->Option ρ
section
variable {R : Type}
def Hw (b:R):gp R:=fun _ w=>amn (w b)
def aN:gp R:=fun _ _=>amo
def kX {α:Type} (x:Option α) (f:α->gp R):gp R:=fun ρ w=>aeS x fun a=>f a ρ w
def gz (c:Bool) (a b:gp R):gp R:=fun ρ w=>aeT c (a ρ w) (b ρ w)
def W5 (v:SV) (k:SV->gp R):gp R:=
 match v with
 | .iS=>k .iS
 | .undef=>k .undef
 | .jy=>k .jy
 | .dU=>k .dU
 | .int a b=>k (.int a b)
 | .bool a=>k (.bool a)
 | .str a=>k (.str a)
 | .agg a=>k (.agg a)
 | .cu a=>k (.cu a)
 | .sl a b=>k (.sl a b)
 | .nil a b=>k (.nil a b)
 | .own a b=>k (.own a b)
 | .pre a b c d=>k (.pre a b c d)
 | .part a b c d x=>k (.part a b c d x)
 | .pa a b c d e=>k (.pa a b c d e)
 | .pb a b c=>k (.pb a b c)
 | .bp a b c=>k (.bp a b c)
 | .bI a b=>k (.bI a b)
 | .eL a b c=>k (.eL a b c)
 | .mp a=>k (.mp a)
theorem IZ (v:SV) (k:SV->gp R):W5 v k=k v:=by cases v<;>rfl
def NQ (op:BinOp) (k:IntKind) (a b:Int) (c:SV->gp R):gp R:=
 match op with
 | .add=>c (.int k (ae k (a+b)))
 | .sub=>c (.int k (ae k (a-b)))
 | .mul=>c (.int k (ae k (a*b)))
 | .quo=>gz (b==0) aN (c (.int k (ae k (Int.tdiv a b))))
 | .rem=>gz (b==0) aN (c (.int k (Int.tmod a b)))
 | .and=>c (.int k (zY k a b))
 | .or=>c (.int k (bOr k a b))
 | .xor=>c (.int k (asE k a b))
 | .andNot=>c (.int k (W3 k a b))
 | .eql=>c (.bool (a==b))
 | .neq=>c (.bool (a !=b))
 | .lss=>c (.bool (amr (a<b)))
 | .leq=>c (.bool (amr (a<=b)))
 | .gtr=>c (.bool (amr (b<a)))
 | .geq=>c (.bool (amr (b<=a)))
 | .shl| .shr=>aN
def eqS:List SV->List SV->Option Bool
 | [],[]=>amn amp
 |x::xs,y::ys=>match x,y with
  | .int k a,.int l b=>bif fu k l then (match xs with
   | []=>(match ys with| []=>amn (a==b)|_=>amo)
   |_::_=>match eqS xs ys with
    |some r=>amn (a==b&&r)
    |none=>amo) else amo
  |_,_=>amo
 |_,_=>amo
def vC:List (Nat×Nat×SV)->List SV->Option (List SV)
 | [],cs=>amn cs
 |(off,sz,v)::r,cs=>match v.stored with
  |some w=>bif AC (am8 w) sz&&aem (off+sz) (am8 cs) then vC r (px off w cs) else amo
  |none=>amo
def xG (e:SE):List (Nat×Nat×fy)->List (Nat×Nat×SV)
 | []=>[]
 |p::r=>(p.1,p.2.1,bU e p.2.2)::xG e r
def PF (r:List PT) (e:SE) (n:Nat):List (Nat×fy)->Option (List (Nat×RT r))
 | []=>amn []
 |p::ps=>match RT.of r (bU e p.2).cells,PF r e n ps with
  |some a,amn l=>bif aeZ p.1 n then amn ((p.1,a)::l) else amo
  |_,_=>amo
def rowAt {α:Type} (i:Nat):α->List (Nat×α)->α
 |z,[]=>z
 |z,(j,a)::r=>rowAt i (bif AC j i then a else z) r
def I0 {α:Type} (f:Nat->α):Nat->Nat->List α
 |_,0=>[]
 |i,n+1=>f i::I0 f (i+1) n
def Cf (e:SE) (d:Int):Option fy->Option Int
 |none=>amn d
 |some x=>match bU e x with
  | .int _ n=>amn n
  |_=>amo
def mmS (isMax:Bool) (k:IntKind):Int->List SV->Option SV
 |a,[]=>amn (.int k a)
 |a,x::r=>match x with
  | .int l b=>bif fu k l then mmS isMax k (bif isMax then (if b>a then b else a) else (if b<a then b else a)) r else amo
  |_=>amo
def PG:List SV->Option (List Int)
 | []=>amn []
 |x::xs=>match x,PG xs with
  | .int .i64 n,amn l=>amn (n::l)
  |_,_=>amo
def W6 (n:Option Nat) (v:SV):Option (List Int):=
 match n,v with
 |none,.int .i64 a=>amn [a]
 |some n,.agg cs=>bif AC (am8 cs) n&&!Nat.beq n 1 then PG cs else amo
 |_,_=>amo
def K5 (n:Nat) (i:Int) (j:Nat) (f:Nat->gp R):gp R:=
 match n with
 |0=>aN
 |n+1=>gz (i==ajB j) (f j) (K5 n i (j+1) f)
def lq {α:Type} (x:Option α) (k:α->gp R):gp R:=
 match x with
 |some a=>k a
 |none=>aN
def ofV (k:fQ->gp R) (v:SV):gp R:=k {v}
def aeV (s:List SB) (esz:Nat) (x:SV) (i:Int) (k:fQ->gp R):gp R:=
 match x with
 | .sl r l=>bif AC (am8 r) esz then kX (aI l i) fun a=>k {v:= .bI (RT.sv r a) 0} else aN
 | .own t _=>match nth s t with
  |some (.arr r l)=>bif AC (am8 r) esz then kX (aI l i) fun a=>k {v:= .pa t r i a 0} else aN
  |_=>aN
 | .pre t len _ _=>match nth s t with
  |some (.arr r l)=>bif AC (am8 r) esz then kX (aI (l.take len) i) fun a=>k {v:= .pa t r i a 0} else aN
  |_=>aN
 | .part t off len _ _=>match nth s t with
  |some (.arr r l)=>bif AC (am8 r) esz then kX (aI ((l.drop off).take len) i) fun a=>k {v:= .pa t r (.ofNat (off+i.toNat)) a 0} else aN
  |_=>aN
 |_=>aN
def aeW (s:List SB) (agg:Option Nat) (p:SV) (k:fQ->gp R):gp R:=
 match p with
 | .bp t _ off=>match nth s t with
  |some (.box cs)=>lq (zk agg off cs) fun v=>k {v,rd:=[t]}
  |_=>aN
 | .pa t r _ a off=>match nth s t with
  |some (.arr _ _)=>lq (zk agg off (RT.sv r a)) fun v=>k {v,rd:=[t]}
  |_=>aN
 | .pb t i off=>match nth s t with
  |some (.arr r l)=>kX (aI l i) fun a=>lq (zk agg off (RT.sv r a)) fun v=>k {v,rd:=[t]}
  |_=>aN
 | .bI cs off=>lq (zk agg off cs) fun v=>k {v}
 |_=>aN
def TQ (s:List SB) (z:List Nat) (sz:Nat) (p v:SV) (k:fQ->gp R):gp R:=
 match p with
 | .bp t _ off=>match nth s t with
  |some (.box cs)=>lq v.stored fun w=>bif AC (am8 w) sz&&aem (off+sz) (am8 cs)&&!has z t then k {v:= .undef,wr:=[(t,.box (px off w cs))]} else aN
  |_=>aN
 | .pa t r i a off=>match nth s t with
  |some (.arr q l)=>bif AC (am8 v.cells) sz&&aem (off+sz) (am8 r)&&!has z t then
   lq (RT.of q (px off v.cells (RT.sv r a))) fun b=>k {v:= .undef,wr:=[(t,.arr q (cj l i b))]} else aN
  |_=>aN
 | .pb t i off=>match nth s t with
  |some (.arr q l)=>bif AC (am8 v.cells) sz&&aem (off+sz) (am8 q)&&!has z t then
   (bif AC sz (am8 q) then lq (RT.of q v.cells) fun b=>k {v:= .undef,wr:=[(t,.arr q (cj l i b))]}
   else kX (aI l i) fun a=>lq (RT.of q (px off v.cells (RT.sv q a))) fun b=>k {v:= .undef,wr:=[(t,.arr q (cj l i b))]}) else aN
  |_=>aN
 |_=>aN
def NR (e:SE) (t off len cap:Nat) (ex:Bool) (lo hi mx:Option fy) (k:fQ->gp R):gp R:=
 lq (Cf e 0 lo) fun a=>lq (Cf e (.ofNat len) hi) fun b=>match mx with
  |none=>gz (amr (0<=a)&&amr (a<=b)&&amr (b<= .ofNat cap)) (k {v:= .part t (off+a.toNat) (b.toNat-a.toNat) (cap-a.toNat) ex}) aN
  |some m=>match bU e m with
   | .int _ c=>gz (amr (0<=a)&&amr (a<=b)&&amr (b<=c)&&amr (c<= .ofNat cap)) (k {v:= .part t (off+a.toNat) (b.toNat-a.toNat) (c.toNat-a.toNat) amp}) aN
   |_=>aN
def an0 (e:SE) (s:List SB) (esz:Nat) (x:SV) (lo hi mx:Option fy) (k:fQ->gp R):gp R:=
 match x with
 | .sl r l=>match mx with
  |none=>bif AC (am8 r) esz then lq (Cf e 0 lo) fun a=>lq (Cf e (ajB (am8 l)) hi) fun b=>kX (fP l a b) fun m=>k {v:= .sl r m} else aN
  |some _=>aN
 | .own t ex=>match nth s t with
  |some (.arr r l)=>bif AC (am8 r) esz then (match lo,hi,mx with
   |none,amo,amo=>k {v:= .own t ex}
   |none,amn h,amo=>match bU e h with
    | .int _ b=>kX (fP l 0 b) fun _=>k {v:= .pre t b.toNat (am8 l) ex}
    |_=>aN
   |lo,hi,mx=>NR e t 0 (am8 l) (am8 l) ex lo hi mx k) else aN
  |_=>aN
 | .pre t len cap ex=>match nth s t with
  |some (.arr r _)=>bif AC (am8 r) esz then (match lo,hi,mx with
   |none,amo,amo=>gz (aem len cap) (k {v:= .pre t len cap ex}) aN
   |none,amn h,amo=>match bU e h with
    | .int _ b=>gz (amr (0<=b)&&amr (b<= .ofNat cap)) (k {v:= .pre t b.toNat cap ex}) aN
    |_=>aN
   |lo,hi,mx=>NR e t 0 len cap ex lo hi mx k) else aN
  |_=>aN
 | .part t off len cap ex=>match nth s t with
  |some (.arr r _)=>bif AC (am8 r) esz then NR e t off len cap ex lo hi mx k else aN
  |_=>aN
 |_=>aN
def eZ {α:Type} (l:List α) (n:Nat) (m:List α):List α:=l.take n++m++l.drop (n+am8 m)
def SV.af1:SV->Bool
 | .part .. =>amp
 |_=>amq
def PH (s:List SB) (z:List Nat) (esz:Nat) (x y:SV) (k:fQ->gp R):gp R:=
 match zl s y with
 |none=>aN
 |some ⟨q,m⟩=>bif AC (am8 q) esz then (match x with
  | .nil _ c=>bif c then kX (bP m) fun m'=>k {v:= .own (am8 s) amq,news:=[.arr q m'],rd:=vB y} else aN
  | .own t ex=>match nth s t with
   |some (.arr r l)=>match rS q r m with
    |none=>aN
    |some m=>match ex with
     |true=>gz l.isEmpty (kX (bP m) fun m'=>k {v:= .own (am8 s) amq,news:=[.arr r m'],rd:=t::vB y})
      (gz m.isEmpty (k {v:= .own t amp,rd:=vB y}) (kX (bq l m) fun l'=>k {v:= .own (am8 s) amq,news:=[.arr r l'],rd:=t::vB y}))
     |false=>gz m.isEmpty (k {v:= .own t amq,rd:=vB y})
      (bif has z t then aN else kX (bq l m) fun l'=>k {v:= .own (am8 s) amq,news:=[.arr r l'],wr:=[(t,.dead)],rd:=vB y})
   |_=>aN
  | .pre t len cap ex=>match nth s t with
   |some (.arr r l)=>match rS q r m with
    |none=>aN
    |some m=>bif ex then aN else gz m.isEmpty (k {v:= .pre t len cap amq,rd:=vB y})
     (gz (aem (len+am8 m) cap) (gz (aem (len+am8 m) (am8 l)&&!has z t) (k {v:= .pre t (len+am8 m) cap amq,wr:=[(t,.arr r (eZ l len m))],rd:=vB y}) aN)
      (bif has z t||y.af1 then aN else kX (bq (l.take len) m) fun l'=>gz (aem len (am8 l)) (k {v:= .own (am8 s) amq,news:=[.arr r l'],wr:=[(t,.dead)],rd:=vB y}) aN))
   |_=>aN
  |_=>aN) else aN
def TR (s:List SB) (z:List Nat) (esz:Nat) (zero:Row) (x:SV) (k:fQ->gp R):gp R:=
 match x with
 | .part t off len _ _=>match nth s t with
  |some (.arr r l)=>match ET zero with
   |some q=>bif AZ q r&&AC (am8 r) esz then gz (AC len 0) (k {v:= .undef})
    (gz (aem (off+len) (am8 l)&&!has z t) (k {v:= .undef,wr:=[(t,.arr r (eZ l off (aeF len (RT.zero r))))]}) aN) else aN
   |none=>aN
  |_=>aN
 |_=>aN
def PI (n:Option Nat) (zero:PV) (ok:Bool) (t:Nat) (l:List (List Int)) (q:SV) (k:fQ->gp R):gp R:=
 match zero,ok with
 | .bool amq,amq=>lq (W6 n q) fun a=>kX (K3 l a) fun b=>k {v:= .bool b,rd:=[t]}
 |_,_=>aN
def TS (n:Option Nat) (t:Nat) (l:List (List Int)) (q x:SV) (k:fQ->gp R):gp R:=
 match x with
 | .bool amp=>lq (W6 n q) fun a=>kX (K4 l a) fun m=>k {v:= .undef,wr:=[(t,.set m)]}
 |_=>aN
def PT.get:(p:PT)->p.T->List (RT [.i .i64,p])->Int->p.T
 | .i _,z,l,k=>p8 (α:=Int) z l k
 | .b,z,l,k=>p8 (α:=Bool) z l k
def PT.put:(p:PT)->List (RT [.i .i64,p])->Int->p.T->List (RT [.i .i64,p])
 | .i _,l,k,a=>oL (α:=Int) l k a
 | .b,l,k,a=>oL (α:=Bool) l k a
def PJ (n:Option Nat) (zero:PV) (ok:Bool) (t:Nat) (p:PT) (l:List (RT [.i .i64,p])) (q:SV) (k:fQ->gp R):gp R:=
 match n with
 |none=>match ok with
  |false=>match q with
   | .int .i64 a=>lq (p.of (W4 zero)) fun z=>k {v:=p.sv (p.get z l a),rd:=[t]}
   |_=>aN
  |true=>aN
 |some _=>aN
def TU (n:Option Nat) (t:Nat) (p:PT) (l:List (RT [.i .i64,p])) (q x:SV) (k:fQ->gp R):gp R:=
 match n with
 |none=>match q with
  | .int .i64 a=>lq (p.of x) fun v=>k {v:= .undef,wr:=[(t,.aO p (p.put l a v))]}
  |_=>aN
 |some _=>aN
def EU (s:List SB) (z:List Nat) (t:Nat) (r:List PT) (l:List (RT r)) (off len:Nat) (y:SV) (k:fQ->gp R):gp R:=
 match zl s y with
 |none=>aN
 |some ⟨q,m⟩=>match rS q r m with
  |none=>aN
  |some m=>gz (m.take len).isEmpty (k {v:= .int .i64 0,rd:=vB y})
   (gz (aem (off+(m.take len).length) (am8 l)&&!has z t) (k {v:= .int .i64 (.ofNat (m.take len).length),wr:=[(t,.arr r (eZ l off (m.take len)))],rd:=vB y}) aN)
def aeX (s:List SB) (z:List Nat) (esz:Nat) (x y:SV) (k:fQ->gp R):gp R:=
 match x with
 | .own t _=>match nth s t with
  |some (.arr r l)=>bif AC (am8 r) esz then EU s z t r l 0 (am8 l) y k else aN
  |_=>aN
 | .pre t len _ _=>match nth s t with
  |some (.arr r l)=>bif AC (am8 r) esz then EU s z t r l 0 len y k else aN
  |_=>aN
 | .part t off len _ _=>match nth s t with
  |some (.arr r l)=>bif AC (am8 r) esz then EU s z t r l off len y k else aN
  |_=>aN
 |_=>aN
def mb (e:SE) (s:List SB) (z:List Nat) (op:kS) (k:fQ->gp R):gp R:=
 match op with
 | .SG x=>k {v:=bU e x}
 | .pick c a b=>match bU e c with
  | .bool c=>gz c (k {v:=bU e a}) (k {v:=bU e b})
  |_=>aN
 | .bin op x y=>match bU e x with
  | .int ka a=>match bU e y with
   | .int kb b=>match op with
    | .shl=>gz (amr (b<0)) aN (k {v:= .int ka (asF ka a b)})
    | .shr=>gz (amr (b<0)) aN (k {v:= .int ka (nF ka a b)})
    |op=>bif fu ka kb then NQ op ka a b (ofV k) else aN
   |_=>aN
  |_=>aN
 | .Kf neg x y=>match bU e x with
  | .bool a=>match bU e y with
   | .bool b=>k {v:= .bool (bif neg then !(a==b) else a==b)}
   |_=>aN
  |_=>aN
 | .eqc n neg x y=>match bU e x with
  | .agg xs=>match bU e y with
   | .agg ys=>bif AC (am8 xs) n&&AC (am8 ys) n then lq (eqS xs ys) fun b=>k {v:= .bool (bif neg then !b else b)} else aN
   |_=>aN
  |_=>aN
 | .un op x=>match op with
  | .neg=>match bU e x with
   | .int a n=>k {v:= .int a (ae a (0-n))}
   |_=>aN
  | .not=>match bU e x with
   | .bool b=>k {v:= .bool !b}
   |_=>aN
  |_=>aN
 | .conv a x=>match bU e x with
  | .int _ n=>k {v:= .int a (ae a n)}
  |_=>aN
 | .len x=>match bU e x with
  | .nil _ _=>k {v:= .int .i64 0}
  | .pre _ len _ _=>k {v:= .int .i64 (.ofNat len)}
  | .part _ _ len _ _=>k {v:= .int .i64 (.ofNat len)}
  |v=>lq (zl s v) fun c=>k {v:= .int .i64 (.ofNat (am8 c.l))}
 | .Nh n=>k {v:= .int .i64 (.ofNat n)}
 | .box x=>lq (bU e x).stored fun cs=>k {v:= .bp (am8 s) (am8 cs) 0,news:=[.box cs]}
 | .alloc cells=>k {v:= .bp (am8 s) (am8 cells) 0,news:=[.box (A0 cells)]}
 | .build zero parts=>lq (vC (xG e parts) (A0 zero)) fun cs=>k {v:= .agg cs}
 | .AD esz n zero parts=>lq (ET zero) fun r=>bif AC (am8 r) esz then lq (PF r e n parts) fun ps=>
  k {v:= .own (am8 s) amp,news:=[.arr r (I0 (fun i=>rowAt i (RT.zero r) ps) 0 n)]} else aN
 | .CT x y=>match bU e x with
  | .sl r l=>match bU e y with
   | .sl q m=>k {v:= .part (am8 s) 0 2 2 amp,news:=[.box [.sl r l,.sl q m]]}
   |_=>aN
  |_=>aN
 | .load agg p=>aeW s agg (bU e p) k
 | .store sz p v=>TQ s z sz (bU e p) (bU e v) k
 | .Kg x=>match bU e x with
  | .pa t r i a o=>k {v:= .pa t r i a o}
  | .pb t i o=>k {v:= .pb t i o}
  | .bp t n o=>k {v:= .bp t n o}
  | .bI c o=>k {v:= .bI c o}
  | .eL f a b=>k {v:= .eL f a b}
  |_=>aN
 | .Kh off p=>match bU e p with
  | .pa t r i a o=>k {v:= .pa t r i a (o+off)}
  | .pb t i o=>k {v:= .pb t i (o+off)}
  | .bp t n o=>k {v:= .bp t n (o+off)}
  | .bI c o=>k {v:= .bI c (o+off)}
  |_=>aN
 | .jS agg off x=>match bU e x with
  | .agg cs=>lq (zk agg off cs) (ofV k)
  |_=>aN
 | .Ki esz x i=>match bU e i with
  | .int _ n=>aeV s esz (bU e x) n k
  |_=>aN
 | .CU n esz p i=>match bU e i with
  | .int _ j=>match bU e p with
   | .bp t m o=>K5 n j 0 fun j=>k {v:= .bp t m (o+j*esz)}
   | .bI c o=>K5 n j 0 fun j=>k {v:= .bI c (o+j*esz)}
   |_=>aN
  |_=>aN
 | .idx n esz agg x i=>match bU e i with
  | .int _ j=>match bU e x with
   | .agg cs=>K5 n j 0 fun j=>lq (zk agg (j*esz) cs) (ofV k)
   |_=>aN
  |_=>aN
 | .Kj x i=>match bU e i with
  | .int _ j=>match bU e x with
   | .str t=>kX (aeU t j) fun b=>k {v:= .int .u8 b}
   |_=>aN
  |_=>aN
 | .Q1 esz x lo hi mx=>an0 e s esz (bU e x) lo hi mx k
 | .clear esz zero x=>TR s z esz zero (bU e x) k
 | .copy esz x y=>aeX s z esz (bU e x) (bU e y) k
 | .mks esz zero l c=>match bU e l with
  | .int _ n=>match bU e c with
   | .int _ m=>gz (n==m) (lq (ET zero) fun r=>bif AC (am8 r) esz then kX (wU n (RT.zero r)) fun x=>k {v:= .own (am8 s) amp,news:=[.arr r x]} else aN) aN
   |_=>aN
  |_=>aN
 | .mkf fn a b=>k {v:= .eL fn (jD e a) (jD e b)}
 | .mkm z=>match z with
  |none=>k {v:= .mp (am8 s),news:=[.set []]}
  |some z=>lq (gF z) fun p=>k {v:= .mp (am8 s),news:=[.aO p []]}
 | .lookup n zero ok m q=>match bU e m with
  | .mp t=>match nth s t with
   |some (.set l)=>PI n zero ok t l (bU e q) k
   |some (.aO p l)=>PJ n zero ok t p l (bU e q) k
   |_=>aN
  |_=>aN
 | .Ip n m q x=>match bU e m with
  | .mp t=>match nth s t with
   |some (.set l)=>bif has z t then aN else TS n t l (bU e q) (bU e x) k
   |some (.aO p l)=>bif has z t then aN else TU n t p l (bU e q) (bU e x) k
   |_=>aN
  |_=>aN
 | .ext i x=>match bU e x with
  | .cu vs=>lq (nth vs i) (ofV k)
  |_=>aN
 | .append esz x y=>PH s z esz (bU e x) (bU e y) k
 | .mm isMax x xs=>match bU e x with
  | .int a n=>lq (mmS isMax a n (jD e xs)) (ofV k)
  |_=>aN
 |_=>aN
end
mutual
def Hx (s:List SB) (bx:Nat->Option (List SV)):SV->Option SV
 | .int k n=>amn (.int k n)
 | .bool b=>amn (.bool b)
 | .str x=>amn (.str x)
 | .dU=>amn .dU
 | .agg cs=>match rT s bx cs with|some l=>amn (.agg l)|none=>amo
 | .cu cs=>match rT s bx cs with|some l=>amn (.cu l)|none=>amo
 | .sl r l=>amn (.sl r l)
 | .nil e _=>amn (.nil e amq)
 | .own t _=>match nth s t with
  |some (.arr r l)=>amn (.sl r l)
  |_=>amo
 | .pre t len _ _=>match nth s t with
  |some (.arr r l)=>amn (.sl r (l.take len))
  |_=>amo
 | .part t off len _ _=>match nth s t with
  |some (.arr r l)=>amn (.sl r ((l.drop off).take len))
  |_=>amo
 | .pa t r _ a off=>match nth s t with
  |some (.arr _ _)=>amn (.bI (RT.sv r a) off)
  |_=>amo
 | .bp t _ off=>match nth s t with
  |some (.box _)=>match bx t with|some l=>amn (.bI l off)|none=>amo
  |_=>amo
 | .bI cs off=>match rT s bx cs with|some l=>amn (.bI l off)|none=>amo
 | .eL f a b=>match rT s bx a,rT s bx b with
  |some x,amn y=>amn (.eL f x y)
  |_,_=>amo
 |_=>amo
def rT (s:List SB) (bx:Nat->Option (List SV)):List SV->Option (List SV)
 | []=>amn []
 |x::xs=>match Hx s bx x,rT s bx xs with
  |some y,amn ys=>amn (y::ys)
  |_,_=>amo
end
def NS (s:List SB) (bx:Nat->Option (List SV)):List SV->Bool
 | []=>amp
 |x::xs=>match x with
  | .mp _=>NS s bx xs
  |x=>match Hx s bx x with
   |some _=>NS s bx xs
   |none=>amq
def kD (s:List SB):Nat->Nat->Option (List SV)
 |0,_=>amo
 |n+1,t=>match nth s t with
  |some (.box cs)=>rT s (kD s n) cs
  |_=>amo
mutual
def NT (bx:Nat->List Nat):SV->List Nat
 | .agg cs=>q9 bx cs
 | .cu cs=>q9 bx cs
 | .own t _=>[t]
 | .pre t _ _ _=>[t]
 | .part t _ _ _ _=>[t]
 | .pa t _ _ _ _=>t::bx t
 | .pb t _ _=>t::bx t
 | .bp t _ _=>t::bx t
 | .bI cs _=>q9 bx cs
 | .mp t=>[t]
 | .eL _ a b=>q9 bx a++q9 bx b
 |_=>[]
def q9 (bx:Nat->List Nat):List SV->List Nat
 | []=>[]
 |x::xs=>NT bx x++q9 bx xs
end
def xb (s:List SB):Nat->Nat->List Nat
 |0,_=>[]
 |n+1,t=>match nth s t with
  |some (.box cs)=>q9 (xb s n) cs
  |_=>[]
mutual
def SV.sure:SV->Bool
 | .iS=>amq
 | .agg cs=>ma cs
 | .cu cs=>ma cs
 | .bI cs _=>ma cs
 | .eL _ a b=>ma a&&ma b
 |_=>amp
def ma:List SV->Bool
 | []=>amp
 |x::xs=>x.sure&&ma xs
end
mutual
def z6:SV->Bool
 | .int _ _| .bool _| .str _=>amp
 | .agg cs=>rf cs
 | .cu cs=>rf cs
 |_=>amq
def rf:List SV->Bool
 | []=>amp
 |x::xs=>z6 x&&rf xs
end
mutual
def TV (s:List SB):SV->Option SV
 | .int k n=>amn (.int k n)
 | .bool b=>amn (.bool b)
 | .str x=>amn (.str x)
 | .agg cs=>match NU s cs with|some l=>amn (.agg l)|none=>amo
 | .cu cs=>match NU s cs with|some l=>amn (.cu l)|none=>amo
 | .sl r l=>amn (.sl r l)
 | .nil e _=>amn (.nil e amq)
 | .own t _=>match nth s t with
  |some (.arr r l)=>amn (.sl r l)
  |_=>amo
 | .pre t len _ _=>match nth s t with
  |some (.arr r l)=>amn (.sl r (l.take len))
  |_=>amo
 | .part t off len _ _=>match nth s t with
  |some (.arr r l)=>amn (.sl r ((l.drop off).take len))
  |_=>amo
 |_=>amo
def NU (s:List SB):List SV->Option (List SV)
 | []=>amn []
 |x::xs=>match TV s x,NU s xs with
  |some y,amn ys=>amn (y::ys)
  |_,_=>amo
end
mutual
def RC (s:List SB) (z:List Nat):List Nat->SV->Option (SV×List Nat)
 |seen,.int k n=>amn (.int k n,seen)
 |seen,.bool b=>amn (.bool b,seen)
 |seen,.agg cs=>match K6 s z seen cs with|some p=>amn (.agg p.1,p.2)|none=>amo
 |seen,.cu cs=>match K6 s z seen cs with|some p=>amn (.cu p.1,p.2)|none=>amo
 |seen,.nil e c=>bif c then amn (.nil e amq,seen) else amo
 |seen,.own t _=>match nth s t with
  |some (.arr r l)=>bif has seen t||has z t then amo else amn (.sl r l,t::seen)
  |_=>amo
 |_,_=>amo
def K6 (s:List SB) (z:List Nat):List Nat->List SV->Option (List SV×List Nat)
 |seen,[]=>amn ([],seen)
 |seen,x::xs=>match RC s z seen x with
  |some p=>match K6 s z p.2 xs with
   |some q=>amn (p.1::q.1,q.2)
   |none=>amo
  |none=>amo
end
mutual
def xH:Nat->SV->SV×List SB
 |nx,.sl r l=>(.own nx amq,[.arr r l])
 |nx,.nil e _=>(.own nx amq,[.arr (aeF e (.i .i64)) []])
 |nx,.agg cs=>(.agg (tP nx cs).1,(tP nx cs).2)
 |nx,.cu cs=>(.cu (tP nx cs).1,(tP nx cs).2)
 |_,v=>(v,[])
def tP:Nat->List SV->List SV×List SB
 |_,[]=>([],[])
 |nx,x::xs=>((xH nx x).1::(tP (nx+(xH nx x).2.length) xs).1,(xH nx x).2++(tP (nx+(xH nx x).2.length) xs).2)
end
def EV:SB->List Nat
 | .box cs=>q9 sK cs
 |_=>[]
def yC:SB->Bool
 | .box cs=>ma cs
 |_=>amp
def Cg (s:List SB):Nat->List Nat->List Nat->Option (List Nat)
 |_,[],seen=>amn seen
 |0,_::_,_=>amo
 |n+1,t::ts,seen=>
  bif has seen t then Cg s n ts seen
  else match nth s t with
   |some b=>bif yC b then Cg s n (EV b++ts) (seen++[t]) else amo
   |none=>amo
mutual
def qc (m:List Nat):SV->Option SV
 | .agg cs=>match sZ m cs with|some l=>amn (.agg l)|none=>amo
 | .cu cs=>match sZ m cs with|some l=>amn (.cu l)|none=>amo
 | .own t ex=>match idxOf t m with|some u=>amn (.own u ex)|none=>amo
 | .pre t len cap ex=>match idxOf t m with|some u=>amn (.pre u len cap ex)|none=>amo
 | .part t off len cap ex=>match idxOf t m with|some u=>amn (.part u off len cap ex)|none=>amo
 | .pa t _ i _ off=>match idxOf t m with|some u=>amn (.pb u i off)|none=>amo
 | .pb t i off=>match idxOf t m with|some u=>amn (.pb u i off)|none=>amo
 | .bp t n off=>match idxOf t m with|some u=>amn (.bp u n off)|none=>amo
 | .bI cs off=>match sZ m cs with|some l=>amn (.bI l off)|none=>amo
 | .mp t=>match idxOf t m with|some u=>amn (.mp u)|none=>amo
 | .eL f a b=>match sZ m a,sZ m b with
  |some x,amn y=>amn (.eL f x y)
  |_,_=>amo
 | .iS=>amo
 |v=>amn v
def sZ (m:List Nat):List SV->Option (List SV)
 | []=>amn []
 |x::xs=>match qc m x,sZ m xs with
  |some y,amn ys=>amn (y::ys)
  |_,_=>amo
end
def NV (m:List Nat):SB->Option SB
 | .box cs=>match sZ m cs with|some l=>amn (.box l)|none=>amo
 |b=>amn b
def G0 (s:List SB) (m:List Nat):List Nat->Option (List SB)
 | []=>amn []
 |t::ts=>match nth s t with
  |some b=>match NV m b,G0 s m ts with
   |some b',amn r=>amn (b'::r)
   |_,_=>amo
  |none=>amo
def rowOf (rk:List (Nat×List PT)) (esz:Nat):List PT:=
 match rk with
 | []=>aeF esz (.i .i64)
 |(n,r)::q=>bif AC n esz&&AC (am8 r) esz then r else rowOf q esz
def I1:Option Nat->SV->SV
 |some _,.own t _=> .own t amq
 |some _,.pre t l c _=> .pre t l c amq
 |some _,.part t o l c _=> .part t o l c amq
 |_,v=>v
def wV (rk:List (Nat×List PT)) (e:SE) (m:List Nat):Nat->List (Nat×Option Nat)->Option (SE×List SB)
 |_,[]=>amn ([],[])
 |nx,(s,k)::r=>
  match k,GL s e with
  |some esz,.nil _ amp=>match wV rk e m (nx+1) r with
   |some p=>amn ((s,.own nx amq)::p.1,.arr (rowOf rk esz) []::p.2)
   |none=>amo
  |_,v=>match qc m v,wV rk e m nx r with
   |some v',amn p=>amn ((s,I1 k v')::p.1,p.2)
   |_,_=>amo
def EW (rk:List (Nat×List PT)) (st:p9) (t c esz:Nat):p9:=
 match nth st.aE t with
 |some (.box cs)=>match nth cs c with
  |some (.nil _ amp)=>{st with aE:=st.aE.set t (.box (cs.set c (.own (am8 st.aE) amq)))++[.arr (rowOf rk esz) []]}
  |_=>st
 |_=>st
def TW:SV->Option Nat
 | .bp t _ 0=>amn t
 |_=>amo
def W7:SV->Option Nat
 | .eL _ _ (x::_)=>TW x
 |x=>TW x
def lO (rk:List (Nat×List PT)):List (Nat×Option Nat)->p9->p9
 | [],st=>st
 |(s,k)::r,st=>match k with
  |some n=>bif aem 1000 n then (match W7 (GL s st.env) with
   |some t=>lO rk r (EW rk st t (n / 1000-1) (n%1000))
   |none=>lO rk r st) else lO rk r st
  |none=>lO rk r st
def Hy (s:List SB) (v:SV):SV:=
 match v with
 | .own t ex=>match nth s t with
  |some (.arr _ l)=> .pre t (am8 l) (am8 l) ex
  |_=>v
 |_=>v
def PK (s:List SB) (c:Nat):SE->SE
 | []=>[]
 |(t,v)::r=>bif AC t c then (t,Hy s v)::r else (t,v)::PK s c r
def A2:List (Nat×Option Nat)->p9->p9
 | [],st=>st
 |(t,_)::r,st=>bif aem 1000000 t then A2 r {st with env:=PK st.aE (t-1000000) st.env} else A2 r st
def A3 (e:SE):List (Nat×Option Nat)->Bool
 | []=>amp
 |(s,_)::r=>(GL s e).sure&&A3 e r
def EX (e:SE):List (Nat×Option Nat)->List Nat
 | []=>[]
 |(s,_)::r=>NT sK (GL s e)++EX e r
def NW:List SB->Nat->List Nat
 |b::r,n+1=>EV b++NW r n
 |_,_=>[]
def EY:List SB->Nat->Bool
 |b::r,n+1=>yC b&&EY r n
 |_,_=>amp
def EZ (rk:List (Nat×List PT)) (live:List (Nat×Option Nat)) (st:p9):Option p9:=
 bif A3 st.env live&&EY st.aE st.kn then
  match Cg st.aE 4096 (NW st.aE st.kn++EX st.env live) (uw st.kn) with
  |none=>amo
  |some m=>match G0 st.aE m m,wV rk st.env m (am8 m) live with
   |some s1,amn (e1,s2)=>amn (A2 live (lO rk live {env:=e1,aE:=s1++s2,fz:=xk st.fz 0 m,kn:=st.kn}))
   |_,_=>amo
 else amo
def E0 (rk:List (Nat×List PT)) (live:List (Nat×Option Nat)) (st:p9):Option p9:=
 match EZ rk live st with
 |some s=>bif live.any fun p=>p.2.isSome then EZ rk live s else amn s
 |none=>amo
inductive AK where
 |i
 |b
 |n
 |l (r:List PT)
 |s
@[reducible] def AK.T : AK -> Type
  | .i => Int
  | .b => Bool
  | .n => Nat
  | .l r => List (RT r)
  | .s => List (List Int)
@[reducible] def jW : List AK -> Type
  | [] => Unit
  | [a] => a.T
  | a :: q :: r => a.T × jW (q :: r)
inductive xg where
 |i (n:Int)
 |b (x:Bool)
 |n (x:Nat)
 |l (r:List PT) (x:List (RT r))
 |s (x:List (List Int))
def xg.k:xg->AK
 | .i _=> .i
 | .b _=> .b
 | .n _=> .n
 | .l r _=> .l r
 | .s _=> .s
def AK.at:(a:AK)->a.T->xg
 | .i,x=> .i x
 | .b,x=> .b x
 | .n,x=> .n x
 | .l r,x=> .l r x
 | .s,x=> .s x
def AK.of:(a:AK)->xg->Option a.T
 | .i,.i x=>amn x
 | .b,.b x=>amn x
 | .n,.n x=>amn x
 | .l r,.l q x=>rS q r x
 | .s,.s x=>amn x
 |_,_=>amo
def mg:(ks:List AK)->jW ks->List xg
 | [],_=>[]
 | [a],x=>[a.at x]
 |a::q::r,x=>a.at x.1::mg (q::r) x.2
def qG:(ks:List AK)->List xg->Option (jW ks)
 | [],[]=>amn ()
 | [a],[x]=>a.of x
 |a::q::r,x::xs=>match a.of x,qG (q::r) xs with
  |some y,amn ys=>amn (y,ys)
  |_,_=>amo
 |_,_=>amo
mutual
def Ch:SV->List xg
 | .int _ n=>[.i n]
 | .bool b=>[.b b]
 | .agg cs=>Ci cs
 | .cu cs=>Ci cs
 | .sl r l=>[.l r l]
 | .pre _ len cap _=>[.n len,.n cap]
 | .part _ off len cap _=>[.n off,.n len,.n cap]
 | .pb _ i _=>[.i i]
 | .bI cs _=>Ci cs
 | .eL _ a b=>Ci a++Ci b
 |_=>[]
def Ci:List SV->List xg
 | []=>[]
 |x::xs=>Ch x++Ci xs
end
def TX:SB->List xg
 | .arr r l=>[.l r l]
 | .box cs=>Ci cs
 | .set l=>[.s l]
 | .aO p l=>[.l [.i .i64,p] l]
 | .dead=>[]
def I2:List SB->List xg
 | []=>[]
 |b::r=>TX b++I2 r
def RD:SE->List xg
 | []=>[]
 |(_,v)::r=>Ch v++RD r
def wW (st:p9):List xg:=RD st.env++I2 st.aE
mutual
def wX:SV->SV->Bool
 | .undef,.undef=>amp
 | .jy,.jy=>amp
 | .dU,.dU=>amp
 | .int k _,.int l _=>fu k l
 | .bool _,.bool _=>amp
 | .agg a,.agg b=>xI a b
 | .cu a,.cu b=>xI a b
 | .sl r _,.sl q _=>AZ r q
 | .nil e c,.nil f d=>AC e f&&c==d
 | .own t x,.own u y=>AC t u&&x==y
 | .pre t _ _ x,.pre u _ _ y=>AC t u&&x==y
 | .part t _ _ _ x,.part u _ _ _ y=>AC t u&&x==y
 | .pb t _ o,.pb u _ p=>AC t u&&AC o p
 | .bp t n o,.bp u m p=>AC t u&&AC n m&&AC o p
 | .bI a o,.bI b p=>xI a b&&AC o p
 | .eL f a b,.eL g c d=>AC f g&&xI a c&&xI b d
 | .mp t,.mp u=>AC t u
 |_,_=>amq
def xI:List SV->List SV->Bool
 | [],[]=>amp
 |x::xs,y::ys=>wX x y&&xI xs ys
 |_,_=>amq
end
def aeY:SB->SB->Bool
 | .arr r _,.arr q _=>AZ r q
 | .box a,.box b=>xI a b
 | .set _,.set _=>amp
 | .aO p _,.aO q _=>p.same q
 | .dead,.dead=>amp
 |_,_=>amq
def E2:List SB->List SB->Bool
 | [],[]=>amp
 |x::xs,y::ys=>aeY x y&&E2 xs ys
 |_,_=>amq
def PL:SE->SE->Bool
 | [],[]=>amp
 |(t,x)::xs,(u,y)::ys=>AC t u&&wX x y&&PL xs ys
 |_,_=>amq
def PM:List Nat->List Nat->Bool
 | [],[]=>amp
 |x::xs,y::ys=>AC x y&&PM xs ys
 |_,_=>amq
def E3 (a b:p9):Bool:=PL a.env b.env&&E2 a.aE b.aE&&PM a.fz b.fz&&AC a.kn b.kn
mutual
def sN:SV->List xg->SV×List xg
 | .int k _,.i n::q=>(.int k n,q)
 | .bool _,.b x::q=>(.bool x,q)
 | .agg cs,q=>(.agg (rh cs q).1,(rh cs q).2)
 | .cu cs,q=>(.cu (rh cs q).1,(rh cs q).2)
 | .sl _ _,.l r l::q=>(.sl r l,q)
 | .pre t _ _ x,.n len:: .n cap::q=>(.pre t len cap x,q)
 | .part t _ _ _ x,.n off:: .n len:: .n cap::q=>(.part t off len cap x,q)
 | .pb t _ o,.i i::q=>(.pb t i o,q)
 | .bI cs o,q=>(.bI (rh cs q).1 o,(rh cs q).2)
 | .eL f a b,q=>(.eL f (rh a q).1 (rh b (rh a q).2).1,(rh b (rh a q).2).2)
 |v,q=>(v,q)
def rh:List SV->List xg->List SV×List xg
 | [],q=>([],q)
 |x::xs,q=>((sN x q).1::(rh xs (sN x q).2).1,(rh xs (sN x q).2).2)
end
def NX:SB->List xg->SB×List xg
 | .arr _ _,.l r l::q=>(.arr r l,q)
 | .box cs,q=>(.box (rh cs q).1,(rh cs q).2)
 | .set _,.s l::q=>(.set l,q)
 | .aO _ _,.l [.i .i64,p] l::q=>(.aO p l,q)
 |b,q=>(b,q)
def z7:List SB->List xg->List SB×List xg
 | [],q=>([],q)
 |b::r,q=>((NX b q).1::(z7 r (NX b q).2).1,(z7 r (NX b q).2).2)
def K7:SE->List xg->SE×List xg
 | [],q=>([],q)
 |(t,v)::r,q=>((t,(sN v q).1)::(K7 r (sN v q).2).1,(K7 r (sN v q).2).2)
def zm (st:p9) (q:List xg):p9:={st with env:=(K7 st.env q).1,aE:=(z7 st.aE (K7 st.env q).2).1}
def af2:List xg->List AK
 | []=>[]
 |a::r=>a.k::af2 r
def ptK {β:Type 1} (p:PT) (c:PT->β):β:=
 match p with
 | .i k=>c (.i k)
 | .b=>c .b
def rK {β:Type 1}:List PT->(List PT->β)->β
 | [],c=>c []
 |p::r,c=>ptK p fun p=>rK r fun r=>c (p::r)
def ksK {β:Type 1}:List AK->(List AK->β)->β
 | [],c=>c []
 | .i::r,c=>ksK r fun r=>c (.i::r)
 | .b::r,c=>ksK r fun r=>c (.b::r)
 | .n::r,c=>ksK r fun r=>c (.n::r)
 | .l q::r,c=>rK q fun q=>ksK r fun r=>c (.l q::r)
 | .s::r,c=>ksK r fun r=>c (.s::r)
mutual
def rU:SV->Option PV
 | .int k n=>amn (.int k n)
 | .bool b=>amn (.bool b)
 | .str x=>amn (.str x)
 | .dU=>amn .dU
 | .agg cs=>match qH cs with|some l=>amn (.agg l)|none=>amo
 | .cu cs=>match qH cs with|some l=>amn (.cu l)|none=>amo
 | .sl r l=>amn (.sl (am8 r) amq (l.map (RT.pv r)))
 | .nil e c=>amn (.sl e c [])
 | .bI cs off=>match qH cs with|some l=>amn (.bI l off)|none=>amo
 | .eL f a b=>match qH a,qH b with
  |some x,amn y=>amn (.eL f x y)
  |_,_=>amo
 |_=>amo
def qH:List SV->Option (List PV)
 | []=>amn []
 |x::xs=>match rU x,qH xs with
  |some y,amn ys=>amn (y::ys)
  |_,_=>amo
end
structure cH (α:Type) where
 enc:α->List SV
 dec:List SV->Option (α×List SV)
 law: ∀{vs:List SV} {a:α} {rest:List SV} {ps:List PV},dec vs=amn (a,rest)->qH vs=amn ps-> ∃p q,ps=p++q/\qH (enc a)=amn p/\qH rest=amn q
structure Arg (α:Type) where
 enc:α->SV
 dec:SV->Option α
 law: ∀{v:SV} {a:α} {p:PV},dec v=amn a->rU v=amn p->rU (enc a)=amn p
structure ay (α:Type) where
 enc:α->List SV
 dec:List SV->Option α
 law: ∀{vs:List SV} {a:α} {ps:List PV},dec vs=amn a->qH vs=amn ps->qH (enc a)=amn ps
inductive Kd where
 |pure
 |na
 |own
structure bA where
 {α β:Type}
 args:ay α
 res:Arg β
 fn:α->Option β
 kd:Kd
 ow:Bool
structure dP where
 ka:List AK
 ta:List SV
 tb:List SB
 ko:List AK
 tv:SV
 to:List SB
 fn:jW ka->Option (jW ko)
def A4:(p:PT)->PV->Option p.T
 | .i k,.int l n=>bif fu l k then amn n else amo
 | .b,.bool x=>amn x
 |_,_=>amo
def G1:(r:List PT)->List PV->Option (RT r)
 | [],[]=>amn ()
 | [p],[v]=>A4 p v
 |p::q::r,v::vs=>match A4 p v,G1 (q::r) vs with
  |some a,amn b=>amn (a,b)
  |_,_=>amo
 |_,_=>amo
def C6 (r:List PT):List (List PV)->Option (List (RT r))
 | []=>amn []
 |x::xs=>match G1 r x,C6 r xs with
  |some a,amn l=>amn (a::l)
  |_,_=>amo
structure Srt where
 r:List PT
 g:Option FuncId
 fn:List (RT r)->Option (List (RT r))
def NY:Srt:=⟨[.i .i64],amo,IY⟩
def W8:Option FuncId->List PV->Bool
 |none,[]=>amp
 |some g,[.eL h [] []]=>AC h g
 |_,_=>amq
def I3 (q:Srt) (args:List PV) (aE:cK) (fz:List Nat):Option (PV×cK×List Nat):=
 match args with
 | .own t e off len _ _::r=>match aE[t]? with
  |some (.arr e1 rows)=>if AC e (am8 q.r)&&AC off 0&&aem len (am8 rows)&&aem len dH&&!has fz t&&W8 q.g r then
   (match C6 q.r (rows.take len) with
   |some l=>match q.fn l with
    |some m=>if AC (am8 m) (am8 l) then amn (.cu [],aE.set t (.arr e1 (m.map (RT.pv q.r)++rows.drop len)),fz) else amo
    |none=>amo
   |none=>amo) else amo
  |_=>amo
 |_=>amo
inductive Cd where
 |code (x:aK)
 |ins (esz:Nat)
 |srt (q:Srt)
 |cat
instance:Coe aK Cd:=⟨.code⟩
def Cd.ent:Cd->Ent
 | .code x=> .code x
 | .ins n=> .GI (Iu n)
 | .srt q=> .GI (I3 q)
 | .cat=> .GI Is
structure Ctx where
 lp:Option Nat
 con:FuncId->List bA
 fpc:FuncId->List dP
 code:FuncId->Option Cd
 rk:List (Nat×List PT)
inductive XRS where
 |loc (r:fQ)
 |shr (v:SV) (s:List SB) (z:List Nat)
def SV.af4:SV->Bool
 | .own .. | .pre .. | .part .. | .pa .. | .pb .. | .bp .. | .mp .. =>amp
 |_=>amq
def z8:List SV->Bool
 | []=>amq
 |x::xs=>x.af4||z8 xs
mutual
def Wn (ts:List Nat):SV->SV
 | .pa t r i a off=>bif has ts t then .pb t i off else .pa t r i a off
 | .agg cs=> .agg (TY ts cs)
 | .cu cs=> .cu (TY ts cs)
 | .bI cs off=> .bI (TY ts cs) off
 | .eL f a b=> .eL f (TY ts a) (TY ts b)
 |v=>v
def TY (ts:List Nat):List SV->List SV
 | []=>[]
 |x::xs=>Wn ts x::TY ts xs
end
def dgE (ts:List Nat):SE->SE
 | []=>[]
 |(t,v)::r=>(t,Wn ts v)::dgE ts r
def W9 (ts:List Nat):SB->SB
 | .box cs=> .box (TY ts cs)
 |b=>b
def BQ (ts:List Nat):List SB->List SB
 | []=>[]
 |b::r=>W9 ts b::BQ ts r
def TZ:List SB->Nat->SB->List SB
 | [],_,_=>[]
 |_::r,0,b=>b::r
 |x::r,n+1,b=>x::TZ r n b
def qI:List (Nat×SB)->List SB->List SB
 | [],s=>s
 |(t,b)::r,s=>qI r (TZ s t b)
def xJ:List (Nat×SB)->List Nat
 | []=>[]
 |(t,_)::r=>t::xJ r
def I4 (d:Option Nat) (v:SV) (e:SE):SE:=
 match d with
 |some t=>(t,v)::e
 |none=>e
def apS:List SB->List SB->List SB
 | [],l=>l
 |b::r,l=>b::apS r l
def fQ.next (d:Option Nat) (st:p9) (r:fQ):p9:=
 match r.wr with
 | []=>{env:=I4 d r.v st.env,aE:=apS st.aE r.news,fz:=r.fr++st.fz,kn:=st.kn}
 |w=>{env:=I4 d r.v (dgE (xJ w) st.env),aE:=apS (BQ (xJ w) (qI w st.aE)) r.news,fz:=r.fr++st.fz,kn:=st.kn}
def fQ.ok (z:List Nat) (r:fQ):Bool:=(xJ r.wr).all fun t=>!has z t
def fQ.tr (nx:Nat) (r:fQ):Tr:=
 ⟨r.rd++r.fr,xJ r.wr,!r.news.isEmpty,amq,(r.rd++r.fr).all (aeZ · nx)&&(xJ r.wr).all (aeZ · nx),nx,nx+am8 r.news⟩
def T0:Tr:=⟨[],[],amp,amp,amp,0,0⟩
def py {R:Type}:List SB->List SB->gp R->gp R
 | [],_,k=>k
 |x::xs,y::ys,k=>match x with
  | .arr r l=>match y with
   | .arr q m=>bif AZ r q then gz (am8 m==am8 l) (py xs ys k) aN else aN
   | .dead=>py xs ys k
   |_=>aN
  | .dead=>match y with
   | .dead=>py xs ys k
   |_=>aN
  | .box _=>match y with
   | .box _=>py xs ys k
   | .dead=>py xs ys k
   |_=>aN
  |_=>py xs ys k
 |_,_,_=>aN
abbrev Xa:=FuncId->List SV->List SB->List Nat-> ∀R:Type,(SV->List SB->List Nat->gp R)->gp R
section
variable {R : Type}
def an1 (_:FuncId) (_:List SV):gp R:=aN
def asH (_:FuncId) (_:List SV) (_:List SB):gp R:=aN
def NZ (f:FuncId) (m:Bool) (s:List SB) (tk:List Nat) (vs:List SV) (k:XRS->gp R):List bA->gp R
 | []=>an1 f vs
 |c::r=>match c.args.dec vs with
  |some a=>bif m==c.ow then kX (c.fn a) fun b=>match c.kd with
   | .pure=>k (.loc {v:=c.res.enc b,rd:=tk})
   | .na=>k (.loc {v:=c.res.enc b,rd:=tk,fr:=tk})
   | .own=>k (.loc {v:=(xH (am8 s) (c.res.enc b)).1,news:=(xH (am8 s) (c.res.enc b)).2,rd:=tk}) else NZ f m s tk vs k r
  |none=>NZ f m s tk vs k r
mutual
def K8 (g:Nat->Nat):SV->SV
 | .agg cs=> .agg (C7 g cs)
 | .cu cs=> .cu (C7 g cs)
 | .own t ex=> .own (g t) ex
 | .pre t len cap ex=> .pre (g t) len cap ex
 | .part t off len cap ex=> .part (g t) off len cap ex
 | .pa t _ i _ off=> .pb (g t) i off
 | .pb t i off=> .pb (g t) i off
 | .bp t n off=> .bp (g t) n off
 | .bI cs off=> .bI (C7 g cs) off
 | .mp t=> .mp (g t)
 | .eL f a b=> .eL f (C7 g a) (C7 g b)
 |v=>v
def C7 (g:Nat->Nat):List SV->List SV
 | []=>[]
 |x::xs=>K8 g x::C7 g xs
end
def T1 (g:Nat->Nat):SB->SB
 | .box cs=> .box (C7 g cs)
 |b=>b
def zn (g:Nat->Nat):List Nat->List SB->List (Nat×SB)
 |t::r,b::s=>(t,T1 g b)::zn g r s
 |_,_=>[]
def ae1 (k:Nat) (v:SV) (s:List SB):Bool:=(NT sK v++s.flatMap EV).all fun t=>aeZ t k
def fpS (f : FuncId) (n : Nat) (tk : List Nat) (vs : List SV) (s0 : List SB) (k : XRS -> gp R) : List dP -> gp R
  | [] => asH f vs s0
  | c :: r => bif xI c.ta vs && E2 c.tb s0 then (match qG c.ka (Ci vs ++ I2 s0) with
      | some a => kX (c.fn a) fun b =>
          k (.loc { v := K8 (j7 tk n) (sN c.tv (mg c.ko b)).1, wr := zn (j7 tk n) tk (z7 c.to (sN c.tv (mg c.ko b)).2).1 })
      | none => fpS f n tk vs s0 k r) else fpS f n tk vs s0 k r
def Hz (cx:Ctx) (inl:Xa) (e:SE) (s:List SB) (z:List Nat) (op:kS) (k:XRS->gp R):gp R:=
 match op with
 | .call m f args=>match m with
  | .Wf=>match rT s (kD s deep) (jD e args) with
   |some vs=>NZ f amq s (q9 (xb s deep) (jD e args)) vs k (cx.con f)
   |none=>aN
  | .own=>match rT s (kD s deep) (jD e args) with
   |some vs=>NZ f amp s (q9 (xb s deep) (jD e args)) vs k (cx.con f)
   |none=>aN
  | .shr=>inl f (jD e args) s z R fun v s' z'=>k (.shr v s' z')
  | .fp=>match NS s (kD s deep) (jD e args) with
   |false=>aN
   |true=>let tk:=oK (q9 (xb s deep) (jD e args))
    bif tk.all (fun t=>!has z t) then (match sZ tk (jD e args),G0 s tk tk with
     |some vs,amn s0=>fpS f (am8 s) tk vs s0 k (cx.fpc f)
     |_,_=>aN) else aN
 | .wN x args=>match bU e x with
  | .eL f a b=>bif z8 (jD e args++b) then inl f (a++jD e args++b) s z R fun v s' z'=>k (.shr v s' z')
   else match rT s (kD s deep) (a++jD e args++b) with
   |some vs=>NZ f amq s (q9 (xb s deep) (a++jD e args++b)) vs k (cx.con f)
   |none=>aN
  |_=>aN
 |op=>mb e s z op fun r=>k (.loc r)
def PN (d:Option Nat) (st:p9) (tr:List Tr) (k:p9->List Tr->gp R) (x:XRS):gp R:=
 match x with
 | .loc r=>bif r.ok st.fz then W5 r.v fun v=>k ({r with v}.next d st) (r.tr (am8 st.aE)::tr) else aN
 | .shr v s z=>W5 v fun v=>py st.aE s (bif st.fz.all (has z) then k {env:=I4 d v (dgE (uw (am8 st.aE)) st.env),aE:=s,fz:=z,kn:=st.kn} (T0::tr) else aN)
def oR (cx:Ctx) (inl:Xa):List bS->p9->List Tr->(p9->List Tr->gp R)->gp R
 | [],st,tr,k=>k st tr
 |o::r,st,tr,k=>
  let run:=fun st:p9=>match o.op with
   | .pick (.t c) a b=>match GL c st.env with
    | .bool x=>gz x (PN o.dst {st with env:=zZ c (.bool amp) st.env} tr (oR cx inl r · · k) (.loc {v:=bU st.env a}))
     (PN o.dst {st with env:=zZ c (.bool amq) st.env} tr (oR cx inl r · · k) (.loc {v:=bU st.env b}))
    |_=>aN
   |op=>Hz cx inl st.env st.aE st.fz op (PN o.dst st tr (oR cx inl r · · k))
  let skip:=fun st:p9=>oR cx inl r {st with env:=I4 o.dst .jy st.env} (Tr.idle::tr) k
  match o.guard with
  |none=>run st
  |some (s,want)=>match GL s st.env with
   | .bool x=>bif want then gz x (run {st with env:=zZ s (.bool amp) st.env}) (skip {st with env:=zZ s (.bool amq) st.env})
    else gz x (skip {st with env:=zZ s (.bool amp) st.env}) (run {st with env:=zZ s (.bool amq) st.env})
   | .jy=>skip st
   |_=>aN
def K9 (e:SE):List Nat->(SE->gp R)->gp R
 | [],k=>k []
 |s::r,k=>W5 (GL s e) fun v=>K9 e r fun e'=>k ((s,v)::e')
noncomputable def A5 (cx:Ctx) (inl:Xa):(c:jT)->(R:Type)->p9->(hJ->p9->gp R)->gp R
 | .skip,_,st,k=>k .normal st
 | .region d ops fN,_,st,k=>oR cx inl ops st [] fun kH tr=>
  let fin:=K9 kH.env fN fun e=>k .normal {kH with env:=e}
  match d with
  |none=>fin
  |some bf=>match qW 0 (tr.reverse.zip bf) with
   |true=>fin
   |false=>aN
 | .seq a b,R,st,k=>A5 cx inl a R st fun e kH=>match e with
  | .normal=>A5 cx inl b R kH k
  |e=>k e kH
 | .cond c a b,R,st,k=>match bU st.env c with
  | .bool x=>gz x (A5 cx inl a R st k) (A5 cx inl b R st k)
  |_=>aN
 | .block id b,R,st,k=>A5 cx inl b R st fun e kH=>match e with
  | .exit j=>bif AC j id then k .normal kH else k (.exit j) kH
  |e=>k e kH
 | .loop live b,_,st,k=>match E0 cx.rk live st with
  |none=>aN
  |some nL=>ksK (af2 (wW nL)) fun ks=>match qG ks (wW nL) with
   |none=>aN
   |some y0=>fun ρ w=>TO cx.lp (fun y:jW ks=>A5 cx inl b (Step (jW ks) ρ) (zm nL (mg ks y)) (fun e Dw=>match e with
    | .normal=>match E0 cx.rk live Dw with
     |some N0=>bif E3 nL N0 then (match qG ks (wW N0) with
      |some y'=>Hw (.next y')
      |none=>aN) else aN
     |none=>aN
    |e=>fun A6 w'=>k e Dw A6 fun r=>w' (.done (w r))) (Step (jW ks) ρ) fun z=>z) y0
 | .exit id,_,st,k=>k (.exit id) st
 | .ret,_,st,k=>k .ret st
def N1 (st:p9):RV->Option SV
 | .tmp t=>amn (GL t st.env)
 | .cell t agg=>match GL t st.env with
  | .bp t _ off=>match nth st.aE t with
   |some (.box cs)=>zk agg off cs
   |_=>amo
  | .bI cs off=>zk agg off cs
  |_=>amo
def yD (st:p9):List RV->Option (List SV)
 | []=>amn []
 |r::rs=>match N1 st r,yD st rs with
  |some v,amn vs=>amn (v::vs)
  |_,_=>amo
def Cj:List SV->SV
 | [v]=>v
 |vs=> .cu vs
def N2:Nat->List SV->SE
 |_,[]=>[]
 |i,v::r=>(i,v)::N2 (i+1) r
noncomputable def La (cx:Ctx) (inl:Xa) (x:aK) (R:Type) (args:List SV) (s:List SB) (z:List Nat) (k:SV->List SB->List Nat->gp R):gp R:=
 bif AC (am8 args) x.CV then A5 cx inl x.code R {env:=N2 0 args,aE:=s,fz:=z,kn:=am8 s} fun e st=>match e with
  | .exit _=>aN
  |_=>match yD st x.res with
   |some vs=>k (Cj vs) st.aE st.fz
   |none=>aN
 else aN
def fQ.nb (s:List SB) (r:fQ):List SB:=
 match r.wr with
 | []=>apS s r.news
 |w=>apS (BQ (xJ w) (qI w s)) r.news
def C8:Option FuncId->List SV->Bool
 |none,[]=>amp
 |some g,[.eL h [] []]=>AC h g
 |_,_=>amq
structure an2 where
 t:Nat
 r:List PT
 l:List (RT r)
 i:Int
 m:List (RT r)
def Xb (esz:Nat) (args:List SV) (s:List SB) (z:List Nat):Option an2:=
 match args with
 | [.own t _,.int .i64 i,.own u _]=>match nth s t with
  |some (.arr r l)=>match nth s u with
   |some (.arr q m)=>match rS q r m with
    |some m=>bif AC (am8 r) esz&&!Nat.beq t u&&!has z t then amn ⟨t,r,l,i,m⟩ else amo
    |none=>amo
   |_=>amo
  |_=>amo
 |_=>amo
def af6 (esz:Nat) (args:List SV) (s:List SB) (z:List Nat) (k:SV->List SB->List Nat->gp R):gp R:=
 match Xb esz args s z with
 |some a=>kX (yA a.l a.i a.m) fun l'=>k (.own (am8 s) amq) (fQ.nb s {v:= .own (am8 s) amq,news:=[.arr a.r l'],wr:=[(a.t,.dead)]}) z
 |none=>aN
structure an3 where
 t:Nat
 r:List PT
 l:List (RT r)
 m:List (RT r)
def Xc (args:List SV) (s:List SB) (z:List Nat):Option an3:=
 match args with
 | [.part t off len _ _]=>match nth s t with
  |some (.box [.sl r l,.sl q m])=>match rS q r m with
   |some m=>bif AC (am8 r) 1&&AC off 0&&AC len 2&&!has z t then amn ⟨t,r,l,m⟩ else amo
   |none=>amo
  |_=>amo
 |_=>amo
def af7 (args:List SV) (s:List SB) (z:List Nat) (k:SV->List SB->List Nat->gp R):gp R:=
 match Xc args s z with
 |some a=>kX (RA a.l a.m) fun l'=>k (.own (am8 s) amq) (fQ.nb s {v:= .own (am8 s) amq,news:=[.arr a.r l'],wr:=[(a.t,.dead)]}) z
 |none=>aN
def Xd (r:List PT) (g:Option FuncId) (args:List SV) (s:List SB) (z:List Nat):Option (Nat×Option Nat×List (RT r)):=
 match args with
 | .own t _::a=>match nth s t with
  |some (.arr q l)=>match rS q r l with
   |some l=>bif !has z t&&C8 g a then amn (t,amo,l) else amo
   |none=>amo
  |_=>amo
 | .pre t len _ _::a=>match nth s t with
  |some (.arr q l)=>match rS q r l with
   |some l=>bif !has z t&&C8 g a then amn (t,amn len,l) else amo
   |none=>amo
  |_=>amo
 |_=>amo
def af8 (q:Srt) (args:List SV) (s:List SB) (z:List Nat) (k:SV->List SB->List Nat->gp R):gp R:=
 match Xd q.r q.g args s z with
 |some (t,amo,l)=>kX (C5 q.fn l) fun m=>k (.cu []) (fQ.nb s {v:= .cu [],wr:=[(t,.arr q.r m)]}) z
 |some (t,amn len,l)=>kX (yB q.fn len l) fun m=>k (.cu []) (fQ.nb s {v:= .cu [],wr:=[(t,.arr q.r m)]}) z
 |none=>aN
noncomputable def T2 (cx:Ctx):Nat->Xa
 |0=>fun _ _ _ _ _ _=>aN
 |n+1=>fun f args s z R k=>match cx.code f with
  |some (.code x)=>La cx (T2 cx n) x R args s z k
  |some (.ins e)=>af6 e args s z k
  |some (.srt q)=>af8 q args s z k
  |some .cat=>af7 args s z k
  |none=>aN
def T3 (kd:Kd) {β:Type} (res:Arg β) (v:SV) (s:List SB) (z:List Nat):gp β:=
 match kd with
 | .pure=>bif z6 v then lq (res.dec v) Hw else aN
 | .na=>bif z6 v then aN else lq (TV s v) fun u=>lq (res.dec u) Hw
 | .own=>lq (RC s z [] v) fun u=>lq (res.dec u.1) Hw
noncomputable def ae2 (cx:Ctx) (x:aK) {α β:Type} (args:ay α) (res:Arg β) (kd:Kd) (a:α):Option β:=
 La cx (T2 cx 8) x β (args.enc a) [] [] (T3 kd res) β fun b=>b
def E4:List SB->Bool
 | []=>amp
 |b::r=>yC b&&E4 r
def A7 {R:Type}:List SB->List SB->gp R->gp R
 | [],[],k=>k
 |x::xs,y::ys,k=>match x with
  | .arr r l=>match y with
   | .arr q m=>bif AZ r q then gz (am8 m==am8 l) (A7 xs ys k) aN else aN
   |_=>aN
  | .dead=>match y with
   | .dead=>A7 xs ys k
   |_=>aN
  | .box _=>match y with
   | .box _=>A7 xs ys k
   |_=>aN
  | .set _=>match y with
   | .set _=>A7 xs ys k
   |_=>aN
  | .aO _ _=>match y with
   | .aO _ _=>A7 xs ys k
   |_=>aN
 |_,_,_=>aN
noncomputable def asI (wd:Bool) (cx:Ctx) (x:aK) (ka:List AK) (ta:List SV) (tb:List SB) (ko:List AK) (tv:SV) (to:List SB) (a:jW ka):Option (jW ko):=
 La cx (T2 cx 8) x (jW ko) (rh ta (mg ka a)).1 (z7 tb (rh ta (mg ka a)).2).1 [] (fun v s z=>match z with
  | []=>let u:=bif wd then Hy s v else v
   let s1:=s.take (am8 tb)
   bif wX tv u&&E2 to s1&&ae1 (am8 tb) u s1&&u.sure&&E4 s1 then A7 (z7 tb (rh ta (mg ka a)).2).1 s1 (lq (qG ko (Ch u++I2 s1)) Hw) else aN
  |_=>aN) (jW ko) fun b=>b
end
end Go.Vm
