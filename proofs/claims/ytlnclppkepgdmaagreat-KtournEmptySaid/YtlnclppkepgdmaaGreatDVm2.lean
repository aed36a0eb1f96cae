/- The logical machine, part 2: VmCall3, VmFp, VmRun, VmInv, VmStep, VmShr, VmOp, VmReg, VmReg2, VmNorm, VmNorm2, VmCode, VmSound, VmPrim, VmIns, VmTab, VmComp, VmLaw, VmSym, SvBase, SvDef, SvCod. -/
import Derived.Test.YtlnclppkepgdmaaGreatDVm1
import Derived.Orders
import Derived.Laws.Sem
import Derived.Laws.Externs
import Derived.Lib.SliceRun
import Derived.Laws.CopyRow
import Derived.ProofKit
import Derived.Carry
import Derived.OpenShut
import Derived.Deep.Slices
import Derived.Deep.Grids
open Option.some renaming injEq->bn,inj->ef
open List renaming getElem?_eq_getElem->bo,getElem?_eq_some_iff->bz,getElem?_append_left->cd,getElem?_append_right->cq,mem_append->c9,all_eq_true->db,mem_singleton->dd,take_of_length_le->de,length_append->dj,replicate->dm,mem_cons->dp,mem_cons_of_mem->dv,getD_eq_getElem?_getD->d6,pairwise_iff_getElem->d7,flatMap_cons->ec,drop_of_length_le->ed,append_nil->eh,mem_append_right->ei,getElem?_set_ne->ej,mem_append_left->ek,mem_of_mem_take->ez,mem_of_mem_drop->fb,take_succ_cons->fh,flatMap_append->fj,nodup_append->fq,getElem?_set->ft,any_eq_true->fv,length_set->fx,drop_zero->gb
open Bool renaming and_eq_true->bq,false_eq_true->ci,not_eq_true'->cj,or_eq_true->eg
open Nat renaming beq->bu,le_refl->cb,lt_trichotomy->cm,le_trans->cu,ble->cz,lt_or_ge->c7,zero_le->c8,eq_or_lt_of_le->dc,lt_of_lt_of_le->di,blt->dt,le_of_lt->dy,ble_eq->d5,add_mul->ew,mul_le_mul_right->ff,lt_or_gt_of_ne->fk,le_total->fo,beq_eq->ga
open Prod.mk renaming injEq->bv
open Option renaming map_eq_some_iff->bw
open Array renaming getElem?_eq_some_iff->ce,getElem?_setIfInBounds->cw,getD_eq_getD_getElem?->cy,getElem?_setIfInBounds_self_of_lt->df,replicate->dh,getElem?_eq_getElem->d8,size_replicate->eu,size_append->fu,ext'->fy
open Int renaming ofNat_eq_natCast->dw,ofNat->fg
open Go.Sem renaming run_bind->dz,run_pure->gc
open Go.Result renaming andThen_ok->d9
open Go.World renaming cell?->fw
/- A pure call, whole. -/
namespace Go.Vm
structure B2 (im:Im) (loc:dV) (sto:dC) (w:World) (v:PV) (sto':dC) (fz':List Nat) (im':Im) (loc':dV) (w':World) (u:Value):Prop where
 imle:sD im im'
 locle:pX loc loc'
 vr:VR im' loc' v u
 sr:SR im' loc' sto' fz' w'
 os:w'.os=w.os
 tape:w'.tape=w.tape
 output:w'.output=w.output
 size:w.heap.size<=w'.heap.size
 frame: ∀b,b<w.heap.size->(∀t li k,loc t=some li->sto[t]? =some k->k.solid=true->li.blk≠b)->w'.heap[b]? =w.heap[b]?
 imnew: ∀b o,im' b=some o->im b=some o\/w.heap.size<=b\/ ∃t li k,loc t=some li/\sto[t]? =some k/\k.solid=true/\li.blk=b
 locs: ∀t li,loc' t=some li->loc t=some li\/sto.length<=t
 own: ∀t li k,loc' t=some li->sto'[t]? =some k->k.solid=true->(w.heap.size<=li.blk\/ ∃u lu ku,loc u=some lu/\sto[u]? =some ku/\ku.solid=true/\lu.blk=li.blk)
def A8 (P:Program) (f:FuncId) (us:Array Value) (w:World) (R:Value->World->Prop):Prop:=
 (∃v w',(callFunc f us).run P w= .ok (.value v) w'/\R v w')\/
 ((callFunc f us).run P w= .ok (.enter f us) w/\Calls P f us w fun e w'=> ∃v,e= .returned v/\R v w')
theorem A8.mono {P:Program} {f:FuncId} {us:Array Value} {w:World} {R R':Value->World->Prop} (h:A8 P f us w R) (hr: ∀v w',R v w'->R' v w'):A8 P f us w R':=by
 rcases h with ⟨v,w',h1,h2⟩|⟨h1,h2⟩
 · exact .inl ⟨v,w',h1,hr _ _ h2⟩
 exact .inr ⟨h1,h2.mono fun e w' ⟨v,he,hv⟩=>⟨v,he,hr _ _ hv⟩⟩
def LM (P : Program) (rec : mT -> Option zS) : Prop :=
  ∀ (f : FuncId) (args : List PV) (sto : dC) (fz : List Nat) (v : PV) (sto' : dC) (fz' : List Nat), rec (.func f args sto fz) = some (.func v sto' fz') ->
    ∀ (im : Im) (loc : dV) (w : World) (us : List Value), SR im loc sto fz w -> VRL im loc args us ->
      A8 P f ⟨us⟩ w fun u w' => ∃ im' loc', B2 im loc sto w v sto' fz' im' loc' w' u
def US (P : Program) (f : FuncId) (p : List PV -> Option (PV × dC)) : Prop :=
  ∀ (args : List PV) (v : PV) (news : dC), p args = some (v, news) -> ∀ (im : Im) (w : World) (us : List Value), SR im hZ [] [] w -> VRL im hZ args us ->
    A8 P f ⟨us⟩ w fun u w' => ∃ im' loc', B2 im hZ [] w v news [] im' loc' w' u
def XN (P : Program) (f : FuncId) (p : List PV -> dC -> List Nat -> Option (PV × dC × List Nat)) : Prop :=
  ∃ fn c, P.funcs[f]? = some fn /\ (fn.name == "runtime.NumGoroutine") = false /\ fn.body = some c /\
    ∀ (args : List PV) (sto : dC) (fz : List Nat) (v : PV) (sto' : dC) (fz' : List Nat), p args sto fz = some (v, sto', fz') ->
      ∀ (im : Im) (loc : dV) (w : World) (us : List Value), SR im loc sto fz w -> VRL im loc args us ->
        A8 P f ⟨us⟩ w fun u w' => ∃ im' loc', B2 im loc sto w v sto' fz' im' loc' w' u
def GK (P:Program) (F:qT):Prop:=(∀f k p,F f=some (.prim k p)->k=false/\US P f p)/\ ∀f p,F f=some (.shp p)->XN P f p
section
variable {P : Program} {F : qT} {rec : mT -> Option zS} {im : Im} {loc : dV} {sto : dC} {w : World}
theorem SR.empty (h: ∀b o,im b=some o->w.heap[b]? =some o):SR im hZ [] [] w where
 im_ok:=h
 blk:=fun t li h=>by cases h
 excl:=fun t u li lj k k' h=>by cases h
 free:=fun t li k h=>by cases h
theorem aDD {r:tH} {v:PV} {u:Value} {sto1:dC} {fz1:List Nat} {im0 im1:Im} {loc1:dV} {w1:World} (hk:mC im loc sto w r) (hr:r.v=v) (hn:r.news=[]) (hw:r.wr=[]) (hno:v.noref=true)
 (hp:B2 im0 hZ [] w v sto1 fz1 im1 loc1 w1 u): ∃im' loc',VR im' loc' r.v u/\BU im loc sto w r im' loc' w1:=by
 refine ⟨im,loc,by rw [hr];exact XM hno hp.vr,?_⟩
 have hfr: ∀b,b<w.heap.size->w1.heap[b]? =w.heap[b]?:=fun b hb=>hp.frame b hb fun t li k h=>by cases h
 exact {
  imle:= .refl _,locle:= .refl _
  im_ok:=fun b o h=>by
   have h1:=hk.im_ok b o h;have hlt:b<w.heap.size:=(ce.1 h1).1;rw [hfr b hlt];exact h1
  imnew:=fun _ _ h=> .inl h
  os:=hp.os,tape:=hp.tape,output:=hp.output,size:=hp.size
  frame:=fun b hb _=>hfr b hb
  wrs:=fun t k h=>by rw [hw] at h;cases h
  wr:=fun t k li h=>by rw [hw] at h;cases h
  locnew:=fun _ _ h=> .inl h
  news:=fun j k li h=>by rw [hn] at h;simp at h
  distinct:=fun i j ki kj li lj h=>by rw [hn] at h;simp at h}
theorem aES {r:tH} {v v':PV} {u:Value} {sto1:dC} {fz1 tk:List Nat} {im1:Im} {loc1:dV} {w1:World} (hr:r.v=v') (hn:r.news=[]) (hw:r.wr=[]) (hf:r.fr=tk)
 (hp:B2 (grow im w (IG loc sto tk)) hZ [] w v sto1 fz1 im1 loc1 w1 u) (hi:GG sto1 v=some v'): ∃im' loc',VR im' loc' r.v u/\BU im loc sto w r im' loc' w1:=by
 have hfr: ∀b,b<w.heap.size->w1.heap[b]? =w.heap[b]?:=fun b hb=>hp.frame b hb fun t li k h=>by cases h
 let im2:Im:=fun b=>match im1 b with
  |some o=>some o
  |none=>if (IG loc1 sto1 (lI zR v)).contains b&&cz w.heap.size b then w1.heap[b]? else none
 have hle:sD im1 im2:=fun b o h=>by simp only [im2,h]
 have hok: ∀b o,im2 b=some o->w1.heap[b]? =some o:=by
  intro b o h;simp only [im2] at h;split at h
  · rename_i o' ho;injection h with h;subst h;exact hp.sr.im_ok b _ ho
  split at h
  · exact h
  cases h
 have hover: ∀t,t∈lI zR v->OX im1 im2 loc1 sto1 w1 t:=by
  intro t ht li hl;obtain ⟨k,hk1,hbr⟩:=hp.sr.blk t li hl;refine ⟨k,hk1,hbr,fun hs=>?_⟩
  have hge:w.heap.size<=li.blk:=by
   rcases hp.own t li k hl hk1 hs with h|⟨u,lu,ku,h,_⟩
   · exact h
   cases h
  simp only [im2];split
  · rename_i o ho;exact (hp.sr.im_ok _ _ ho).symm
  rw [if_pos]
  simp only [bq,d5];exact ⟨by simpa using IH.2 ⟨t,li,k,ht,hl,hk1,hs,rfl⟩,hge⟩
 refine ⟨im2,loc,by rw [hr];exact aEQ hle hover hp.vr hi,?_⟩
 exact {
  imle:=(UR im w _).trans (hp.imle.trans hle),locle:= .refl _
  im_ok:=hok
  imnew:=fun b o h=>by
   simp only [im2] at h;split at h
   · rename_i o' ho
     injection h with h;subst h;rcases hp.imnew b _ ho with h1|h1|⟨t,li,k,h1,_⟩
     · rcases aEP h1 with h2|h2
       · exact .inl h2
       obtain ⟨t,li,k,ht,hl,hkk,hs,hb⟩:=IH.1 h2
       exact .inr (.inr ⟨t,li,k,by rw [hf];exact uS.2 ht,hl,hkk,hs,hb⟩)
     · exact .inr (.inl h1)
     cases h1
   split at h
   · rename_i hc
     simp only [bq,d5] at hc;exact .inr (.inl hc.2)
   cases h
  os:=hp.os,tape:=hp.tape,output:=hp.output,size:=hp.size
  frame:=fun b hb _=>hfr b hb
  wrs:=fun t k h=>by rw [hw] at h;cases h
  wr:=fun t k li h=>by rw [hw] at h;cases h
  locnew:=fun _ _ h=> .inl h
  news:=fun j k li h=>by rw [hn] at h;simp at h
  distinct:=fun i j ki kj li lj h=>by rw [hn] at h;simp at h}
theorem aB8 {r:tH} {v v':PV} {u:Value} {sto1:dC} {fz1 seen':List Nat} {im0 im1:Im} {loc1:dV} {w1:World} {news:dC} (hk:mC im loc sto w r) (hr:r.v=v') (hn:r.news=news) (hw:r.wr=[])
 (hp:B2 im0 hZ [] w v sto1 fz1 im1 loc1 w1 u) (hi:HB sto1 fz1 sto.length [] v=some (v',news,seen')): ∃im' loc',VR im' loc' r.v u/\BU im loc sto w r im' loc' w1:=by
 have hfr: ∀b,b<w.heap.size->w1.heap[b]? =w.heap[b]?:=fun b hb=>hp.frame b hb fun t li k h=>by cases h
 obtain ⟨lis,ts,h1,h2⟩:=aER (fun t li hl=>hp.sr.blk t li hl) hp.vr hi
 let loc2:dV:=fun t=>if t<sto.length then loc t else match lis[t-sto.length]? with
  |some li=>some li
  |none=>loc t
 have hnew: ∀(j:Nat) (li:LI),lis[j]? =some li->loc2 (sto.length+j)=some li:=by
  intro j li hj;simp only [loc2];rw [if_neg (by omega),show sto.length+j-sto.length=j by omega,hj]
 have hle:pX loc loc2:=by
  intro t li hl;simp only [loc2];split
  · exact hl
  rename_i hlt
  split
  · rename_i l2 hl2
    have hj:=(bz.1 hl2).1
    have:=hk.fresh (t-sto.length) (by rw [hn,<- h1.len1];exact hj)
    rw [show sto.length+(t-sto.length)=t by omega,hl] at this
    cases this
  exact hl
 have hli: ∀(j:Nat) (k:mU),news[j]? =some k-> ∃li,lis[j]? =some li:=by
  intro j k hj
  have:=(bz.1 hj).1
  exact ⟨_,bo (by rw [h1.len1];exact this)⟩
 have hts: ∀(j:Nat) (k:mU),news[j]? =some k->k.solid=true-> ∃t,ts[j]? =some (some t):=by
  intro j k hj hs;have hlt:=(bz.1 hj).1;cases hg:ts[j]? with
  |none=>have:=List.getElem?_eq_none_iff.1 hg;have:=h1.len2;omega
  |some x=>
   cases x with
   |some t=>exact ⟨t,rfl⟩
   |none=>rw [h1.dum j k hj hg] at hs;cases hs
 refine ⟨im,loc2,by rw [hr];exact h2 im loc2 hnew,?_⟩
 exact {
  imle:= .refl _,locle:=hle
  im_ok:=fun b o h=>by
   have h1:=hk.im_ok b o h;have hlt:b<w.heap.size:=(ce.1 h1).1;rw [hfr b hlt];exact h1
  imnew:=fun _ _ h=> .inl h
  os:=hp.os,tape:=hp.tape,output:=hp.output,size:=hp.size
  frame:=fun b hb _=>hfr b hb
  wrs:=fun t k h=>by rw [hw] at h;cases h
  wr:=fun t k li h=>by rw [hw] at h;cases h
  locnew:=fun t li h=>by
   simp only [loc2] at h;split at h
   · exact .inl h
   rename_i hlt
   split at h
   · rename_i l2 hl2
     have hj:=(bz.1 hl2).1;exact .inr ⟨by omega,by rw [hn,<- h1.len1];omega⟩
   exact .inl h
  news:=LH fun j k hj=>by
   rw [hn] at hj;obtain ⟨li,hl⟩:=hli j k hj;obtain ⟨⟨e,rows,rfl⟩,hbr⟩:=h1.br j k li hj hl;refine ⟨li,hnew j li hl,hbr,fun hs=>?_⟩
   obtain ⟨t,ht⟩:=hts j _ hj hs;obtain ⟨a1,a2,a3,_,_⟩:=h1.own j _ li t hj hl ht;have hge:w.heap.size<=li.blk:=by
    rcases hp.own t li _ a1 a2 hs with h|⟨u,lu,ku,h,_⟩
    · exact h
    cases h
   refine ⟨?_,.inl hge⟩;cases hb:im li.blk with
   |none=>rfl
   |some o=>
    have:=(ce.1 (hk.im_ok _ _ hb)).1
    omega
  distinct:=fun i j ki kj li lj hi' hj' hsi hsj hli' hlj' hbb=>by
   rw [hn] at hi' hj';obtain ⟨l1,hl1⟩:=hli i ki hi';obtain ⟨l2,hl2⟩:=hli j kj hj';have e1:=hnew i l1 hl1;have e2:=hnew j l2 hl2;rw [hli'] at e1;rw [hlj'] at e2;injection e1 with e1;injection e2 with e2;subst e1 e2;obtain ⟨t1,ht1⟩:=hts i ki hi' hsi;obtain ⟨t2,ht2⟩:=hts j kj hj' hsj;obtain ⟨a1,a2,_⟩:=h1.own i ki li t1 hi' hl1 ht1;obtain ⟨b1,b2,_⟩:=h1.own j kj lj t2 hj' hl2 ht2
   have:=hp.sr.excl t1 t2 li lj ki kj a1 b1 a2 b2 hsi hsj hbb
   subst this;exact h1.inj i j t1 ht1 ht2}
theorem II {own:Bool} {f:FuncId} {args':List PV} {tk:List Nat} {r:tH}
 (h:(match rec (.func f args' [] []) with
  |some (.func v s1 z1)=>
   if own then match HB s1 z1 sto.length [] v with
    |some (v',n2,_)=>some {v:=v',news:=n2,rd:=tk}
    |none=>none
   else if v.noref then some {v,rd:=tk}
   else match GG s1 v with
    |some v'=>some {v:=v',rd:=tk,fr:=tk}
    |none=>none
  |_=>none)=some r):r.rd=tk:=by
 split at h
 · split at h
   · split at h
     · injection h with h;subst h;rfl
     cases h
   split at h
   · injection h with h;subst h;rfl
   split at h
   · injection h with h;subst h;rfl
   cases h
 cases h
theorem E7 (hrec:LM P rec) {own:Bool} {f:FuncId} {args':List PV} {tk:List Nat} {r:tH} {us:List Value}
 (h:(match rec (.func f args' [] []) with
  |some (.func v s1 z1)=>
   if own then match HB s1 z1 sto.length [] v with
    |some (v',n2,_)=>some {v:=v',news:=n2,rd:=tk}
    |none=>none
   else if v.noref then some {v,rd:=tk}
   else match GG s1 v with
    |some v'=>some {v:=v',rd:=tk,fr:=tk}
    |none=>none
  |_=>none)=some r) (ha:VRL (grow im w (IG loc sto tk)) hZ args' us) (hk:mC im loc sto w r):
 A8 P f ⟨us⟩ w fun u w'=> ∃im' loc',VR im' loc' r.v u/\BU im loc sto w r im' loc' w':=by
 cases hr:rec (.func f args' [] []) with
 |none=>rw [hr] at h;cases h
 |some o=>
  rw [hr] at h;cases o with
  |code e st=>cases h
  |func v s1 z1=>
   dsimp only at h;refine (hrec f args' [] [] v s1 z1 hr _ hZ w us (SR.empty (aB6 hk.im_ok)) ha).mono fun u w' hq=>?_
   obtain ⟨im1,loc1,hp⟩:=hq;split at h
   · cases hio:HB s1 z1 sto.length [] v with
     |none=>rw [hio] at h;cases h
     |some q2=>
      obtain ⟨v',n2,s2⟩:=q2;rw [hio] at h;simp only [bn] at h;subst h;exact aB8 hk rfl rfl rfl hp hio
   split at h
   · rename_i hno
     simp only [bn] at h;subst h;exact aDD hk rfl rfl rfl hno hp
   cases hif:GG s1 v with
   |none=>rw [hif] at h;cases h
   |some v'=>
    rw [hif] at h;simp only [bn] at h;subst h;exact aES rfl rfl rfl rfl hp hif
theorem UT (hrec:LM P rec) (hprim:GK P F) {own:Bool} {f:FuncId} {args:List PV} {fz:List Nat} {r:tH} {us:List Value}
 (h:callPure F rec own f args sto fz=some r) (ha:VRL im loc args us) (hk:mC im loc sto w r):
 A8 P f ⟨us⟩ w fun u w'=> ∃im' loc',VR im' loc' r.v u/\BU im loc sto w r im' loc' w':=by
 have imok: ∀(rd:List Nat),(∀b o,im b=some o->w.heap[b]? =some o)-> ∀b o,grow im w (IG loc sto rd) b=some o->w.heap[b]? =some o:=fun rd h=>aB6 h
 have hexp: ∀(args':List PV),exL sto (EY sto fS) args=some args'->(∀t,t∈toksL (dU sto fS) args-> ∀li,loc t=some li-> ∃k,sto[t]? =some k/\BR im loc w li k)->(∀b o,im b=some o->w.heap[b]? =some o)->
  VRL (grow im w (IG loc sto (toksL (dU sto fS) args))) hZ args' us:=by
  intro args' hx htok hok;refine exL_ok (w:=w) (UR _ _ _) (fun t=>aB7 (UR _ _ _) fS t) (fun t ht li hl=>?_) ha hx
  obtain ⟨k,hk1,hbr⟩:=htok t ht li hl;exact ⟨k,hk1,hbr,fun hs=>aHi hok (IH.2 ⟨t,li,k,ht,hl,hk1,hs,rfl⟩)⟩
 unfold callPure at h;cases hx:exL sto (EY sto fS) args with
 |none=>rw [hx] at h;cases h
 |some args'=>
  rw [hx] at h;dsimp only at h;cases hF:F f with
  |none=>
   rw [hF] at h;dsimp only at h;have hrd:r.rd=toksL (dU sto fS) args:=II h;exact E7 hrec h (hexp args' hx (fun t ht=>hk.tok t (.inl (by rw [hrd];exact ht))) hk.im_ok) hk
  |some en=>
   rw [hF] at h;cases en with
   |prim kills p=>
    dsimp only at h;obtain ⟨rfl,hpo⟩:=hprim.1 f kills p hF;cases hpa:p args' with
    |none=>rw [hpa] at h;cases h
    |some q=>
     obtain ⟨v,news⟩:=q;rw [hpa] at h;dsimp only at h;cases hio:HB news [] sto.length [] v with
     |none=>rw [hio] at h;cases h
     |some q2=>
      obtain ⟨v',n2,s2⟩:=q2;rw [hio] at h;simp only [ci,if_false,bn] at h;subst h;refine (hpo args' v news hpa _ w us (SR.empty (imok _ hk.im_ok)) (hexp args' hx (fun t ht=>hk.tok t (.inl ht)) hk.im_ok)).mono fun u w' hq=>?_
      obtain ⟨im1,loc1,hp⟩:=hq;exact aB8 hk rfl rfl rfl hp hio
   |code x=>
    dsimp only at h;have hrd:r.rd=toksL (dU sto fS) args:=II h;exact E7 hrec h (hexp args' hx (fun t ht=>hk.tok t (.inl (by rw [hrd];exact ht))) hk.im_ok) hk
   |shp x=>
    dsimp only at h;have hrd:r.rd=toksL (dU sto fS) args:=II h;exact E7 hrec h (hexp args' hx (fun t ht=>hk.tok t (.inl (by rw [hrd];exact ht))) hk.im_ok) hk
end
end Go.Vm
/- A call that works on the blocks that its arguments lead to, numbered anew: what it does to the memory. -/
namespace Go.Vm
theorem jE {α:Type} {l:List α} {i:Nat} {x:α} (h:l[i]? =some x):i<l.length:=(bz.1 h).1
theorem LN: ∀{l:List Nat} {t:Nat},t∈tJ l↔t∈l
 | [],t=>by simp [tJ]
 |a::r,t=>by
  rw [tJ];split
  · rename_i h
    rw [LN]
    have:=uS.1 h
    constructor
    · exact fun h=>by simp [h]
    intro h
    rcases dp.1 h with h|h
    · subst h;exact this
    exact h
  simp [LN]
theorem AC: ∀{l:List Nat},(tJ l).Nodup
 | []=>by simp [tJ]
 |a::r=>by
  rw [tJ];split
  · exact AC
  rename_i h
  rw [List.nodup_cons];exact ⟨fun hm=>h (uS.2 (LN.1 hm)),AC⟩
theorem OY: ∀{a b:dC},CR a b=true-> ∀(i:Nat) (x:mU),a[i]? =some x-> ∃y,b[i]? =some y/\x.solid=y.solid
 | [],_,_,i,x,h=>by simp at h
 |c::r,d::q,hf,i,x,h=>by
  simp only [CR,bq] at hf;cases i with
  |zero=>
   simp at h;subst h;refine ⟨d,rfl,?_⟩
   have:=hf.1
   split at this<;>first|(rename_i h1 h2;rw [h1,h2])|cases this
  |succ i=>simpa using OY hf.2 i x (by simpa using h)
 |_::_,[],hf,_,_,_=>by cases hf
theorem OZ {g:Nat->Nat}: ∀{tk:List Nat} {s:dC} {t:Nat} {k:mU},(t,k)∈tN g tk s↔ ∃(i:Nat) (b:mU),tk[i]? =some t/\s[i]? =some b/\k=HC g b
 | [],s,t,k=>by simp [tN]
 |a::r,[],t,k=>by simp [tN]
 |a::r,b::s,t,k=>by
  simp only [tN,dp,bv,OZ];constructor
  · rintro (⟨rfl,rfl⟩|⟨i,c,h1,h2,h3⟩)
    · exact ⟨0,b,rfl,rfl,rfl⟩
    exact ⟨i+1,c,by simpa using h1,by simpa using h2,h3⟩
  rintro ⟨i,c,h1,h2,h3⟩
  cases i with
  |zero=>simp at h1 h2;subst h1;subst h2;exact .inl ⟨rfl,h3⟩
  |succ i=>exact .inr ⟨i,c,by simpa using h1,by simpa using h2,h3⟩
theorem S2 {g:Nat->Nat}: ∀(s:dC) (i:Nat),(JJ g s)[i]? =(s[i]?).map (HC g)
 | [],i=>by simp [JJ]
 |b::r,0=>by simp [JJ]
 |b::r,i+1=>by simpa [JJ] using S2 r i
theorem JP {g:Nat->Nat}: ∀(s:dC),(JJ g s).length=s.length
 | []=>rfl
 |b::r=>by simp [JJ,JP r]
section
variable {P : Program} {F : qT} {rec : mT -> Option zS} {im : Im} {loc : dV} {sto : dC} {w : World} {tk : List Nat} {g : Nat -> Nat} {l1 l2 : dV}
mutual
theorem VR.renFA: ∀{x:PV} {v:Value},VR im l1 x v->(∀u,u∈lI zR x-> ∀li,l1 u=some li->l2 (g u)=some li)->VR im l2 (renF g x) v
 |_,_,.undef v,_=> .undef v
 |_,_,.nul,_=> .nul
 |_,_,.int k n,_=> .int k n
 |_,_,.bool b,_=> .bool b
 |_,_,.str s,_=> .str s
 |_,_,.agg cs vs h,hg=> .agg _ vs (VRL.renFA h (fun u hu=>hg u (by simpa [lI] using hu)))
 |_,_,.tup cs vs h,hg=> .tup _ vs (VRL.renFA h (fun u hu=>hg u (by simpa [lI] using hu)))
 |_,_,.sl esz clip rows a cap hc hk h,_=> .sl esz clip rows a cap hc hk h
 |_,_,.own t esz off len cap ex li a cap' h1 h2 h3 h4 h5 h6 h7,hg=> .own _ esz off len cap ex li a cap' (hg _ (by simp [lI]) _ h1) h2 h3 h4 h5 h6 h7
 |_,_,.ptr t esz row off li h1 h2 h3,hg=> .ptr _ esz row off li (hg _ (by simp [lI]) _ h1) h2 h3
 |_,_,.rptr cs off b o vs h hv,hg=> .rptr _ off b o vs (VRL.renFA h (fun u hu=>hg u (by simpa [lI] using hu))) hv
 |_,_,.mp t li h,hg=> .mp _ li (hg _ (by simp [lI]) _ h)
 |_,_,.clo fn a b as bs ha hb,hg=> .clo fn _ _ as bs (VRL.renFA ha (fun u hu=>hg u (by simp [lI,hu]))) (VRL.renFA hb (fun u hu=>hg u (by simp [lI,hu])))
 |_,_,.nilf,_=> .nilf
theorem VRL.renFA: ∀{x:List PV} {v:List Value},VRL im l1 x v->(∀u,u∈toksL zR x-> ∀li,l1 u=some li->l2 (g u)=some li)->VRL im l2 (renFL g x) v
 |_,_,.nil,_=> .nil
 |_,_,.cons x v xs vs h hs,hg=> .cons _ v _ vs (VR.renFA h (fun u hu=>hg u (by simp [toksL,hu]))) (VRL.renFA hs (fun u hu=>hg u (by simp [toksL,hu])))
end
theorem VR.renF {x:PV} {v:Value} (hg: ∀u,u∈lI zR x-> ∀li,l1 u=some li->l2 (g u)=some li) (h:VR im l1 x v):VR im l2 (Vm.renF g x) v:=h.renFA hg
theorem VRL.renF {x:List PV} {v:List Value} (hg: ∀u,u∈toksL zR x-> ∀li,l1 u=some li->l2 (g u)=some li) (h:VRL im l1 x v):VRL im l2 (renFL g x) v:=h.renFA hg
theorem JQ: ∀(x:List PV),(renFL g x).length=x.length
 | []=>rfl
 |x::xs=>by simp [renFL,JQ xs]
theorem BR.renF {li:LI} {k:mU} (hg: ∀u,u∈xK k-> ∀li,l1 u=some li->l2 (g u)=some li) (h:BR im l1 w li k):BR im l2 w li (HC g k):=by
 cases k with
 |arr e rows=>exact h
 |box cs=>
  obtain ⟨a1,a2,a3,vs,el,a4,a5,a6⟩:=h;exact ⟨by rw [JQ];exact a1,a2,a3,vs,el,a4,a5,a6.renF hg⟩
 |map es=>exact h
 |dead=>trivial
theorem E8 (k:mU):(HC g k).solid=k.solid:=by cases k<;>rfl
theorem aAB (hrec:LM P rec) {f:FuncId} {args:List PV} {fz:List Nat} {r:tH} {us:List Value}
 (h:A4 rec f args sto fz=some r) (ha:VRL im loc args us) (hk:mC im loc sto w r):
 A8 P f ⟨us⟩ w fun u w'=> ∃im' loc',VR im' loc' r.v u/\BU im loc sto w r im' loc' w':=by
 unfold A4 at h;have hnd:(tJ (toksL (dU sto fS) args)).Nodup:=AC;generalize htk:tJ (toksL (dU sto fS) args)=tk at h hnd;split at h
 · cases h
 rename_i a s0 hlend;unfold aHg at hlend;split at hlend
 case isFalse=>cases hlend
 rename_i hnfz;simp only [db,cj] at hnfz;split at hlend
 case h_2=>cases hlend
 rename_i a' s0' hra hrs;simp only [bn,bv] at hlend;obtain ⟨rfl,rfl⟩:=hlend;split at h
 case h_2=>cases h
 rename_i v s hr;unfold OL at h;split at h
 case isFalse=>cases h
 rename_i hfirm;injection h with h;obtain ⟨hl0,hget⟩:=LE hrs;have hf0:=OY hfirm;have hle:tk.length<=s.length:=by
  rcases Nat.eq_zero_or_pos tk.length with h0|h0
  · omega
  obtain ⟨y,hy,_⟩:=hf0 (tk.length-1) (s0'[tk.length-1]'(by omega)) (bo _)
  have:=jE hy;omega
 let locC:dV:=fun u=>match tk[u]? with|some t=>loc t|none=>none
 have hren:Ren tk loc locC:=fun u t hu=>by simp only [locC,hu]
 have hC: ∀u li,locC u=some li-> ∃t,tk[u]? =some t/\loc t=some li:=by
  intro u li hl;simp only [locC] at hl;split at hl
  · rename_i t ht;exact ⟨t,ht,hl⟩
  cases hl
 have hwrm: ∀t k,(t,k)∈r.wr↔ ∃(i:Nat) (b:mU),tk[i]? =some t/\s[i]? =some b/\k=HC (nF tk sto.length) b:=fun t k=>by rw [<- h];exact OZ
 have hwrt: ∀u t,tk[u]? =some t->(t∈r.rd\/ ∃b,(t,b)∈r.wr):=fun u t ht=>by
  have:=jE ht
  exact .inr ⟨_,(hwrm t _).2 ⟨u,_,ht,bo (by omega),rfl⟩⟩
 have hold: ∀(u t:Nat) (k:mU),tk[u]? =some t->s0'[u]? =some k-> ∃k0:mU,sto[t]? =some k0/\k.solid=k0.solid:=fun u t k ht hs=>by
  obtain ⟨k0,k',g1,g2,g3⟩:=hget u t ht;rw [hs] at g3;injection g3 with g3;subst g3;exact ⟨k0,g1,JM g2⟩
 have hSR:SR im locC s0' [] w:={
  im_ok:=hk.im_ok
  blk:=fun u li hl=>by
   obtain ⟨t,h1,h2⟩:=hC u li hl;obtain ⟨k,hk1,hbr⟩:=hk.tok t (hwrt u t h1) li h2;obtain ⟨k0,k',g1,g2,g3⟩:=hget u t h1;rw [hk1] at g1;injection g1 with g1;subst g1;exact ⟨k',g3,SY hren g2 hbr⟩
  excl:=fun t u li lj k k' hl hl' hs hs' hso hso' hb=>by
   obtain ⟨a1,h1,h2⟩:=hC t li hl;obtain ⟨a2,h3,h4⟩:=hC u lj hl';obtain ⟨k0,g1,g2⟩:=hold t a1 k h1 hs;obtain ⟨k0',g1',g2'⟩:=hold u a2 k' h3 hs'
   have:=hk.excl a1 a2 li lj k0 k0' (hwrt t a1 h1) (hwrt u a2 h3) h2 h4 g1 g1' (by rw [<- g2];exact hso) (by rw [<- g2'];exact hso') hb
   subst this;have pw:=d7.1 hnd;obtain ⟨l1,e1⟩:=bz.1 h1;obtain ⟨l2,e2⟩:=bz.1 h3;rcases cm t u with h|h|h
   · exact absurd (e1.trans e2.symm) (pw t u l1 l2 h)
   · exact h
   exact absurd (e2.trans e1.symm) (pw u t l2 l1 h)
  free:=fun t li k hl hs hso _=>by
   obtain ⟨a1,h1,h2⟩:=hC t li hl;obtain ⟨k0,g1,g2⟩:=hold t a1 k h1 hs;have hlt:=jE h1;exact hk.free a1 _ ((hwrm a1 _).2 ⟨t,_,h1,bo (by omega),rfl⟩) li k0 h2 g1 (by rw [<- g2];exact hso)}
 refine (hrec f a' s0' [] v s [] hr im locC w us hSR (renL_ok hren ha hra)).mono fun u w' ⟨im',locM,hf⟩=>?_
 let loc':dV:=fun t=>match loc t with
  |some li=>some li
  |none=>if sto.length<=t/\t-sto.length<r.news.length then locM (t-sto.length+tk.length) else none
 have hLle:pX loc loc':=fun t li hl=>by simp only [loc',hl]
 have hnl:(kF tk.length v s=true/\r.news=[])\/(kF tk.length v s=false/\r.news=JJ (nF tk sto.length) (s.drop tk.length)):=by
  rw [<- h];cases hko:kF tk.length v s with
  |true=>exact .inl ⟨rfl,by simp⟩
  |false=>exact .inr ⟨rfl,by simp⟩
 have hnlen:kF tk.length v s=false->r.news.length=s.length-tk.length:=fun h1=>by
  rcases hnl with ⟨h2,_⟩|⟨_,h2⟩
  · rw [h1] at h2;cases h2
  rw [h2];simp [JP]
 have hMlt: ∀u li,locM u=some li->u<s.length:=fun u li hl=>let ⟨k,hk1,_⟩:=hf.sr.blk u li hl;jE hk1
 have hnewl: ∀j li,loc' (sto.length+j)=some li->j<r.news.length->locM (tk.length+j)=some li:=fun j li hl hj=>by
  simp only [loc',hk.fresh j hj] at hl;rw [if_pos ⟨by omega,by omega⟩] at hl
  rw [show sto.length+j-sto.length+tk.length=tk.length+j by omega] at hl
  exact hl
 have hg: ∀u,(u<tk.length\/kF tk.length v s=false)-> ∀li,locM u=some li->loc' (nF tk sto.length u)=some li:=by
  intro u hu0 li hl;unfold nF;split
  · rename_i t ht
    rcases hf.locs u li hl with h1|h1
    · obtain ⟨t',h2,h3⟩:=hC u li h1
      rw [ht] at h2;injection h2 with h2;subst h2;exact hLle _ _ h3
    have:=jE ht;omega
  rename_i hn
  have hu:tk.length<=u:=by simpa using hn
  rcases hu0 with hu0|hu0
  · omega
  have hlt:=hMlt u li hl;have hnl:=hnlen hu0;simp only [loc',hk.fresh (u-tk.length) (by omega)]
  rw [if_pos ⟨by omega,by omega⟩,show sto.length+(u-tk.length) -sto.length+tk.length=u by omega]
  exact hl
 have hko: ∀u,kF tk.length v s=true->(u∈lI zR v\/ ∃i b,i<tk.length/\s[i]? =some b/\u∈xK b)->u<tk.length:=fun u h1 h2=>by
  unfold kF at h1;have h3:=db.1 h1 u (by
   rcases h2 with h2|⟨i,b,g1,g2,g3⟩
   · simp [h2]
   refine c9.2 (.inr (List.mem_flatMap.2 ⟨b,?_,g3⟩))
   exact List.mem_of_getElem? (i:=i) (by rw [List.getElem?_take];simp [g1,g2]))
  simpa using h3
 have hgv: ∀u,u∈lI zR v-> ∀li,locM u=some li->loc' (nF tk sto.length u)=some li:=fun u hu=>hg u (by
  cases hq:kF tk.length v s with
  |true=>exact .inl (hko u hq (.inl hu))
  |false=>exact .inr rfl)
 have hgb: ∀i b,i<tk.length->s[i]? =some b-> ∀u,u∈xK b-> ∀li,locM u=some li->loc' (nF tk sto.length u)=some li:=fun i b hi hb u hu=>hg u (by
  cases hq:kF tk.length v s with
  |true=>exact .inl (hko u hq (.inr ⟨i,b,hi,hb,hu⟩))
  |false=>exact .inr rfl)
 have hMC: ∀u t li,tk[u]? =some t->loc t=some li->locM u=some li:=fun u t li ht hl=>hf.locle u li (by simp only [locC,ht];exact hl)
 refine ⟨im',loc',by rw [<- h];exact hf.vr.renF hgv,?_⟩
 have hnews: ∀(j:Nat) (k:mU),r.news[j]? =some k-> ∃b,s[tk.length+j]? =some b/\k=HC (nF tk sto.length) b:=fun j k hj=>by
  rcases hnl with ⟨_,h0⟩|⟨_,h0⟩
  · rw [h0] at hj;simp at hj
  rw [h0] at hj;simp only [S2,List.getElem?_drop,bw] at hj;obtain ⟨b,h1,h2⟩:=hj;exact ⟨b,h1,h2.symm⟩
 have hnewloc: ∀t li,locM t=some li->tk.length<=t-> ∀k,s[t]? =some k->k.solid=true->w.heap.size<=li.blk:=by
  intro t li hl ht k hs hso;rcases hf.own t li k hl hs hso with h1|⟨u,lu,ku,h1,h2,h3,h4⟩
  · exact h1
  exfalso
  obtain ⟨a1,g1,g2⟩:=hC u lu h1;obtain ⟨y,y1,y2⟩:=hf0 u ku h2
  have:=hf.sr.excl u t lu li y k (hMC u a1 lu g1 g2) hl y1 hs (by rw [<- y2];exact h3) hso h4
  subst this
  have:=jE g1;omega
 exact {
  imle:=hf.imle,locle:=hLle
  im_ok:=hf.sr.im_ok
  imnew:=fun b o hb=>by
   rcases hf.imnew b o hb with h1|h1|⟨t,li,k,h1,h2,h3,h4⟩
   · exact .inl h1
   · exact .inr (.inl h1)
   exfalso
   obtain ⟨a1,g1,g2⟩:=hC t li h1;obtain ⟨y,y1,y2⟩:=hf0 t k h2
   have:=hf.sr.free t li y (hMC t a1 li g1 g2) y1 (by rw [<- y2];exact h3) rfl
   rw [h4,hb] at this;cases this
  os:=hf.os,tape:=hf.tape,output:=hf.output,size:=hf.size
  frame:=fun b hb hh=>hf.frame b hb fun t li k hl hs hso=>by
   obtain ⟨a1,g1,g2⟩:=hC t li hl;obtain ⟨k0,e1,e2⟩:=hold t a1 k g1 hs;have hlt:=jE g1;exact hh a1 _ li k0 ((hwrm a1 _).2 ⟨t,_,g1,bo (by omega),rfl⟩) g2 e1 (by rw [<- e2];exact hso)
  wrs:=fun t k hm hso=>by
   obtain ⟨i,b,g1,g2,rfl⟩:=(hwrm t k).1 hm;rw [E8] at hso;have hlt:=jE g1;have e:=bo (l:=s0') (i:=i) (by omega)
   obtain ⟨y,y1,y2⟩:=hf0 i _ e;rw [g2] at y1;injection y1 with y1;subst y1;obtain ⟨k0,e1,e2⟩:=hold i t _ g1 e;exact ⟨k0,e1,by rw [<- e2,y2];exact hso⟩
  wr:=fun t k li hm hl=>by
   obtain ⟨i,b,g1,g2,rfl⟩:=(hwrm t k).1 hm;obtain ⟨k',hk1,hbr⟩:=hf.sr.blk i li (hMC i t li g1 hl);rw [g2] at hk1;injection hk1 with hk1;subst hk1;exact hbr.renF (hgb i b (jE g1) g2)
  locnew:=fun t li hl=>by
   simp only [loc'] at hl;cases hl0:loc t with
   |some lj=>rw [hl0] at hl;exact .inl hl
   |none=>
    rw [hl0] at hl;dsimp only at hl;split at hl
    · rename_i hn
      exact .inr ⟨hn.1,by omega⟩
    cases hl
  news:=fun j k li hj hl=>by
   have hjl:j<r.news.length:=jE hj;obtain ⟨b,hb,rfl⟩:=hnews j k hj;have hl0:=hnewl j li hl hjl;obtain ⟨k',hk1,hbr⟩:=hf.sr.blk _ li hl0;rw [hb] at hk1;injection hk1 with hk1;subst hk1;have hq:kF tk.length v s=false:=by
    rcases hnl with ⟨_,h0⟩|⟨h0,_⟩
    · rw [h0] at hjl;simp at hjl
    exact h0
   refine ⟨hbr.renF (fun u _=>hg u (.inr hq)),fun hso=>?_⟩
   rw [E8] at hso;exact ⟨hf.sr.free _ li b hl0 hb hso rfl,.inl (hnewloc _ li hl0 (by omega) b hb hso)⟩
  distinct:=fun i j ki kj li lj hi hj hsi hsj hli hlj hb=>by
   obtain ⟨b1,e1,rfl⟩:=hnews i ki hi;obtain ⟨b2,e2,rfl⟩:=hnews j kj hj;rw [E8] at hsi hsj;have h1:=hnewl i li hli (jE hi);have h2:=hnewl j lj hlj (jE hj)
   have:=hf.sr.excl _ _ li lj b1 b2 h1 h2 e1 e2 hsi hsj hb
   omega}
end
end Go.Vm
/- A region's run in the order of the text, step by step; what a block holds when some of its operations are done. -/
namespace Go.Vm
structure E9 (F:qT) (rec:mT->Option zS) (ops:List cE) (S:Nat->St) (X:Nat->Option XR):Prop where
 steps: ∀(i:Nat) (o:cE),ops[i]? =some o->
  (wanted o.guard (S i).env=some true/\ ∃x,EB F rec (S i).env (S i).sto (S i).fz o.op=some x/\x.ok (S i).fz=true/\X i=some x/\S (i+1)=x.next o.dst (S i))\/
  (wanted o.guard (S i).env=some false/\X i=none/\S (i+1)={S i with env:=kU o.dst .nul (S i).env})
def HA (x:Option XR) (s:St):Tr:=
 match x with
 |some x=>x.tr s.sto.length
 |none=>Tr.idle
def HE (S:Nat->St) (X:Nat->Option XR) (n:Nat):List Tr:=(List.range n).map fun i=>HA (X i) (S i)
theorem aAC (S:Nat->St) (X:Nat->Option XR) (n:Nat):HE S X (n+1)=HA (X 0) (S 0)::HE (fun i=>S (i+1)) (fun i=>X (i+1)) n:=by
 unfold HE;rw [List.range_succ_eq_map];simp [List.map_map,Function.comp_def]
theorem LO {F:qT} {rec:mT->Option zS}: ∀(ops:List cE) (st:St) (tr:List Tr) (st':St) (tr':List Tr),qA F rec ops st tr=some (st',tr')->
 ∃S X,S 0=st/\S ops.length=st'/\E9 F rec ops S X/\tr'=(HE S X ops.length).reverse++tr
 | [],st,tr,st',tr',h=>by
  simp only [qA,bn,bv] at h;obtain ⟨rfl,rfl⟩:=h;exact ⟨fun _=>st,fun _=>none,rfl,rfl,⟨fun i o h=>by simp at h⟩,by simp [HE]⟩
 |o::l,st,tr,st',tr',h=>by
  simp only [qA] at h;have mk: ∀(s1:St) (x:Option XR) (t1:Tr),HA x st=t1->qA F rec l s1 (t1::tr)=some (st',tr')->
   ((wanted o.guard st.env=some true/\ ∃y,EB F rec st.env st.sto st.fz o.op=some y/\y.ok st.fz=true/\x=some y/\s1=y.next o.dst st)\/
    (wanted o.guard st.env=some false/\x=none/\s1={st with env:=kU o.dst .nul st.env}))->
   ∃S X,S 0=st/\S (o::l).length=st'/\E9 F rec (o::l) S X/\tr'=(HE S X (o::l).length).reverse++tr:=by
   intro s1 x t1 ht he hs;obtain ⟨S,X,h0,hn,hrun,htr⟩:=LO l s1 (t1::tr) st' tr' he;refine ⟨fun i=>match i with|0=>st|i+1=>S i,fun i=>match i with|0=>x|i+1=>X i,rfl,hn,⟨fun i o' ho=>?_⟩,?_⟩
   · cases i with
     |zero=>
      simp at ho;subst ho;rcases hs with ⟨a,y,b,c,d,e⟩|⟨a,b,c⟩
      · exact .inl ⟨a,y,b,c,d,by rw [<- e];exact h0⟩
      exact .inr ⟨a,b,by rw [<- c];exact h0⟩
     |succ i=>exact hrun.steps i o' (by simpa using ho)
   rw [List.length_cons,aAC,htr]
   simp [ht]
  cases hw:wanted o.guard st.env with
  |none=>rw [hw] at h;cases h
  |some b=>
   rw [hw] at h;cases b with
   |false=>exact mk _ none _ rfl h (.inr ⟨hw,rfl,rfl⟩)
   |true=>
    dsimp only at h;cases hx:EB F rec st.env st.sto st.fz o.op with
    |none=>rw [hx] at h;cases h
    |some x=>
     rw [hx] at h;dsimp only at h;split at h
     · rename_i hok
       exact mk _ (some x) _ rfl h (.inl ⟨hw,x,hx,hok,rfl,rfl⟩)
     cases h
theorem gP: ∀(wr:List (Nat×mU)) (s:dC),(iU wr s).length=s.length
 | [],s=>rfl
 |(t,b)::r,s=>by rw [iU,gP r];simp
theorem A9: ∀(wr:List (Nat×mU)) (s:dC) (t:Nat),(∀k,(t,k)∉wr)->(iU wr s)[t]? =s[t]?
 | [],s,t,_=>rfl
 |(u,b)::r,s,t,h=>by
  rw [iU,A9 r _ t (fun k hk=>h k (by simp [hk]))]
  have:u≠t:=fun e=>h b (by rw [e];simp)
  rw [ej this]
theorem O0: ∀(wr:List (Nat×mU)) (s:dC),CS wr=true-> ∀{t:Nat} {k:mU},(t,k)∈wr->t<s.length->(iU wr s)[t]? =some k
 |(u,b)::r,s,hn,t,k,hm,hlt=>by
  simp only [CS,bq,db,cj] at hn;rw [iU];rcases dp.1 hm with h|h
  · injection h with h1 h2
    subst h1 h2;rw [A9 r _ t fun k' hk=>by simpa using hn.1 (t,k') hk]
    simp [hlt]
  exact O0 r _ hn.2 h (by simpa using hlt)
section
variable {F : qT} {rec : mT -> Option zS} {ops : List cE} {S : Nat -> St} {X : Nat -> Option XR}
def W (X:Nat->Option XR) (i t:Nat):Prop:=
 match X i with
 |some (.loc r)=> ∃k,(t,k)∈r.wr
 |some (.shr ..)=>True
 |none=>False
def FR (X:Nat->Option XR) (i t:Nat):Prop:=
 match X i with
 |some (.loc r)=>t∈r.fr
 |some (.shr _ _ z)=>t∈z
 |none=>False
def JR (S:Nat->St) (X:Nat->Option XR) (n:Nat) (done:Nat->Prop) (t:Nat) (k:mU):Prop:=
 ∃m,m<=n/\(∀i,i<n->W X i t->(done i↔i<m))/\(∀c,c<n->(S c).sto.length<=t->t<(S (c+1)).sto.length->c<m)/\(S m).sto[t]? =some k
theorem aB9 {e:zQ} {sto:dC} {fz:List Nat} {op:oH} {v:PV} {s:dC} {z:List Nat} (h:EB F rec e sto fz op=some (.shr v s z)):sto.length<=s.length/\ ∀t,t∈fz->t∈z:=by
 have key: ∀{f:FuncId} {args:List PV},hJ rec f args sto fz=some (.shr v s z)->sto.length<=s.length/\ ∀t,t∈fz->t∈z:=by
  intro f args h;unfold hJ at h;split at h
  · split at h
    · rename_i hc
      simp only [bq,d5,db] at hc;simp only [bn,XR.shr.injEq] at h;obtain ⟨rfl,rfl,rfl⟩:=h;exact ⟨hc.1,fun t ht=>uS.1 (hc.2 t ht)⟩
    cases h
  cases h
 cases op with
 |call m f args=>
  cases m with
  |pur=>simp [EB] at h
  |own=>simp [EB] at h
  |shr=>exact key h
  |fp=>simp [EB] at h
 |callv x args=>
  simp only [EB] at h;split at h
  · split at h
    · exact key h
    simp at h
  cases h
 |_=>simp [EB] at h
theorem E9.len_le (hr:E9 F rec ops S X) {i:Nat} (hi:i<ops.length):(S i).sto.length<=(S (i+1)).sto.length:=by
 rcases hr.steps i _ (bo hi) with ⟨_,x,hx,_,_,hn⟩|⟨_,_,hn⟩
 · rw [hn]
   cases x with
   |loc r=>simp [XR.next,xN,gP]
   |shr v s z=>exact (aB9 hx).1
 rw [hn];exact cb _
theorem E9.len_mono (hr : E9 F rec ops S X) {i j : Nat} (hij : i <= j) (hj : j <= ops.length) : (S i).sto.length <= (S j).sto.length := by
  induction j with
  | zero => have : i = 0 := by omega
            subst this; exact cb _
  | succ j ih =>
    rcases dc hij with h | h
    · subst h; exact cb _
    exact cu (ih (by omega) (by omega)) (hr.len_le (by omega))
theorem E9.same (hr:E9 F rec ops S X) {i t:Nat} (hi:i<ops.length) (hw: ¬W X i t) (ht:t<(S i).sto.length):(S (i+1)).sto[t]? =(S i).sto[t]?:=by
 rcases hr.steps i _ (bo hi) with ⟨_,x,hx,_,hX,hn⟩|⟨_,_,hn⟩
 · rw [hn]
   cases x with
   |loc r=>
    simp only [XR.next,xN]
    rw [cd (by rw [gP];exact ht)]
    exact A9 _ _ _ fun k hk=>hw (by unfold W;rw [hX];exact ⟨k,hk⟩)
   |shr v s z=>exact absurd (by unfold W;rw [hX];trivial) hw
 rw [hn]
theorem E9.same_to (hr : E9 F rec ops S X) {m m' t : Nat} (hm : m <= m') (hm' : m' <= ops.length) (hw : ∀ i, m <= i -> i < m' -> ¬ W X i t) (ht : t < (S m).sto.length) : (S m').sto[t]? = (S m).sto[t]? := by
  induction m' with
  | zero => have : m = 0 := by omega
            subst this; rfl
  | succ j ih =>
    rcases dc hm with h | h
    · subst h; rfl
    rw [hr.same (by omega) (hw j (by omega) (by omega)) (di ht (hr.len_mono (by omega) (by omega)))]
    exact ih (by omega) (by omega) fun i h1 h2 => hw i h1 (by omega)
theorem cZ {α:Type} {l:List α} {i:Nat} {x:α} (h:l[i]? =some x):i<l.length:=(bz.1 h).1
theorem JR.unique (hr:E9 F rec ops S X) {done:Nat->Prop} {t:Nat} {k k':mU} (h:JR S X ops.length done t k) (h':JR S X ops.length done t k'):k=k':=by
 obtain ⟨m,hm,hw,hc,hs⟩:=h;obtain ⟨m',hm',hw',hc',hs'⟩:=h';rcases fo m m' with h|h
 · have:=hr.same_to h hm' (fun i h1 h2 hW=>by
    have a:=hw i (by omega) hW
    have b:=hw' i (by omega) hW
    have:=a.1 (b.2 h2);omega) (cZ hs)
   rw [hs,hs'] at this;exact (ef this).symm
 have:=hr.same_to h hm (fun i h1 h2 hW=>by
  have a:=hw i (by omega) hW
  have b:=hw' i (by omega) hW
  have:=b.1 (a.2 h2);omega) (cZ hs')
 rw [hs,hs'] at this;exact ef this
theorem E9.env_same (hr:E9 F rec ops S X) {i t:Nat} (hi:i<ops.length) (hd:(ops[i]).dst≠some t):lk t (S (i+1)).env=lk t (S i).env:=by
 have key: ∀(d:Option Nat) (v:PV) (e:zQ),d≠some t->lk t (kU d v e)=lk t e:=by
  intro d v e h;cases d with
  |none=>rfl
  |some s=>
   simp only [kU];rw [xP,if_neg (fun e=>h (by rw [e]))]
 rcases hr.steps i _ (bo hi) with ⟨_,x,hx,_,hX,hn⟩|⟨_,_,hn⟩
 · rw [hn]
   cases x with
   |loc r=>exact key _ _ _ hd
   |shr v s z=>exact key _ _ _ hd
 rw [hn];exact key _ _ _ hd
theorem E9.env_to (hr : E9 F rec ops S X) {m m' t : Nat} (hm : m <= m') (hm' : m' <= ops.length) (hd : ∀ i (hi : i < ops.length), m <= i -> i < m' -> (ops[i]).dst ≠ some t) : lk t (S m').env = lk t (S m).env := by
  induction m' with
  | zero => have : m = 0 := by omega
            subst this; rfl
  | succ j ih =>
    rcases dc hm with h | h
    · subst h; rfl
    rw [hr.env_same (by omega) (hd j (by omega) (by omega) (by omega))]
    exact ih (by omega) (by omega) fun i hi h1 h2 => hd i hi h1 (by omega)
end
end Go.Vm
/- A region: what holds while some of its operations are done, and that one more keeps it. -/
namespace Go.Vm
def uses (x:cE):List Nat:=(x.op.opds.filterMap fun| .t n=>some n| .c _=>none)++(match x.guard with|some (s,_)=>[s]|none=>[])
def B3 (ops:Array Oper):Option (Nat×Bool)->Option (Nat×Bool)->Bool
 |none,none=>true
 |some (s,b),some (j,c)=>b==c&&((ops[j]?).bind (·.dst))==some s
 |_,_=>false
def xQ (P:Program) (prims:FuncId->Bool) (nt:Nat) (ops:Array Oper) (x:cE) (o:Oper):Bool:=
 x.dst==o.dst&&(match x.dst with|some d=>dt d nt|none=>true)&&B3 ops x.guard o.guard&&ED P prims o.type x.op o.op
def xH (X:Nat->Option XR) (i:Nat):Prop:= ∃v s z,X i=some (.shr v s z)
def touches (X:Nat->Option XR) (i:Nat):Prop:=
 match X i with
 |some (.loc r)=>r.rd≠[]\/r.fr≠[]\/r.wr≠[]\/r.news≠[]
 |some (.shr ..)=>True
 |none=>False
def A (X:Nat->Option XR) (i t:Nat):Prop:=
 match X i with
 |some (.loc r)=>t∈r.rd\/t∈r.fr
 |_=>False
structure JH (ops:List cE) (S:Nat->St) (X:Nat->Option XR) (bef:Nat->Nat->Prop):Prop where
 slot1: ∀(i j t:Nat) (x y:cE),i<j->ops[i]? =some x->ops[j]? =some y->x.dst=some t->(t∈uses y\/y.dst=some t)->bef i j
 slot2: ∀(i j t:Nat) (x y:cE),i<j->ops[i]? =some x->ops[j]? =some y->y.dst=some t->t∈uses x->bef i j
 tok1: ∀i j t,i<j->j<ops.length->W X i t->(A X j t\/W X j t)->bef i j
 tok2: ∀i j t,i<j->j<ops.length->A X i t->W X j t->bef i j
 tok3: ∀i j t,i<j->j<ops.length-> ¬xH X i->(S i).sto.length<=t->t<(S (i+1)).sto.length-> ¬xH X j->W X j t->bef i j
 bar: ∀i j,i<j->j<ops.length->(xH X i/\touches X j\/touches X i/\xH X j)->bef i j
 cl: ∀i t,i<ops.length-> ¬xH X i->(A X i t\/W X i t)->t<(S i).sto.length\/ ∀c,i<c->c<ops.length->bef i c
structure CP (ops:List cE) (S:Nat->St) (X:Nat->Option XR) (im0:Im) (loc0:dV) (w0:World) (nt:Nat) (done:Nat->Prop) (im:Im) (loc:dV) (a:Act) (w:World):Prop where
 tm: ∀t,∃m,m<=ops.length/\(∀i x,ops[i]? =some x->x.dst=some t->(done i↔i<m))/\VR im loc (lk t (S m).env) (a.tmps.getD t Go.undef)
 im_ok: ∀b o,im b=some o->w.heap[b]? =some o
 tok: ∀t li,loc t=some li-> ∃k,JR S X ops.length done t k/\BR im loc w li k
 excl: ∀t u li lj k k',loc t=some li->loc u=some lj->JR S X ops.length done t k->JR S X ops.length done u k'->k.solid=true->k'.solid=true->li.blk=lj.blk->t=u
 free: ∀t li k,loc t=some li->JR S X ops.length done t k->k.solid=true->t∉(S 0).fz->(∀i,i<ops.length->done i-> ¬FR X i t)->im li.blk=none
 fresh: ∀i,i<ops.length-> ¬done i-> ∀t,(S i).sto.length<=t->t<(S (i+1)).sto.length->loc t=none
 imle:sD im0 im
 locle:pX loc0 loc
 os:w.os=w0.os
 tape:w.tape=w0.tape
 output:w.output=w0.output
 size:w0.heap.size<=w.heap.size
 frame: ∀b,b<w0.heap.size->(∀t li k,loc0 t=some li->(S 0).sto[t]? =some k->k.solid=true->li.blk≠b)->w.heap[b]? =w0.heap[b]?
 imnew: ∀b o,im b=some o->im0 b=some o\/w0.heap.size<=b\/ ∃t li k,loc0 t=some li/\(S 0).sto[t]? =some k/\k.solid=true/\li.blk=b
 locs: ∀t li,loc t=some li->loc0 t=some li\/(S 0).sto.length<=t
 own: ∀t li k,loc t=some li->JR S X ops.length done t k->k.solid=true->(w0.heap.size<=li.blk\/ ∃u lu ku,loc0 u=some lu/\(S 0).sto[u]? =some ku/\ku.solid=true/\lu.blk=li.blk)
 defers:a.defers=[]
 nts:a.tmps.size=nt
def CY (done:Nat->Prop) (i:Nat):Nat->Prop:=fun j=>done j\/j=i
section
variable {F : qT} {rec : mT -> Option zS} {ops : List cE} {S : Nat -> St} {X : Nat -> Option XR} {bef : Nat -> Nat -> Prop} {im0 : Im} {loc0 : dV} {w0 : World} {nt : Nat}
  {done : Nat -> Prop} {im : Im} {loc : dV} {a : Act} {w : World} {i : Nat}
structure EG (ops:List cE) (bef:Nat->Nat->Prop) (done:Nat->Prop) (i:Nat):Prop where
 lt:i<ops.length
 nd: ¬done i
 pre: ∀j,j<ops.length->bef j i->done j
 clo: ∀k,k<ops.length->done k-> ∀j,j<ops.length->bef j k->done j
theorem EG.later (hp:EG ops bef done i) {k:Nat} (hk:k<ops.length) (h:bef i k): ¬done k:=fun hd=>hp.nd (hp.clo k hk hd i hp.lt h)
theorem CP.slot (hr:E9 F rec ops S X) (ho:JH ops S X bef) (hv:CP ops S X im0 loc0 w0 nt done im loc a w) (hp:EG ops bef done i) {x:cE} (hx:ops[i]? =some x) {t:Nat} (ht:t∈uses x):
 VR im loc (lk t (S i).env) (a.tmps.getD t Go.undef):=by
 obtain ⟨m,hm,hd,hvr⟩:=hv.tm t;have hwr: ∀j y,ops[j]? =some y->y.dst=some t->(done j↔j<i):=by
  intro j y hy hyd;rcases cm j i with h|h|h
  · exact ⟨fun _=>h,fun _=>hp.pre j (cZ hy) (ho.slot1 j i t y x h hy hx hyd (.inl ht))⟩
  · subst h;exact ⟨fun hd=>absurd hd hp.nd,fun h=>by omega⟩
  exact ⟨fun hdj=>absurd hdj (hp.later (cZ hy) (ho.slot2 i j t x y h hx hy hyd ht)),fun h'=>by omega⟩
 have same:lk t (S i).env=lk t (S m).env:=by
  rcases fo m i with h|h
  · refine hr.env_to h (dy hp.lt) fun j hj h1 h2 hdst=>?_
    have a1:=hd j _ (bo hj) hdst;have a2:=hwr j _ (bo hj) hdst
    have:=a1.1 (a2.2 h2);omega
  refine (hr.env_to h hm fun j hj h1 h2 hdst=>?_).symm
  have a1:=hd j _ (bo hj) hdst;have a2:=hwr j _ (bo hj) hdst
  have:=a2.1 (a1.2 h2);omega
 rw [same];exact hvr
theorem CP.cur (hr:E9 F rec ops S X) (ho:JH ops S X bef) (hv:CP ops S X im0 loc0 w0 nt done im loc a w) (hp:EG ops bef done i) {t:Nat} {li:LI} (hl:loc t=some li)
 (ht:(A X i t\/W X i t)) {k:mU} (hc:JR S X ops.length done t k):(S i).sto[t]? =some k:=by
 obtain ⟨m,hm,hw,hcr,hs⟩:=hc;have hlen:t<(S i).sto.length:=by
  rcases c7 t (S i).sto.length with h|h
  · exact h
  exfalso
  have hmi:i<m:=by
   rcases c7 i m with h'|h'
   · exact h'
   have:=hr.len_mono h' (dy hp.lt);have:=cZ hs;omega
  have: ∃c,i<=c/\c<m/\(S c).sto.length<=t/\t<(S (c+1)).sto.length:=by
   have hex: ∀d,i+d<=m->t<(S (i+d)).sto.length-> ∃c,i<=c/\c<i+d/\(S c).sto.length<=t/\t<(S (c+1)).sto.length:=by
    intro d
    induction d with
    |zero=>intro _ h2;exact absurd h2 (by simpa using h)
    |succ d ih=>
     intro h1 h2;rcases c7 t (S (i+d)).sto.length with h3|h3
     · obtain ⟨c,c1,c2,c3,c4⟩:=ih (by omega) h3
       exact ⟨c,c1,by omega,c3,c4⟩
     exact ⟨i+d,by omega,by omega,h3,h2⟩
   obtain ⟨c,c1,c2,c3,c4⟩:=hex (m-i) (by omega) (by rw [show i+(m-i)=m by omega];exact cZ hs)
   exact ⟨c,c1,by omega,c3,c4⟩
  obtain ⟨c,c1,c2,c3,c4⟩:=this;have hcn:c<ops.length:=by omega
  have hndc: ¬done c:=by
   intro hdc;rcases dc c1 with e|e
   · subst e;exact hp.nd hdc
   by_cases hsh:xH X i
   · refine hp.later hcn (ho.bar i c e hcn (.inl ⟨hsh,?_⟩)) hdc
     rcases hr.steps c _ (bo hcn) with ⟨_,x,hx,_,hX,hn⟩|⟨_,_,hn⟩
     · unfold touches;rw [hX]
       cases x with
       |loc r=>
        refine .inr (.inr (.inr fun hnil=>?_))
        rw [hn] at c4;simp [XR.next,xN,gP,hnil] at c4
        omega
       |shr v s z=>trivial
     rw [hn] at c4;simp at c4;omega
   rcases ho.cl i t hp.lt hsh ht with h'|h'
   · omega
   exact hp.later hcn (h' c e hcn) hdc
  have:=hv.fresh c hcn hndc t c3 c4
  rw [hl] at this;cases this
 have hwr: ∀j,j<ops.length->W X j t->(done j↔j<i):=by
  intro j hj hW;rcases cm j i with h|h|h
  · exact ⟨fun _=>h,fun _=>hp.pre j hj (ho.tok1 j i t h hp.lt hW ht)⟩
  · subst h;exact ⟨fun hd=>absurd hd hp.nd,fun h=>by omega⟩
  refine ⟨fun hdj=>absurd hdj (hp.later hj ?_),fun h'=>by omega⟩
  rcases ht with ht|ht
  · exact ho.tok2 i j t h hj ht hW
  exact ho.tok1 i j t h hj ht (.inr hW)
 rcases fo m i with h|h
 · rw [hr.same_to h (dy hp.lt) (fun j h1 h2 hW=>by
    have a1:=hw j (by have:=hp.lt;omega) hW
    have a2:=hwr j (by have:=hp.lt;omega) hW
    have:=a1.1 (a2.2 h2);omega) (cZ hs)]
   exact hs
 rw [<- hr.same_to h hm (fun j h1 h2 hW=>by
  have a1:=hw j (by omega) hW
  have a2:=hwr j (by omega) hW
  have:=a2.1 (a1.2 h2);omega) hlen]
 exact hs
end
end Go.Vm
/- A region: one more operation keeps what holds. -/
namespace Go.Vm
theorem BR.mono' {im im':Im} {loc loc':dV} {w w':World} {li:LI} {k:mU} (h:BR im loc w li k) (hi:sD im im') (hl:pX loc loc')
 (hw:k.solid=true->w'.heap[li.blk]? =w.heap[li.blk]?):BR im' loc' w' li k:=by
 cases hs:k.solid with
 |true=>exact h.mono hi hl (hw hs)
 |false=>
  cases k with
  |arr e rows=>
   cases rows with
   |nil=>exact ⟨h.1,h.2.1,fun hne=>absurd rfl hne⟩
   |cons _ _=>cases hs
  |box _=>cases hs
  |map _=>cases hs
  |dead=>trivial
section
variable {F : qT} {rec : mT -> Option zS} {ops : List cE} {S : Nat -> St} {X : Nat -> Option XR} {bef : Nat -> Nat -> Prop} {im0 : Im} {loc0 : dV} {w0 : World} {nt : Nat}
  {done : Nat -> Prop} {im : Im} {loc : dV} {a : Act} {w : World} {i : Nat}
theorem E9.fz_le (hr:E9 F rec ops S X) {j:Nat} (hj:j<ops.length): ∀t,t∈(S j).fz->t∈(S (j+1)).fz:=by
 intro t ht;rcases hr.steps j _ (bo hj) with ⟨_,x,hx,_,_,hn⟩|⟨_,_,hn⟩
 · rw [hn]
   cases x with
   |loc r=>simp only [XR.next];exact ei _ ht
   |shr v s z=>exact (aB9 hx).2 t ht
 rw [hn];exact ht
theorem E9.fz_mono (hr : E9 F rec ops S X) {m m' : Nat} (h : m <= m') (hm : m' <= ops.length) : ∀ t, t ∈ (S m).fz -> t ∈ (S m').fz := by
  induction m' with
  | zero => have : m = 0 := by omega
            subst this; exact fun _ h => h
  | succ j ih =>
    rcases dc h with e | e
    · subst e; exact fun _ h => h
    exact fun t ht => hr.fz_le (by omega) t (ih (by omega) (by omega) t ht)
theorem E9.fr_fz (hr:E9 F rec ops S X) {j:Nat} (hj:j<ops.length) {t:Nat} (h:FR X j t):t∈(S (j+1)).fz:=by
 rcases hr.steps j _ (bo hj) with ⟨_,x,hx,_,hX,hn⟩|⟨_,hX,_⟩
 · rw [hn]
   unfold FR at h;rw [hX] at h;cases x with
   |loc r=>exact ek _ h
   |shr v s z=>exact h
 unfold FR at h;rw [hX] at h;exact h.elim
theorem aVH {j t:Nat} (h:FR X j t):A X j t\/W X j t:=by
 unfold FR at h;unfold A W;cases hX:X j with
 |none=>rw [hX] at h;exact h.elim
 |some x=>
  rw [hX] at h;cases x with
  |loc r=>exact .inl (.inr h)
  |shr v s z=>exact .inr trivial
theorem CP.not_frozen (hr:E9 F rec ops S X) (ho:JH ops S X bef) (hp:EG ops bef done i) {t:Nat} (hW:W X i t) (hz:t∉(S i).fz):
 t∉(S 0).fz/\ ∀j,j<ops.length->done j-> ¬FR X j t:=by
 refine ⟨fun h=>hz (hr.fz_mono (c8 _) (dy hp.lt) t h),fun j hj hd hf=>?_⟩
 rcases cm j i with h|h|h
 · exact hz (hr.fz_mono h (dy hp.lt) t (hr.fr_fz hj hf))
 · subst h;exact hp.nd hd
 exact hp.later hj (ho.tok1 i j t h hj hW (aVH hf)) hd
theorem CP.known (hr:E9 F rec ops S X) (ho:JH ops S X bef) (hv:CP ops S X im0 loc0 w0 nt done im loc a w) (hp:EG ops bef done i) {r:tH} (hX:X i=some (.loc r)) (hok:(XR.loc r).ok (S i).fz=true)
 (hn:(S (i+1)).sto.length=(S i).sto.length+r.news.length):mC im loc (S i).sto w r where
 im_ok:=hv.im_ok
 tok:=fun t ht li hl=>by
  obtain ⟨k,hc,hbr⟩:=hv.tok t li hl;refine ⟨k,hv.cur hr ho hp hl ?_ hc,hbr⟩;rcases ht with ht|ht
  · exact .inl (by unfold A;rw [hX];exact .inl ht)
  exact .inr (by unfold W;rw [hX];exact ht)
 free:=fun t k hm li k' hl hs hsol=>by
  have hW:W X i t:=by unfold W;rw [hX];exact ⟨k,hm⟩
  simp only [XR.ok,bq,db,cj] at hok;have hz:t∉(S i).fz:=mD.1 (hok.1 (t,k) hm);obtain ⟨h0,h1⟩:=CP.not_frozen hr ho hp hW hz;obtain ⟨k2,hc,_⟩:=hv.tok t li hl
  have:=hv.cur hr ho hp hl (.inr hW) hc
  rw [hs] at this;injection this with this;subst this;exact hv.free t li k' hl hc hsol h0 h1
 fresh:=fun j hj=>hv.fresh i hp.lt hp.nd _ (by omega) (by omega)
 excl:=fun t u li lj k k' ht hu hl hl' hs hs' hsol hsol' hb=>by
  have aw: ∀t,(t∈r.rd\/ ∃b,(t,b)∈r.wr)->A X i t\/W X i t:=fun t h=>by
   rcases h with h|h
   · exact .inl (by unfold A;rw [hX];exact .inl h)
   exact .inr (by unfold W;rw [hX];exact h)
  obtain ⟨k1,hc1,_⟩:=hv.tok t li hl;obtain ⟨k2,hc2,_⟩:=hv.tok u lj hl';have e1:=hv.cur hr ho hp hl (aw t ht) hc1;have e2:=hv.cur hr ho hp hl' (aw u hu) hc2;rw [hs] at e1;injection e1 with e1;subst e1;rw [hs'] at e2;injection e2 with e2;subst e2;exact hv.excl t u li lj _ _ hl hl' hc1 hc2 hsol hsol' hb
theorem CP.step_loc (hr:E9 F rec ops S X) (ho:JH ops S X bef) (hv:CP ops S X im0 loc0 w0 nt done im loc a w) (hp:EG ops bef done i) {x:cE} (hx:ops[i]? =some x) {r:tH} (hX:X i=some (.loc r))
 (hok:(XR.loc r).ok (S i).fz=true) (hS:S (i+1)=(XR.loc r).next x.dst (S i)) {v':Value} {im':Im} {loc':dV} {w':World} (hvr:VR im' loc' r.v v') (he:BU im loc (S i).sto w r im' loc' w')
 (hdst: ∀d,x.dst=some d->d<nt):CP ops S X im0 loc0 w0 nt (CY done i) im' loc' (a.put x.dst v') w':=by
 have hlen:(S (i+1)).sto.length=(S i).sto.length+r.news.length:=by rw [hS];simp [XR.next,xN,gP]
 have hin:=hp.lt;have hone:CS r.wr=true:=by simp only [XR.ok,bq] at hok;exact hok.2
 have hsto:(S (i+1)).sto=iU r.wr (S i).sto++r.news:=by rw [hS];exact xN _ _
 have wr_at: ∀t k,(t,k)∈r.wr->t<(S i).sto.length->(S (i+1)).sto[t]? =some k:=by
  intro t k hm hlt;rw [hsto,cd (by rw [gP];exact hlt)]
  exact O0 _ _ hone hm hlt
 have new_at: ∀j k,r.news[j]? =some k->(S (i+1)).sto[(S i).sto.length+j]? =some k:=by
  intro j k hj;rw [hsto,cq (by rw [gP];omega),gP,show (S i).sto.length+j- (S i).sto.length=j by omega]
  exact hj
 have wlt: ∀t li,loc t=some li->W X i t->t<(S i).sto.length:=by
  intro t li hl hW;obtain ⟨k,hc,_⟩:=hv.tok t li hl;exact cZ (hv.cur hr ho hp hl (.inr hW) hc)
 have cur_wr: ∀t k li,(t,k)∈r.wr->loc t=some li->JR S X ops.length (CY done i) t k:=by
  intro t k li hm hl;have hW:W X i t:=by unfold W;rw [hX];exact ⟨k,hm⟩
  have hlt:=wlt t li hl hW;refine ⟨i+1,hin,fun j hj hWj=>?_,fun c hc h1 h2=>?_,wr_at t k hm hlt⟩
  · rcases cm j i with h|h|h
    · exact ⟨fun _=>by omega,fun _=> .inl (hp.pre j hj (ho.tok1 j i t h hin hWj (.inr hW)))⟩
    · subst h;exact ⟨fun _=>by omega,fun _=> .inr rfl⟩
    refine ⟨fun hd=>?_,fun h'=>by omega⟩
    rcases hd with hd|hd
    · exact absurd hd (hp.later hj (ho.tok1 i j t h hj hW (.inr hWj)))
    omega
  rcases c7 c (i+1) with h|h
  · exact h
  have:=hr.len_mono (show i<=c by omega) (by omega);omega
 have cur_new: ∀j k,r.news[j]? =some k->JR S X ops.length (CY done i) ((S i).sto.length+j) k:=by
  intro j k hj;have hjl:=cZ hj;refine ⟨i+1,hin,fun q hq hWq=>?_,fun c hc h1 h2=>?_,new_at j k hj⟩
  · rcases cm q i with h|h|h
    · refine ⟨fun _=>by omega,fun _=> .inl ?_⟩
      by_cases hs:xH X q
      ·
       refine hp.pre q hq (ho.bar q i h hin (.inl ⟨hs,?_⟩));unfold touches;rw [hX];exact .inr (.inr (.inr (by intro e;rw [e] at hj;simp at hj)))
      rcases ho.cl q _ hq hs (.inr hWq) with h'|h'
      · have:=hr.len_mono (show q<=i by omega) (by omega);omega
      exact hp.pre q hq (h' i h hin)
    · subst h;exact ⟨fun _=>by omega,fun _=> .inr rfl⟩
    refine ⟨fun hd=>?_,fun h'=>by omega⟩
    rcases hd with hd|hd
    · exfalso
      by_cases hs:xH X q
      · refine hp.later hq (ho.bar i q h hq (.inr ⟨?_,hs⟩)) hd
        unfold touches;rw [hX];exact .inr (.inr (.inr (by intro e;rw [e] at hj;simp at hj)))
      exact hp.later hq (ho.tok3 i q _ h hq (by rintro ⟨v,s,z,e⟩;rw [hX] at e;cases e) (by omega) (by omega) hs hWq) hd
    omega
  rcases c7 c (i+1) with h|h
  · exact h
  have:=hr.len_mono (show i+1<=c by omega) (by omega);omega
 have cur_old: ∀t k,¬W X i t->JR S X ops.length done t k->JR S X ops.length (CY done i) t k:=by
  intro t k hW hc;obtain ⟨m,hm,h1,h2,h3⟩:=hc;refine ⟨m,hm,fun j hj hWj=>?_,h2,h3⟩
  have hne:j≠i:=fun e=>hW (e▸hWj)
  have:=h1 j hj hWj
  exact ⟨fun hd=>this.1 (hd.resolve_right hne),fun h=> .inl (this.2 h)⟩
 have not_shr: ¬xH X i:=by rintro ⟨v,s,z,e⟩;rw [hX] at e;cases e
 have cases_t: ∀t li,loc' t=some li->(∃j k,t=(S i).sto.length+j/\r.news[j]? =some k/\loc t=none)\/loc t=some li:=by
  intro t li hl;rcases he.locnew t li hl with h|⟨h1,h2⟩
  · exact .inr h
  refine .inl ⟨t- (S i).sto.length,r.news[t- (S i).sto.length],by omega,bo (by omega),?_⟩
  exact hv.fresh i hin hp.nd t h1 (by omega)
 have old: ∀t li k,loc t=some li->JR S X ops.length (CY done i) t k->k.solid=true-> ∃k0,JR S X ops.length done t k0/\k0.solid=true/\BR im loc w li k0/\(¬W X i t->k0=k)/\(W X i t->(t,k)∈r.wr):=by
  intro t li k hl hc hs;obtain ⟨k0,hc0,hbr⟩:=hv.tok t li hl
  by_cases hW:W X i t
  · have hW2:=hW
    unfold W at hW2;rw [hX] at hW2;obtain ⟨k2,hm⟩:=hW2;have e:=(cur_wr t k2 li hm hl).unique hr hc;subst e;obtain ⟨k3,h3,h4⟩:=he.wrs t k2 hm hs
    have:=hv.cur hr ho hp hl (.inr hW) hc0
    rw [h3] at this;injection this with this;subst this;exact ⟨k3,hc0,h4,hbr,fun h=>absurd hW h,fun _=>hm⟩
  have e:=(cur_old t k0 hW hc0).unique hr hc
  subst e;exact ⟨k0,hc0,hs,hbr,fun _=>rfl,fun h=>absurd h hW⟩
 have wr_cur: ∀t k li k0,(t,k)∈r.wr->loc t=some li->(S i).sto[t]? =some k0->JR S X ops.length done t k0:=by
  intro t k li k0 hm hl hs;obtain ⟨k1,hc1,_⟩:=hv.tok t li hl
  have:=hv.cur hr ho hp hl (.inr (by unfold W;rw [hX];exact ⟨k,hm⟩)) hc1
  rw [hs] at this;injection this with this;subst this;exact hc1
 have fr_cur: ∀t li k0,t∈r.fr->loc t=some li->(S i).sto[t]? =some k0->JR S X ops.length done t k0:=by
  intro t li k0 hm hl hs;obtain ⟨k1,hc1,_⟩:=hv.tok t li hl
  have:=hv.cur hr ho hp hl (.inl (by unfold A;rw [hX];exact .inr hm)) hc1
  rw [hs] at this;injection this with this;subst this;exact hc1
 refine {
  tm:=fun t=>?_
  im_ok:=he.im_ok
  tok:=fun t li hl=>?_
  excl:=fun t u li lj k k' hl hl' hc hc' hs hs' hb=>?_
  free:=fun t li k hl hc hs h0 hf=>?_
  fresh:=fun j hj hnd t h1 h2=>?_
  imle:=hv.imle.trans he.imle
  locle:=hv.locle.trans he.locle
  os:=he.os.trans hv.os
  tape:=he.tape.trans hv.tape
  output:=he.output.trans hv.output
  size:=cu hv.size he.size
  frame:=fun b hb hh=>?_
  imnew:=fun b o hb=>?_
  locs:=fun t li hl=>?_
  own:=fun t li k hl hc hs=>?_
  defers:=by
   cases hd:x.dst<;>simp [Act.put,hv.defers]
  nts:=by
   cases hd:x.dst<;>simp [Act.put,hv.nts]}
 ·
  by_cases hd:x.dst=some t
  · refine ⟨i+1,hin,fun j y hy hyd=>?_,?_⟩
    · rcases cm j i with h|h|h
      · exact ⟨fun _=>by omega,fun _=> .inl (hp.pre j (cZ hy) (ho.slot1 j i t y x h hy hx hyd (.inr hd)))⟩
      · subst h;exact ⟨fun _=>by omega,fun _=> .inr rfl⟩
      refine ⟨fun hdj=>?_,fun h'=>by omega⟩
      rcases hdj with hdj|hdj
      · exact absurd hdj (hp.later (cZ hy) (ho.slot1 i j t x y h hx hy hd (.inr hyd)))
      omega
    rw [hS]
    simp only [XR.next,hd,kU,xP,if_true,Act.put]
    have:=hdst t hd
    simp [hv.nts,this,hvr]
  obtain ⟨m,hm,h1,h2⟩:=hv.tm t
  refine ⟨m,hm,fun j y hy hyd=>?_,?_⟩
  · have hne:j≠i:=by intro e;subst e;rw [hx] at hy;injection hy with hy;subst hy;exact hd hyd
    have:=h1 j y hy hyd
    exact ⟨fun hdj=>this.1 (hdj.resolve_right hne),fun h=> .inl (this.2 h)⟩
  have:=h2.mono he.imle he.locle
  cases hxd:x.dst with
  |none=>simpa [Act.put] using this
  |some d=>
   have hne:d≠t:=fun e=>hd (by rw [hxd,e])
   simpa [Act.put,cw,hne] using this
 ·
  rcases cases_t t li hl with ⟨j,k,rfl,hj,_⟩|hlo
  · obtain ⟨h2,_⟩:=he.news j k li hj hl
    exact ⟨k,cur_new j k hj,h2⟩
  obtain ⟨k0,hc0,hbr⟩:=hv.tok t li hlo
  by_cases hW:W X i t
  · have hW2:=hW
    unfold W at hW2;rw [hX] at hW2;obtain ⟨k2,hm⟩:=hW2;exact ⟨k2,cur_wr t k2 li hm hlo,he.wr t k2 li hm hlo⟩
  refine ⟨k0,cur_old t k0 hW hc0,hbr.mono' he.imle he.locle fun hs=>?_⟩
  refine he.frame _ (hbr.lt hs) fun t2 k2 l2 k3 hm hl2 hs3 hsol hbb=>?_
  have:=hv.excl t2 t l2 li k3 k0 hl2 hlo (wr_cur t2 k2 l2 k3 hm hl2 hs3) hc0 hsol hs hbb
  subst this;exact hW (by unfold W;rw [hX];exact ⟨k2,hm⟩)
 ·
  have newold: ∀t u li lj k k',(∃j k,t=(S i).sto.length+j/\r.news[j]? =some k/\loc t=none)->loc u=some lj->loc' t=some li->JR S X ops.length (CY done i) t k->JR S X ops.length (CY done i) u k'->
   k.solid=true->k'.solid=true->li.blk=lj.blk->False:=by
   intro t u li lj k k' hj hlu hl hc hc' hs hs' hb;obtain ⟨j,k1,rfl,hj,_⟩:=hj;have e:=(cur_new j k1 hj).unique hr hc;subst e;obtain ⟨h2,h3⟩:=he.news j k1 li hj hl;obtain ⟨k0,hc0,hs0,hbr0,hk0,hw0⟩:=old u lj k' hlu hc' hs';have hlt:=hbr0.lt hs0;rcases (h3 hs).2 with h|⟨td,lt,kd,hm,hld,hsd,hsold,hbd⟩
   · omega
   have:=hv.excl td u lt lj kd k0 hld hlu (wr_cur td _ lt kd hm hld hsd) hc0 hsold hs0 (by rw [hbd,hb])
   subst this;have hm2:=hw0 (by unfold W;rw [hX];exact ⟨_,hm⟩)
   have e2:=(cur_wr td _ lj hm hlu).unique hr (cur_wr td _ lj hm2 hlu);subst e2;cases hs'
  rcases cases_t t li hl with h1|h1
  · rcases cases_t u lj hl' with h2|h2
    · obtain ⟨j1,k1,rfl,hj1,_⟩:=h1
      obtain ⟨j2,k2,rfl,hj2,_⟩:=h2;have e1:=(cur_new j1 k1 hj1).unique hr hc;have e2:=(cur_new j2 k2 hj2).unique hr hc';subst e1 e2;rw [he.distinct j1 j2 k1 k2 li lj hj1 hj2 hs hs' hl hl' hb]
    exact (newold t u li lj k k' h1 h2 hl hc hc' hs hs' hb).elim
  rcases cases_t u lj hl' with h2|h2
  · exact (newold u t lj li k' k h2 h1 hl' hc' hc hs' hs hb.symm).elim
  obtain ⟨k0,hc0,hs0,_⟩:=old t li k h1 hc hs
  obtain ⟨k1,hc1,hs1,_⟩:=old u lj k' h2 hc' hs';exact hv.excl t u li lj k0 k1 h1 h2 hc0 hc1 hs0 hs1 hb
 ·
  rcases cases_t t li hl with ⟨j,k1,rfl,hj,_⟩|hlo
  · have e:=(cur_new j k1 hj).unique hr hc
    subst e;obtain ⟨h2,h3⟩:=he.news j k1 li hj hl;exact (h3 hs).1
  obtain ⟨k0,hc0,hs0,hbr0,_,_⟩:=old t li k hlo hc hs
  have hn:=hv.free t li k0 hlo hc0 hs0 h0 (fun j hj hd=>hf j hj (.inl hd))
  cases hb:im' li.blk with
  |none=>rfl
  |some o=>
   rcases he.imnew _ _ hb with h|h|⟨t2,l2,k2,h1,h2,h3,h4,h5⟩
   · rw [hn] at h;cases h
   · have:=hbr0.lt hs0;omega
   have hm:=uS.1 h1
   have:=hv.excl t2 t l2 li k2 k0 h2 hlo (fr_cur t2 l2 k2 hm h2 h3) hc0 h4 hs0 h5
   subst this;exact absurd (by unfold FR;rw [hX];exact hm) (hf i hin (.inr rfl))
 ·
  have hji:j≠i:=fun e=>hnd (.inr e)
  have hndj: ¬done j:=fun h=>hnd (.inl h)
  cases hl:loc' t with
  |none=>rfl
  |some li=>
   exfalso;rcases he.locnew t li hl with h|⟨h3,h4⟩
   · rw [hv.fresh j hj hndj t h1 h2] at h;cases h
   rcases fk hji with h|h
   · have:=hr.len_mono (show j+1<=i by omega) (by omega);omega
   have:=hr.len_mono (show i+1<=j by omega) (by omega);omega
 ·
  have hb2:b<w.heap.size:=di hb hv.size;rw [he.frame b hb2 (fun t k li k0 hm hl hs hsol hbb=>?_)]
  · exact hv.frame b hb hh
  rcases hv.own t li k0 hl (wr_cur t k li k0 hm hl hs) hsol with h|⟨u,lu,ku,h1,h2,h3,h4⟩
  · omega
  exact hh u lu ku h1 h2 h3 (by omega)
 · rcases he.imnew b o hb with h|h|⟨t,li,k,h1,h2,h3,h4,h5⟩
   · exact hv.imnew b o h
   · exact .inr (.inl (cu hv.size h))
   rcases hv.own t li k h2 (fr_cur t li k (uS.1 h1) h2 h3) h4 with h|⟨u,lu,ku,g1,g2,g3,g4⟩
   · exact .inr (.inl (by omega))
   exact .inr (.inr ⟨u,lu,ku,g1,g2,g3,by omega⟩)
 · rcases he.locnew t li hl with h|⟨h,_⟩
   · exact hv.locs t li h
   exact .inr (cu (hr.len_mono (c8 _) (by omega)) h)
 rcases cases_t t li hl with ⟨j,k1,rfl,hj,_⟩|hlo
 · have e:=(cur_new j k1 hj).unique hr hc
   subst e;obtain ⟨h2,h3⟩:=he.news j k1 li hj hl;rcases (h3 hs).2 with h|⟨td,lt,kd,hm,hld,hsd,hsold,hbd⟩
   · exact .inl (cu hv.size h)
   rcases hv.own td lt kd hld (wr_cur td _ lt kd hm hld hsd) hsold with h|⟨u,lu,ku,g1,g2,g3,g4⟩
   · exact .inl (by omega)
   exact .inr ⟨u,lu,ku,g1,g2,g3,by omega⟩
 obtain ⟨k0,hc0,hs0,_⟩:=old t li k hlo hc hs
 exact hv.own t li k0 hlo hc0 hs0
end
end Go.Vm
/- A region: a call that works on the blocks themselves, and a skipped operation. -/
namespace Go.Vm
section
variable {F : qT} {rec : mT -> Option zS} {ops : List cE} {S : Nat -> St} {X : Nat -> Option XR} {bef : Nat -> Nat -> Prop} {im0 : Im} {loc0 : dV} {w0 : World} {nt : Nat}
  {done : Nat -> Prop} {im : Im} {loc : dV} {a : Act} {w : World} {i : Nat}
theorem S3 {v:PV} {s:dC} {z:List Nat} (hX:X i=some (.shr v s z)) (t:Nat):W X i t:=by unfold W;rw [hX];trivial
theorem CZ {j t:Nat} (h:W X j t):touches X j:=by
 unfold W at h;unfold touches;cases hX:X j with
 |none=>rw [hX] at h;exact h.elim
 |some x=>
  rw [hX] at h;cases x with
  |loc r=>
   obtain ⟨k,hk⟩:=h;exact .inr (.inr (.inl (by intro e;rw [e] at hk;cases hk)))
  |shr v s z=>trivial
theorem CP.sr (hr:E9 F rec ops S X) (ho:JH ops S X bef) (hv:CP ops S X im0 loc0 w0 nt done im loc a w) (hp:EG ops bef done i) {v:PV} {s:dC} {z:List Nat} (hX:X i=some (.shr v s z)):
 SR im loc (S i).sto (S i).fz w where
 im_ok:=hv.im_ok
 blk:=fun t li hl=>by
  obtain ⟨k,hc,hb⟩:=hv.tok t li hl;exact ⟨k,hv.cur hr ho hp hl (.inr (S3 hX t)) hc,hb⟩
 excl:=fun t u li lj k k' hl hl' hs hs' h h' hb=>by
  obtain ⟨k1,hc1,_⟩:=hv.tok t li hl;obtain ⟨k2,hc2,_⟩:=hv.tok u lj hl';have e1:=hv.cur hr ho hp hl (.inr (S3 hX t)) hc1;have e2:=hv.cur hr ho hp hl' (.inr (S3 hX u)) hc2;rw [hs] at e1;injection e1 with e1;subst e1;rw [hs'] at e2;injection e2 with e2;subst e2;exact hv.excl t u li lj _ _ hl hl' hc1 hc2 h h' hb
 free:=fun t li k hl hs h hz=>by
  obtain ⟨k1,hc1,_⟩:=hv.tok t li hl;have e1:=hv.cur hr ho hp hl (.inr (S3 hX t)) hc1;rw [hs] at e1;injection e1 with e1;subst e1;obtain ⟨h0,h1⟩:=CP.not_frozen hr ho hp (S3 hX t) (mD.1 hz);exact hv.free t li _ hl hc1 h h0 h1
theorem CP.put_tm {S:Nat->St} (ho:JH ops S X bef) (hp:EG ops bef done i) {x:cE} (hx:ops[i]? =some x) {v:PV} {v':Value} {im':Im} {loc':dV}
 (hv:CP ops S X im0 loc0 w0 nt done im loc a w) (hi:sD im im') (hl:pX loc loc') (hS:(S (i+1)).env=kU x.dst v (S i).env) (hvr:VR im' loc' v v') (hdst: ∀d,x.dst=some d->d<nt):
 ∀t,∃m,m<=ops.length/\(∀j y,ops[j]? =some y->y.dst=some t->(CY done i j↔j<m))/\VR im' loc' (lk t (S m).env) ((a.put x.dst v').tmps.getD t Go.undef):=by
 intro t;have hin:=hp.lt
 by_cases hd:x.dst=some t
 · refine ⟨i+1,hin,fun j y hy hyd=>?_,?_⟩
   · rcases cm j i with h|h|h
     · exact ⟨fun _=>by omega,fun _=> .inl (hp.pre j (cZ hy) (ho.slot1 j i t y x h hy hx hyd (.inr hd)))⟩
     · subst h;exact ⟨fun _=>by omega,fun _=> .inr rfl⟩
     refine ⟨fun hdj=>?_,fun h'=>by omega⟩
     rcases hdj with hdj|hdj
     · exact absurd hdj (hp.later (cZ hy) (ho.slot1 i j t x y h hx hy hd (.inr hyd)))
     omega
   rw [hS]
   simp only [hd,kU,xP,if_true,Act.put]
   have:=hdst t hd
   simp [hv.nts,this,hvr]
 obtain ⟨m,hm,h1,h2⟩:=hv.tm t
 refine ⟨m,hm,fun j y hy hyd=>?_,?_⟩
 · have hne:j≠i:=by intro e;subst e;rw [hx] at hy;injection hy with hy;subst hy;exact hd hyd
   have:=h1 j y hy hyd
   exact ⟨fun hdj=>this.1 (hdj.resolve_right hne),fun h=> .inl (this.2 h)⟩
 have:=h2.mono hi hl
 cases hxd:x.dst with
 |none=>simpa [Act.put] using this
 |some d=>
  have hne:d≠t:=fun e=>hd (by rw [hxd,e])
  simpa [Act.put,cw,hne] using this
theorem O1 (a:Act) (d:Option Nat) (v:Value):(a.put d v).defers=a.defers:=by cases d<;>rfl
theorem XO (a:Act) (d:Option Nat) (v:Value):(a.put d v).tmps.size=a.tmps.size:=by cases d<;>simp [Act.put]
theorem CP.step_shr (hr:E9 F rec ops S X) (ho:JH ops S X bef) (hv:CP ops S X im0 loc0 w0 nt done im loc a w) (hp:EG ops bef done i) {x:cE} (hx:ops[i]? =some x) {v:PV} {s:dC} {z:List Nat}
 (hX:X i=some (.shr v s z)) (hS:S (i+1)=(XR.shr v s z).next x.dst (S i)) {v':Value} {im':Im} {loc':dV} {w':World} (hf:B2 im loc (S i).sto w v s z im' loc' w' v')
 (hdst: ∀d,x.dst=some d->d<nt):CP ops S X im0 loc0 w0 nt (CY done i) im' loc' (a.put x.dst v') w':=by
 have hin:=hp.lt;have hsto:(S (i+1)).sto=s:=by rw [hS];rfl
 have cur0: ∀t li,loc t=some li-> ∀k,(S i).sto[t]? =some k->JR S X ops.length done t k:=by
  intro t li hl k hs;obtain ⟨k1,hc1,_⟩:=hv.tok t li hl;have e1:=hv.cur hr ho hp hl (.inr (S3 hX t)) hc1;rw [hs] at e1;injection e1 with e1;subst e1;exact hc1
 have cur1: ∀t k,s[t]? =some k->JR S X ops.length (CY done i) t k:=by
  intro t k hs;refine ⟨i+1,hin,fun j hj hWj=>?_,fun c hc h1 h2=>?_,by rw [hsto];exact hs⟩
  · rcases cm j i with h|h|h
    · exact ⟨fun _=>by omega,fun _=> .inl (hp.pre j hj (ho.bar j i h hin (.inr ⟨CZ hWj,⟨v,s,z,hX⟩⟩)))⟩
    · subst h;exact ⟨fun _=>by omega,fun _=> .inr rfl⟩
    refine ⟨fun hd=>?_,fun h'=>by omega⟩
    rcases hd with hd|hd
    · exact absurd hd (hp.later hj (ho.bar i j h hj (.inl ⟨⟨v,s,z,hX⟩,CZ hWj⟩)))
    omega
  rcases c7 c (i+1) with h|h
  · exact h
  have:=hr.len_mono (show i+1<=c by omega) (by omega)
  have:=cZ hs
  rw [hsto] at*;omega
 have cur2: ∀t li,loc' t=some li-> ∀k,JR S X ops.length (CY done i) t k->s[t]? =some k:=by
  intro t li hl k hc;obtain ⟨k1,h1,_⟩:=hf.sr.blk t li hl
  have:=hc.unique hr (cur1 t k1 h1)
  subst this;exact h1
 refine {
  tm:=CP.put_tm ho hp hx hv hf.imle hf.locle (by rw [hS];rfl) hf.vr hdst
  im_ok:=hf.sr.im_ok
  tok:=fun t li hl=>by
   obtain ⟨k,h1,h2⟩:=hf.sr.blk t li hl;exact ⟨k,cur1 t k h1,h2⟩
  excl:=fun t u li lj k k' hl hl' hc hc' hs hs' hb=>hf.sr.excl t u li lj k k' hl hl' (cur2 t li hl k hc) (cur2 u lj hl' k' hc') hs hs' hb
  free:=fun t li k hl hc hs h0 hfr=>by
   refine hf.sr.free t li k hl (cur2 t li hl k hc) hs (mD.2 ?_)
   have:=hfr i hin (.inr rfl)
   unfold FR at this;rw [hX] at this;exact this
  fresh:=fun j hj hnd t h1 h2=>?_
  imle:=hv.imle.trans hf.imle
  locle:=hv.locle.trans hf.locle
  os:=hf.os.trans hv.os
  tape:=hf.tape.trans hv.tape
  output:=hf.output.trans hv.output
  size:=cu hv.size hf.size
  frame:=fun b hb hh=>?_
  imnew:=fun b o hb=>?_
  locs:=fun t li hl=>?_
  own:=fun t li k hl hc hs=>?_
  defers:=by rw [O1];exact hv.defers
  nts:=by rw [XO];exact hv.nts}
 · have hji:j≠i:=fun e=>hnd (.inr e)
   have hndj: ¬done j:=fun h=>hnd (.inl h)
   cases hl:loc' t with
   |none=>rfl
   |some li=>
    exfalso;obtain ⟨k,hk,_⟩:=hf.sr.blk t li hl;have hlt:=cZ hk;rcases hf.locs t li hl with h|h
    · rw [hv.fresh j hj hndj t h1 h2] at h;cases h
    rcases fk hji with h'|h'
    · have:=hr.len_mono (show j+1<=i by omega) (by omega);omega
    have:=hr.len_mono (show i+1<=j by omega) (by omega)
    rw [hsto] at this;omega
 · rw [hf.frame b (di hb hv.size) fun t li k hl hs hsol hbb=>?_]
   · exact hv.frame b hb hh
   rcases hv.own t li k hl (cur0 t li hl k hs) hsol with h|⟨u,lu,ku,g1,g2,g3,g4⟩
   · omega
   exact hh u lu ku g1 g2 g3 (by omega)
 · rcases hf.imnew b o hb with h|h|⟨t,li,k,h1,h2,h3,h4⟩
   · exact hv.imnew b o h
   · exact .inr (.inl (cu hv.size h))
   rcases hv.own t li k h1 (cur0 t li h1 k h2) h3 with h|⟨u,lu,ku,g1,g2,g3,g4⟩
   · exact .inr (.inl (by omega))
   exact .inr (.inr ⟨u,lu,ku,g1,g2,g3,by omega⟩)
 · rcases hf.locs t li hl with h|h
   · exact hv.locs t li h
   exact .inr (cu (hr.len_mono (c8 _) (by omega)) h)
 rcases hf.own t li k hl (cur2 t li hl k hc) hs with h|⟨u,lu,ku,h1,h2,h3,h4⟩
 · exact .inl (cu hv.size h)
 rcases hv.own u lu ku h1 (cur0 u lu h1 ku h2) h3 with h|⟨u',lu',ku',g1,g2,g3,g4⟩
 · exact .inl (by omega)
 exact .inr ⟨u',lu',ku',g1,g2,g3,by omega⟩
theorem CP.step_skip (_hr:E9 F rec ops S X) (ho:JH ops S X bef) (hv:CP ops S X im0 loc0 w0 nt done im loc a w) (hp:EG ops bef done i) {x:cE} (hx:ops[i]? =some x)
 (hX:X i=none) (hS:S (i+1)={S i with env:=kU x.dst .nul (S i).env}) (hdst: ∀d,x.dst=some d->d<nt):CP ops S X im0 loc0 w0 nt (CY done i) im loc (a.put x.dst Go.undef) w:=by
 have hin:=hp.lt;have hnW: ∀t,¬W X i t:=fun t h=>by unfold W at h;rw [hX] at h;exact h
 have hsto:(S (i+1)).sto=(S i).sto:=by rw [hS]
 have cur1: ∀t k,JR S X ops.length done t k->JR S X ops.length (CY done i) t k:=by
  intro t k ⟨m,hm,h1,h2,h3⟩;refine ⟨m,hm,fun j hj hWj=>?_,h2,h3⟩
  have hne:j≠i:=fun e=>hnW t (e▸hWj)
  have:=h1 j hj hWj
  exact ⟨fun hd=>this.1 (hd.resolve_right hne),fun h=> .inl (this.2 h)⟩
 have cur2: ∀t k,JR S X ops.length (CY done i) t k->JR S X ops.length done t k:=by
  intro t k ⟨m,hm,h1,h2,h3⟩;refine ⟨m,hm,fun j hj hWj=>?_,h2,h3⟩
  have hne:j≠i:=fun e=>hnW t (e▸hWj)
  have:=h1 j hj hWj
  exact ⟨fun hd=>this.1 (.inl hd),fun h=>(this.2 h).resolve_right hne⟩
 refine {
  tm:=CP.put_tm ho hp hx hv (.refl _) (.refl _) (by rw [hS]) .nul hdst
  im_ok:=hv.im_ok
  tok:=fun t li hl=>let ⟨k,h1,h2⟩:=hv.tok t li hl;⟨k,cur1 t k h1,h2⟩
  excl:=fun t u li lj k k' hl hl' hc hc' hs hs' hb=>hv.excl t u li lj k k' hl hl' (cur2 t k hc) (cur2 u k' hc') hs hs' hb
  free:=fun t li k hl hc hs h0 hfr=>hv.free t li k hl (cur2 t k hc) hs h0 fun j hj hd=>hfr j hj (.inl hd)
  fresh:=fun j hj hnd t h1 h2=>hv.fresh j hj (fun h=>hnd (.inl h)) t h1 h2
  imle:=hv.imle
  locle:=hv.locle
  os:=hv.os
  tape:=hv.tape
  output:=hv.output
  size:=hv.size
  frame:=hv.frame
  imnew:=hv.imnew
  locs:=hv.locs
  own:=fun t li k hl hc hs=>hv.own t li k hl (cur2 t k hc) hs
  defers:=by rw [O1];exact hv.defers
  nts:=by rw [XO];exact hv.nts}
theorem CP.start {st:St} (h0:S 0=st) (hsr:SR im0 loc0 st.sto st.fz w0) (her:ER im0 loc0 st.env a.tmps) (hd:a.defers=[]) (hn:a.tmps.size=nt) (hr:E9 F rec ops S X):
 CP ops S X im0 loc0 w0 nt (fun _=>False) im0 loc0 a w0:=by
 subst h0;have hlt: ∀t li,loc0 t=some li->t<(S 0).sto.length:=fun t li hl=>let ⟨k,h,_⟩:=hsr.blk t li hl;cZ h
 have cur: ∀t li k,loc0 t=some li->JR S X ops.length (fun _=>False) t k->(S 0).sto[t]? =some k:=by
  intro t li k hl ⟨m,hm,h1,h2,h3⟩;rw [<- hr.same_to (c8 m) hm (fun j _ hj hW=>(h1 j (by omega) hW).2 hj) (hlt t li hl)]
  exact h3
 exact {
  tm:=fun t=>⟨0,c8 _,fun j y _ _=>⟨fun h=>h.elim,fun h=>by omega⟩,her t⟩
  im_ok:=hsr.im_ok
  tok:=fun t li hl=>by
   obtain ⟨k,h1,h2⟩:=hsr.blk t li hl;refine ⟨k,⟨0,c8 _,fun j _ _=>⟨fun h=>h.elim,fun h=>by omega⟩,fun c hc h3 h4=>?_,h1⟩,h2⟩
   have:=hlt t li hl
   have:=hr.len_mono (c8 c) (by omega)
   omega
  excl:=fun t u li lj k k' hl hl' hc hc'=>hsr.excl t u li lj k k' hl hl' (cur t li k hl hc) (cur u lj k' hl' hc')
  free:=fun t li k hl hc hs hz _=>hsr.free t li k hl (cur t li k hl hc) hs (mD.2 hz)
  fresh:=fun j hj _ t h1 h2=>by
   cases hl:loc0 t with
   |none=>rfl
   |some li=>
    have:=hlt t li hl
    have:=hr.len_mono (c8 j) (by omega)
    omega
  imle:= .refl _
  locle:= .refl _
  os:=rfl
  tape:=rfl
  output:=rfl
  size:=cb _
  frame:=fun _ _ _=>rfl
  imnew:=fun _ _ h=> .inl h
  locs:=fun _ _ h=> .inl h
  own:=fun t li k hl hc hs=> .inr ⟨t,li,k,hl,cur t li k hl hc,hs,rfl⟩
  defers:=hd
  nts:=hn}
structure SF (im0:Im) (loc0:dV) (sto0:dC) (w0:World) (st:St) (im:Im) (loc:dV) (w:World):Prop where
 sr:SR im loc st.sto st.fz w
 imle:sD im0 im
 locle:pX loc0 loc
 os:w.os=w0.os
 tape:w.tape=w0.tape
 output:w.output=w0.output
 size:w0.heap.size<=w.heap.size
 frame: ∀b,b<w0.heap.size->(∀t li k,loc0 t=some li->sto0[t]? =some k->k.solid=true->li.blk≠b)->w.heap[b]? =w0.heap[b]?
 imnew: ∀b o,im b=some o->im0 b=some o\/w0.heap.size<=b\/ ∃t li k,loc0 t=some li/\sto0[t]? =some k/\k.solid=true/\li.blk=b
 locs: ∀t li,loc t=some li->loc0 t=some li\/sto0.length<=t
 own: ∀t li k,loc t=some li->st.sto[t]? =some k->k.solid=true->(w0.heap.size<=li.blk\/ ∃u lu ku,loc0 u=some lu/\sto0[u]? =some ku/\ku.solid=true/\lu.blk=li.blk)
theorem CP.finish (hr : E9 F rec ops S X) (hv : CP ops S X im0 loc0 w0 nt done im loc a w) (hd : ∀ j, j < ops.length -> done j) :
    SF im0 loc0 (S 0).sto w0 (S ops.length) im loc w /\ ER im loc (S ops.length).env a.tmps /\ a.defers = [] /\ a.tmps.size = nt := by
  have cur : ∀ t k, JR S X ops.length done t k -> (S ops.length).sto[t]? = some k := by
    intro t k ⟨m, hm, h1, h2, h3⟩
    rw [hr.same_to hm (cb _) (fun j h4 h5 hW => by have := (h1 j h5 hW).1 (hd j h5); omega) (cZ h3)]
    exact h3
  have cur' : ∀ t li k, loc t = some li -> (S ops.length).sto[t]? = some k -> JR S X ops.length done t k := by
    intro t li k hl hs
    obtain ⟨k1, hc, _⟩ := hv.tok t li hl
    have := cur t k1 hc
    rw [hs] at this; injection this with this; subst this; exact hc
  refine ⟨{
    sr := { im_ok := hv.im_ok
            blk := fun t li hl => let ⟨k, h1, h2⟩ := hv.tok t li hl; ⟨k, cur t k h1, h2⟩
            excl := fun t u li lj k k' hl hl' hs hs' => hv.excl t u li lj k k' hl hl' (cur' t li k hl hs) (cur' u lj k' hl' hs')
            free := fun t li k hl hs hsol hz => by
              have hz := mD.1 hz
              refine hv.free t li k hl (cur' t li k hl hs) hsol (fun h => hz (hr.fz_mono (c8 _) (cb _) t h)) fun j hj _ hf => ?_
              exact hz (hr.fz_mono (show j + 1 <= ops.length from hj) (cb _) t (hr.fr_fz hj hf)) }
    imle := hv.imle, locle := hv.locle, os := hv.os, tape := hv.tape, output := hv.output, size := hv.size, frame := hv.frame, imnew := hv.imnew, locs := hv.locs
    own := fun t li k hl hs => hv.own t li k hl (cur' t li k hl hs) }, fun t => ?_, hv.defers, hv.nts⟩
  obtain ⟨m, hm, h1, h2⟩ := hv.tm t
  rw [hr.env_to hm (cb _) fun j hj h3 h4 hdst => ?_]
  · exact h2
  have := (h1 j _ (bo hj) hdst).1 (hd j hj); omega
end
end Go.Vm
/- One operation of a region, in the model. -/
namespace Go.Vm
theorem LQ {P:Program} {o:Oper} {a:Act} {w:World} {f:FuncId} {us:Array Value} {R:Value->World->Prop} {next:Act->World->Prop} {Q:Exit->Act->World->Prop}
 (h:(execOp a.eval o).run P w=(callFunc f us).run P w) (hc:A8 P f us w R) (hR: ∀v w',R v w'->next (a.put o.dst v) w'):o.wp P a w next Q:=by
 unfold Oper.wp;rw [h];rcases hc with ⟨v,w',h1,h2⟩|⟨h1,h2⟩
 · rw [h1,Oper.upon_value];exact hR v w' h2
 rw [h1,Oper.upon_enter]
 refine h2.mono fun e w' ⟨v,he,hv⟩=>?_
 subst he;exact hR v w' hv
theorem aAD {im:Im} {loc:dV} {e:zQ} {a:Act} (x:gX) (h: ∀t,x= .t t->VR im loc (lk t e) (a.tmps.getD t Go.undef)) (o:Operand) (hc:bQ x o=true):VR im loc (x.ev e) (a.eval o):=by
 unfold bQ at hc;split at hc
 · rename_i n m
   have:n=m:=by simpa using hc
   subst this;exact h n rfl
 · exact UN hc
 · rename_i f g
   have:f=g:=by simpa using hc
   subst this;exact .clo f [] [] [] [] .nil .nil
 · exact .undef _
 cases hc
section
variable {P : Program} {F : qT} {rec : mT -> Option zS} {ops : List cE} {S : Nat -> St} {X : Nat -> Option XR} {bef : Nat -> Nat -> Prop} {im0 : Im} {loc0 : dV} {w0 : World} {nt : Nat}
  {done : Nat -> Prop} {im : Im} {loc : dV} {a : Act} {w : World} {i : Nat} {prims : FuncId -> Bool} {mops : Array Oper}
theorem VR.nul_inv {v:Value} (h:VR im loc .nul v):v=Go.undef:=by
 cases h;rfl
theorem C0 {r:tH} {d:Option Nat} {st:St}:((XR.loc r).next d st).sto.length=st.sto.length+r.news.length:=by simp [XR.next,xN,gP]
theorem S4 {x:cE} {o:Oper} {e:zQ} {b:Bool} (hc:B3 mops x.guard o.guard=true) (hs: ∀s c,x.guard=some (s,c)->VR im loc (lk s e) (a.tmps.getD s Go.undef)) (h:wanted x.guard e=some b):
 Region.wanted o (yielded mops a.tmps)=b:=by
 unfold Region.wanted;cases hg:x.guard with
 |none=>
  rw [hg] at hc h;cases ho:o.guard with
  |none=>simp [wanted] at h;subst h;rfl
  |some q=>rw [ho] at hc;simp [B3] at hc
 |some q=>
  obtain ⟨s,c⟩:=q;rw [hg] at hc h;cases ho:o.guard with
  |none=>rw [ho] at hc;simp [B3] at hc
  |some q'=>
   obtain ⟨j,c'⟩:=q';rw [ho] at hc;simp only [B3,bq,beq_iff_eq] at hc;obtain ⟨rfl,hd⟩:=hc;have hv:=hs s c hg;dsimp only;unfold yielded;rw [hd];simp only [wanted] at h;simp only [Option.bind_some];split at h
   · rename_i b' hl
     rw [hl] at hv
     have:=hv.bool_inv
     have ht:a.tmps[s]? =some (.bool b'):=by
      simp only [cy] at this;cases hq:a.tmps[s]? with
      |none=>rw [hq] at this;simp [Go.undef] at this
      |some u=>rw [hq] at this;exact congrArg some this
     rw [ht];rw [bn] at h;rw [<- h];cases b'<;>cases c<;>rfl
   · rename_i hl
     rw [hl] at hv
     have:a.tmps.getD s Go.undef=Go.undef:=hv.nul_inv
     injection h with h;subst h;have ht: ∀b',a.tmps[s]?≠some (.bool b'):=by
      intro b' hq;simp only [cy,hq,Option.getD_some,Go.undef] at this;cases this
     split
     · rename_i b' hq
       exact absurd hq (ht b')
     rfl
   cases h
structure UU (P:Program) (F:qT) (rec:mT->Option zS):Prop where
 func:LM P rec
 prim:GK P F
theorem CP.wpOp (hE:UU P F rec) (hr:E9 F rec ops S X) (ho:JH ops S X bef) (hv:CP ops S X im0 loc0 w0 nt done im loc a w) (hp:EG ops bef done i) {x:cE} {o:Oper} (hx:ops[i]? =some x) (hmo:mops[i]? =some o)
 (hc:xQ P prims nt mops x o=true) {Q:Exit->Act->World->Prop} {K:Act->World->Prop}
 (hK: ∀im' loc' a' w',CP ops S X im0 loc0 w0 nt (CY done i) im' loc' a' w'->K a' w'):Go.wpOp P mops Q i K a w:=by
 unfold xQ at hc;simp only [bq,beq_iff_eq] at hc;obtain ⟨⟨⟨hdst,hnt⟩,hg⟩,hop⟩:=hc;have hd: ∀d,x.dst=some d->d<nt:=by
  intro d h;rw [h] at hnt;simpa using hnt
 have hslot: ∀t,t∈uses x->VR im loc (lk t (S i).env) (a.tmps.getD t Go.undef):=fun t ht=>hv.slot hr ho hp hx ht
 have hopd: ∀y∈x.op.opds,∀o',bQ y o'=true->VR im loc (y.ev (S i).env) (a.eval o'):=by
  intro y hy o' hco;refine aAD y (fun t ht=>hslot t ?_) o' hco
  subst ht;exact ek _ (List.mem_filterMap.2 ⟨.t t,hy,rfl⟩)
 have hgs: ∀s c,x.guard=some (s,c)->VR im loc (lk s (S i).env) (a.tmps.getD s Go.undef):=by
  intro s c h;refine hslot s (ei _ ?_);rw [h];simp
 unfold Go.wpOp;simp only [hmo];rcases hr.steps i x hx with ⟨hw,xr,hev,hok,hX,hS⟩|⟨hw,hX,hS⟩
 · rw [S4 hg hgs hw]
   simp only [if_true];left;have loc_call: ∀{own:Bool} {f:FuncId} {args:List PV} {us:List Value} {r:tH},xr= .loc r->callPure F rec own f args (S i).sto (S i).fz=some r->VRL im loc args us->
    (execOp a.eval o).run P w=(callFunc f ⟨us⟩).run P w->o.wp P a w K Q:=by
    intro own f args us r hxr hcp hus hrun;subst hxr;have hk:=hv.known hr ho hp hX hok (by rw [hS];exact C0)
    refine LQ hrun (UT hE.func hE.prim hcp hus hk) fun v' w' ⟨im',loc',hvr,heff⟩=>?_
    exact hK _ _ _ _ (hdst▸hv.step_loc hr ho hp hx hX hok hS hvr heff hd)
   have shr_call: ∀{f:FuncId} {args:List PV} {us:List Value},hJ rec f args (S i).sto (S i).fz=some xr->VRL im loc args us->
    (execOp a.eval o).run P w=(callFunc f ⟨us⟩).run P w->o.wp P a w K Q:=by
    intro f args us hcs hus hrun;unfold hJ at hcs;split at hcs
    · rename_i v s z hrec
      split at hcs
      · injection hcs with hcs;subst hcs
        refine LQ hrun (hE.func f args _ _ v s z hrec im loc w us (hv.sr hr ho hp hX) hus) fun v' w' ⟨im',loc',hf⟩=>?_
        exact hK _ _ _ _ (hdst▸hv.step_shr hr ho hp hx hX hS hf hd)
      cases hcs
    cases hcs
   have loc_op: ∀{r:tH},xr= .loc r->bS (S i).env (S i).sto (S i).fz x.op=some r->o.wp P a w K Q:=by
    intro r hxr he;subst hxr;have hk:=hv.known hr ho hp hX hok (by rw [hS];exact C0)
    obtain ⟨nx,w',loc',hrun,hnx,heff⟩:=aEO hop hopd he hk;unfold Oper.wp;rw [hrun];rcases hnx with ⟨rfl,hu⟩|⟨v,rfl,hvr⟩
    · rw [Oper.upon_skip]
      exact hK _ _ _ _ (hdst▸hv.step_loc hr ho hp hx hX hok hS (by rw [hu];exact .undef _) heff hd)
    rw [Oper.upon_value]
    exact hK _ _ _ _ (hdst▸hv.step_loc hr ho hp hx hX hok hS hvr heff hd)
   cases hxo:x.op with
   |call m f args=>
    rw [hxo] at hev hop hopd;have hcall: ∃as ats,o.op= .call {callee:= .value (.func f),args:=as,argTypes:=ats}/\fZ args as.toList=true:=by
     cases hoo:o.op with
     |call c=>
      obtain ⟨callee,as,ats⟩:=c;rw [hoo] at hop;cases callee with
      |value g=>
       cases g with
       |func g=>
        simp only [ED,bq,beq_iff_eq] at hop;obtain ⟨⟨rfl,_⟩,h⟩:=hop;exact ⟨as,ats,rfl,h⟩
       |_=>simp [ED] at hop
      |_=>simp [ED] at hop
     |_=>rw [hoo] at hop;simp [ED] at hop
    obtain ⟨as,ats,hoo,hco⟩:=hcall;have hrel:VRL im loc (OH (S i).env args) (as.toList.map a.eval):=rF (fun y hy=>hopd y (by simpa [oH.opds] using hy)) hco
    have hrun:(execOp a.eval o).run P w=(callFunc f ⟨as.toList.map a.eval⟩).run P w:=by
     have:(⟨as.toList.map a.eval⟩:Array Value)=as.map a.eval:=by apply fy;simp
     rw [this];simp [execOp,hoo,resolve,Act.eval,Deferred.ofValue,invoke]
    cases m with
    |pur=>
     simp only [EB,bw] at hev;obtain ⟨r,hr1,hr2⟩:=hev;exact loc_call hr2.symm hr1 hrel hrun
    |own=>
     simp only [EB,bw] at hev;obtain ⟨r,hr1,hr2⟩:=hev;exact loc_call hr2.symm hr1 hrel hrun
    |shr=>exact shr_call hev hrel hrun
    |fp=>
     simp only [EB,bw] at hev;obtain ⟨r,hr1,hr2⟩:=hev;subst hr2;have hk:=hv.known hr ho hp hX hok (by rw [hS];exact C0)
     refine LQ hrun (aAB hE.func hr1 hrel hk) fun v' w' ⟨im',loc',hvr,heff⟩=>?_
     exact hK _ _ _ _ (hdst▸hv.step_loc hr ho hp hx hX hok hS hvr heff hd)
   |callv y args=>
    rw [hxo] at hev hop hopd;have hcall: ∃t as ats,o.op= .call {callee:= .value (.tmp t),args:=as,argTypes:=ats}/\bQ y (.tmp t)=true/\fZ args as.toList=true:=by
     cases hoo:o.op with
     |call c=>
      obtain ⟨callee,as,ats⟩:=c;rw [hoo] at hop;cases callee with
      |value g=>
       cases g with
       |tmp g=>
        simp only [ED,bq] at hop;exact ⟨g,as,ats,rfl,hop.1,hop.2⟩
       |_=>simp [ED] at hop
      |_=>simp [ED] at hop
     |_=>rw [hoo] at hop;simp [ED] at hop
    obtain ⟨t,as,ats,hoo,hcy,hco⟩:=hcall;have hrel:VRL im loc (OH (S i).env args) (as.toList.map a.eval):=rF (fun y hy=>hopd y (by simp [oH.opds,hy])) hco
    have hy:=hopd y (by simp [oH.opds]) (.tmp t) hcy
    simp only [EB] at hev;split at hev
    · rename_i f p q hyv
      rw [hyv] at hy;generalize hgv:a.eval (.tmp t)=gv at hy;cases hy with
      |clo _ _ _ us vs h1 h2=>
      have hargs:=(h1.append hrel).append h2;have hrun:(execOp a.eval o).run P w=(callFunc f ⟨us++as.toList.map a.eval++vs⟩).run P w:=by
       have:(⟨us++as.toList.map a.eval++vs⟩:Array Value)=(⟨us⟩++as.map a.eval)++⟨vs⟩:=by apply fy;simp
       rw [this];simp [execOp,hoo,resolve,hgv,Deferred.ofValue,invoke]
      split at hev
      · exact shr_call hev hargs hrun
      rw [bw] at hev
      obtain ⟨r,hr1,hr2⟩:=hev;exact loc_call hr2.symm hr1 hargs hrun
    cases hev
   |_=>
    rw [hxo] at hev;simp only [EB,bw] at hev;obtain ⟨r,hr1,hr2⟩:=hev;exact loc_op hr2.symm (by rw [hxo];exact hr1)
 rw [S4 hg hgs hw]
 simp only [ci,if_false];exact hK _ _ _ _ (hdst▸hv.step_skip hr ho hp hx hX hS hd)
end
end Go.Vm
/- A region, in the order of the text or in a drawn one. -/
namespace Go.Vm
def B4 (P:Program) (prims:FuncId->Bool) (nt:Nat) (mops:Array Oper):List cE->List Oper->Bool
 | [],[]=>true
 |x::xs,o::os=>xQ P prims nt mops x o&&B4 P prims nt mops xs os
 |_,_=>false
theorem JS {P:Program} {prims:FuncId->Bool} {nt:Nat} {mops:Array Oper}: ∀{xs:List cE} {os:List Oper},B4 P prims nt mops xs os=true->
 xs.length=os.length/\ ∀(i:Nat) (x:cE) (o:Oper),xs[i]? =some x->os[i]? =some o->xQ P prims nt mops x o=true
 | [],[],_=>⟨rfl,fun i x o h=>by simp at h⟩
 |x::xs,o::os,h=>by
  simp only [B4,bq] at h;obtain ⟨h1,h2⟩:=JS h.2;refine ⟨by simp [h1],fun i y p hy hp=>?_⟩
  cases i with
  |zero=>simp at hy hp;subst hy hp;exact h.1
  |succ i=>exact h2 i y p (by simpa using hy) (by simpa using hp)
 | [],_::_,h=>by simp [B4] at h
 |_::_,[],h=>by simp [B4] at h
def bit (m i:Nat):Bool:=Nat.testBit m i
def rH (masks:List Nat) (j:Nat):List Edge->Option Nat
 | []=>some 0
 |e::es=>match rH masks j es with
  |some m=>if Region.binds .any e then (if dt e.on j then some (m|||((masks.getD e.on 0)|||(1<<<e.on))) else none) else some m
  |none=>none
def B5 (masks:List Nat):Nat->List Nat->List Oper->Bool
 |_,[],[]=>true
 |j,m::ms,o::os=>(match rH masks j o.after.toList with|some m'=>m==m'|none=>false)&&B5 masks (j+1) ms os
 |_,_,_=>false
def B6 (i : Nat) (x : cE) (ux : List Nat) : List cE -> List Nat -> Bool
  | [], _ => true
  | y :: ys, m :: ms => (bit m i || ((match x.dst with
      | some d => !has (uses y) d && (match y.dst with | some d' => !(bu d d') | none => true)
      | none => true) && (match y.dst with | some d => !has ux d | none => true))) && B6 i x ux ys ms
  | _ :: _, [] => false
def B7:Nat->List cE->List Nat->Bool
 |_,[],_=>true
 |i,x::xs,_::ms=>B6 i x (uses x) xs ms&&B7 (i+1) xs ms
 |_,_::_,[]=>false
def LR (P:Program) (prims:FuncId->Bool) (nt:Nat) (draw:Option (List Nat)) (xops:List cE) (mops:Array Oper) (flag:Bool):Bool:=
 B4 P prims nt mops xops mops.toList&&match draw with
 |none=>!flag
 |some bf=>flag&&bu bf.length xops.length&&B5 bf 0 bf mops.toList&&B7 0 xops bf
section
variable {P : Program} {F : qT} {rec : mT -> Option zS} {ops : List cE} {S : Nat -> St} {X : Nat -> Option XR} {bef : Nat -> Nat -> Prop} {im0 : Im} {loc0 : dV} {w0 : World} {nt : Nat}
  {done : Nat -> Prop} {im : Im} {loc : dV} {a : Act} {w : World} {i : Nat} {prims : FuncId -> Bool} {mops : Array Oper}
theorem JH.text:JH ops S X (· < ·) where
 slot1:=fun _ _ _ _ _ h _ _ _ _=>h
 slot2:=fun _ _ _ _ _ h _ _ _ _=>h
 tok1:=fun _ _ _ h _ _ _=>h
 tok2:=fun _ _ _ h _ _ _=>h
 tok3:=fun _ _ _ h _ _ _ _ _ _=>h
 bar:=fun _ _ h _ _=>h
 cl:=fun _ _ _ _ _=> .inr fun _ h _=>h
theorem O2 (hE:UU P F rec) (hr:E9 F rec ops S X) (hc: ∀(i:Nat) (x:cE) (o:Oper),ops[i]? =some x->mops[i]? =some o->xQ P prims nt mops x o=true) (hlen:ops.length=mops.size)
 {Q:Exit->Act->World->Prop} (hQ: ∀im loc a w,CP ops S X im0 loc0 w0 nt (fun i=>i<ops.length) im loc a w->Q .normal a w):
 ∀(d n:Nat) (im:Im) (loc:dV) (a:Act) (w:World),n+d=ops.length->CP ops S X im0 loc0 w0 nt (fun i=>i<n) im loc a w->wpOps P mops Q (List.range' n d) a w
 |0,n,im,loc,a,w,hn,hv=>by
  have:n=ops.length:=by omega
  subst this;exact hQ im loc a w hv
 |d+1,n,im,loc,a,w,hn,hv=>by
  rw [List.range'_succ,wpOps_cons];have hx:=bo (show n<ops.length by omega)
  have ho:=d8 (show n<mops.size by omega)
  refine CP.wpOp hE hr JH.text hv {lt:=by omega,nd:=by omega,pre:=fun j _ h=>h,clo:=fun k _ h1 j _ h2=>by omega} hx ho (hc n _ _ hx ho) fun im' loc' a' w' h'=>?_
  refine O2 hE hr hc hlen hQ d (n+1) im' loc' a' w' (by omega) ?_
  have e:CY (fun i=>i<n) n=fun i=>i<n+1:=by
   funext j;unfold CY;apply propext;omega
  rw [e] at h';exact h'
def Bef (masks:List Nat) (i j:Nat):Prop:=bit (masks.getD j 0) i=true
theorem C1 {masks:List Nat} {j:Nat}: ∀{es:List Edge} {m:Nat},rH masks j es=some m->(∀e∈es,Region.binds .any e=true->e.on<j)/\
 ∀i,bit m i=true-> ∃e∈es,Region.binds .any e=true/\(e.on=i\/bit (masks.getD e.on 0) i=true)
 | [],m,h=>by
  simp only [rH,bn] at h;subst h;exact ⟨fun e h=>(by cases h),fun i h=>by simp [bit] at h⟩
 |e::es,m,h=>by
  simp only [rH] at h;split at h
  · rename_i m' hm'
    obtain ⟨h1,h2⟩:=C1 hm';split at h
    · rename_i hb
      split at h
      · rename_i hlt
        injection h with h;subst h;refine ⟨fun e' he' hb'=>?_,fun i hi=>?_⟩
        · rcases dp.1 he' with rfl|he'
          · simpa using hlt
          exact h1 e' he' hb'
        simp only [bit,Nat.testBit_or,eg] at hi
        rcases hi with hi|hi|hi
        · obtain ⟨e',he',h3⟩:=h2 i hi
          exact ⟨e',dv _ he',h3⟩
        · exact ⟨e,by simp,hb,.inr hi⟩
        refine ⟨e,by simp,hb,.inl ?_⟩
        rw [Nat.one_shiftLeft,Nat.testBit_two_pow] at hi;simpa using hi
      cases h
    rename_i hb
    injection h with h;subst h;refine ⟨fun e' he' hb'=>?_,fun i hi=>?_⟩
    · rcases dp.1 he' with rfl|he'
      · exact absurd hb' hb
      exact h1 e' he' hb'
    obtain ⟨e',he',h3⟩:=h2 i hi
    exact ⟨e',dv _ he',h3⟩
  cases h
theorem M1 {masks:List Nat}: ∀{j:Nat} {ms:List Nat} {os:List Oper},B5 masks j ms os=true->ms.length=os.length/\
 ∀(k:Nat) (m:Nat) (o:Oper),ms[k]? =some m->os[k]? =some o->rH masks (j+k) o.after.toList=some m
 |j,[],[],_=>⟨rfl,fun k m o h=>by simp at h⟩
 |j,m::ms,o::os,h=>by
  simp only [B5,bq] at h;obtain ⟨h1,h2⟩:=h;obtain ⟨h3,h4⟩:=M1 h2;refine ⟨by simp [h3],fun k m' o' hm ho=>?_⟩
  cases k with
  |zero=>
   simp at hm ho;subst hm ho;split at h1
   · rename_i m2 hm2
     have:m=m2:=by simpa using h1
     subst this;exact hm2
   cases h1
  |succ k=>
   have:=h4 k m' o' (by simpa using hm) (by simpa using ho)
   rw [show j+(k+1)=j+1+k by omega];exact this
 |j,[],_::_,h=>by simp [B5] at h
 |j,_::_,[],h=>by simp [B5] at h
theorem JT {i:Nat} {x:cE} {ux:List Nat}: ∀{ys:List cE} {ms:List Nat},B6 i x ux ys ms=true-> ∀(k:Nat) (y:cE),ys[k]? =some y->
 bit (ms.getD k 0) i=true\/((∀d,x.dst=some d->d∉uses y/\y.dst≠some d)/\ ∀d,y.dst=some d->d∉ux)
 | [],_,_,k,y,h=>by simp at h
 |z::ys,[],h,k,y,hy=>by simp [B6] at h
 |z::ys,m::ms,h,k,y,hy=>by
  simp only [B6,bq,eg] at h;obtain ⟨h1,h2⟩:=h;cases k with
  |succ k=>simpa using JT h2 k y (by simpa using hy)
  |zero=>
   simp at hy;subst hy;rcases h1 with h1|⟨h1,h3⟩
   · exact .inl (by simpa using h1)
   refine .inr ⟨fun d hd=>?_,fun d hd=>?_⟩
   · rw [hd] at h1
     simp only [bq,cj] at h1;refine ⟨mD.1 h1.1,fun hz=>?_⟩
     rw [hz] at h1;simp at h1
   rw [hd] at h3
   simp only [cj] at h3;exact mD.1 h3
theorem FA: ∀{i0:Nat} {xs:List cE} {ms:List Nat},B7 i0 xs ms=true-> ∀(i j:Nat) (x y:cE),i<j->xs[i]? =some x->xs[j]? =some y->
 bit (ms.getD j 0) (i0+i)=true\/((∀d,x.dst=some d->d∉uses y/\y.dst≠some d)/\ ∀d,y.dst=some d->d∉uses x)
 |i0,[],_,_,i,j,x,y,_,hx,_=>by simp at hx
 |i0,z::xs,[],h,i,j,x,y,_,hx,_=>by simp [B7] at h
 |i0,z::xs,m::ms,h,i,j,x,y,hij,hx,hy=>by
  simp only [B7,bq] at h;obtain ⟨h1,h2⟩:=h;cases j with
  |zero=>omega
  |succ j=>
   cases i with
   |zero=>
    simp at hx;subst hx;simpa using JT h1 j y (by simpa using hy)
   |succ i=>
    have:=FA h2 i j x y (by omega) (by simpa using hx) (by simpa using hy)
    rw [show i0+(i+1)=i0+1+i by omega]
    simpa using this
theorem S5 {i:Nat} {t:Tr}: ∀{l:List (Tr×Nat)},UK i t l=true-> ∀(k:Nat) (b:Tr) (m:Nat),l[k]? =some (b,m)->t.clash b=true->bit m i=true
 | [],_,k,b,m,h,_=>by simp at h
 |(b',m')::r,h,k,b,m,hk,hc=>by
  simp only [UK,bq,eg,cj] at h;cases k with
  |zero=>
   simp at hk;obtain ⟨rfl,rfl⟩:=hk;rcases h.1 with h1|h1
   · rw [hc] at h1;cases h1
   exact h1
  |succ k=>exact S5 h.2 k b m (by simpa using hk) hc
theorem O3: ∀{i0:Nat} {l:List (Tr×Nat)},xO i0 l=true->(∀(i:Nat) (t:Tr) (m:Nat),l[i]? =some (t,m)->t.cl=true)/\
 ∀(i j:Nat) (t b:Tr) (m m':Nat),i<j->l[i]? =some (t,m)->l[j]? =some (b,m')->t.clash b=true->bit m' (i0+i)=true
 |_,[],_=>⟨fun i t m h=>by simp at h,fun i j t b m m' _ h=>by simp at h⟩
 |i0,(t0,m0)::r,h=>by
  simp only [xO,bq] at h;obtain ⟨⟨h1,h2⟩,h3⟩:=h;obtain ⟨h4,h5⟩:=O3 h3;refine ⟨fun i t m hi=>?_,fun i j t b m m' hij hi hj hc=>?_⟩
  · cases i with
    |zero=>simp at hi;obtain ⟨rfl,rfl⟩:=hi;exact h1
    |succ i=>exact h4 i t m (by simpa using hi)
  cases j with
  |zero=>omega
  |succ j=>
   cases i with
   |zero=>
    simp at hi;obtain ⟨rfl,rfl⟩:=hi;exact S5 h2 j b m' (by simpa using hj) hc
   |succ i=>
    rw [show i0+(i+1)=i0+1+i by omega]
    exact h5 i j t b m m' (by omega) (by simpa using hi) (by simpa using hj) hc
theorem O4 {l m:List Nat} {t:Nat} (h1:t∈l) (h2:t∈m):meets l m=true:=by
 unfold meets;rw [fv];exact ⟨t,h1,uS.2 h2⟩
theorem JH.drawn (hr : E9 F rec ops S X) {masks : List Nat} (hml : masks.length = ops.length) (hs : B7 0 ops masks = true) (ho : xO 0 ((HE S X ops.length).zip masks) = true) : JH ops S X (Bef masks) := by
  obtain ⟨hcl, hcz⟩ := O3 ho
  have hget : ∀ i, i < ops.length -> ((HE S X ops.length).zip masks)[i]? = some (HA (X i) (S i), masks.getD i 0) := by
    intro i hi
    rw [List.getElem?_zip_eq_some]
    refine ⟨?_, ?_⟩
    · unfold HE; simp [hi]
    rw [d6, bo (by omega)]; rfl
  have clash : ∀ i j, i < j -> j < ops.length -> (HA (X i) (S i)).clash (HA (X j) (S j)) = true -> Bef masks i j := by
    intro i j hij hj hc
    have := hcz i j _ _ _ _ hij (hget i (by omega)) (hget j hj) hc
    unfold Bef; simpa using this
  have tch : ∀ j, touches X j -> (HA (X j) (S j)).touches = true := by
    intro j h
    unfold touches at h
    unfold HA
    cases hX : X j with
    | none => rw [hX] at h; exact h.elim
    | some x =>
      rw [hX] at h
      cases x with
      | shr v s z => rfl
      | loc r =>
        simp only [XR.tr, Tr.touches, Bool.or_false]
        rcases h with h | h | h | h
        · cases hrd : r.rd with
          | nil => exact absurd hrd h
          | cons _ _ => simp
        · cases hrd : r.fr with
          | nil => exact absurd hrd h
          | cons _ _ => simp
        · cases hrd : r.wr with
          | nil => exact absurd hrd h
          | cons _ _ => simp
        cases hrd : r.news with
        | nil => exact absurd hrd h
        | cons _ _ => simp
  have brr : ∀ j, xH X j -> (HA (X j) (S j)).bar = true := by
    rintro j ⟨v, s, z, h⟩; rw [h]; rfl
  have tW : ∀ j t, W X j t -> touches X j := fun j t h => CZ h
  have tA : ∀ j t, A X j t -> touches X j := by
    intro j t h
    unfold A at h; unfold touches
    cases hX : X j with
    | none => rw [hX] at h; exact h.elim
    | some x =>
      rw [hX] at h
      cases x with
      | shr v s z => exact h.elim
      | loc r =>
        rcases h with h | h
        · exact .inl (by intro e; rw [e] at h; cases h)
        exact .inr (.inl (by intro e; rw [e] at h; cases h))
  have bar : ∀ i j, i < j -> j < ops.length -> (xH X i /\ touches X j \/ touches X i /\ xH X j) -> Bef masks i j := by
    intro i j hij hj h
    refine clash i j hij hj ?_
    unfold Tr.clash
    rcases h with ⟨h1, h2⟩ | ⟨h1, h2⟩
    · rw [brr i h1, tch j h2]; simp
    rw [brr j h2, tch i h1]; simp
  have wrT : ∀ j t, W X j t -> ¬ xH X j -> t ∈ (HA (X j) (S j)).wr := by
    intro j t h hn
    unfold W at h
    cases hX : X j with
    | none => rw [hX] at h; exact h.elim
    | some x =>
      rw [hX] at h
      cases x with
      | shr v s z => exact absurd ⟨v, s, z, hX⟩ hn
      | loc r =>
        obtain ⟨k, hk⟩ := h
        exact List.mem_map.2 ⟨(t, k), hk, rfl⟩
  have rdT : ∀ j t, A X j t -> t ∈ (HA (X j) (S j)).rd := by
    intro j t h
    unfold A at h
    cases hX : X j with
    | none => rw [hX] at h; exact h.elim
    | some x =>
      rw [hX] at h
      cases x with
      | shr v s z => exact h.elim
      | loc r => exact c9.2 h
  exact {
    slot1 := fun i j t x y hij hx hy hd hu => by
      rcases FA hs i j x y hij hx hy with h | ⟨h, _⟩
      · unfold Bef; simpa using h
      rcases hu with hu | hu
      · exact absurd hu (h t hd).1
      exact absurd hu (h t hd).2
    slot2 := fun i j t x y hij hx hy hd hu => by
      rcases FA hs i j x y hij hx hy with h | ⟨_, h⟩
      · unfold Bef; simpa using h
      exact absurd hu (h t hd)
    tok1 := fun i j t hij hj hW hAW => by
      by_cases hi : xH X i
      · exact bar i j hij hj (.inl ⟨hi, hAW.elim (tA j t) (tW j t)⟩)
      by_cases hsj : xH X j
      · exact bar i j hij hj (.inr ⟨tW i t hW, hsj⟩)
      refine clash i j hij hj ?_
      unfold Tr.clash
      rcases hAW with h | h
      · rw [O4 (wrT i t hW hi) (rdT j t h)]; simp
      rw [O4 (wrT i t hW hi) (wrT j t h hsj)]; simp
    tok2 := fun i j t hij hj hA hW => by
      by_cases hsj : xH X j
      · exact bar i j hij hj (.inr ⟨tA i t hA, hsj⟩)
      refine clash i j hij hj ?_
      unfold Tr.clash
      rw [O4 (rdT i t hA) (wrT j t hW hsj)]; simp
    tok3 := fun i j t hij hj hsi h1 h2 hsj hW => by
      refine clash i j hij hj ?_
      unfold Tr.clash
      have : ((HA (X j) (S j)).wr.any fun t => cz (HA (X i) (S i)).lo t && dt t (HA (X i) (S i)).hi) = true := by
        rw [fv]
        refine ⟨t, wrT j t hW hsj, ?_⟩
        rcases hr.steps i _ (bo (show i < ops.length by omega)) with ⟨_, x, hx, _, hX, hn⟩ | ⟨_, hX, hn⟩
        · cases x with
          | shr v s z => exact absurd ⟨v, s, z, hX⟩ hsi
          | loc r =>
            rw [hn, C0] at h2
            rw [hX]
            simp only [HA, XR.tr, bq, d5]
            exact ⟨h1, by simpa using h2⟩
        rw [hn] at h2; dsimp only at h2; omega
      rw [this]; simp
    bar := bar
    cl := fun i t hi hsi hAW => by
      left
      have hc := hcl i _ _ (hget i hi)
      cases hX : X i with
      | none => rcases hAW with h | h
                · unfold A at h; rw [hX] at h; exact h.elim
                unfold W at h; rw [hX] at h; exact h.elim
      | some x =>
        cases x with
        | shr v s z => exact absurd ⟨v, s, z, hX⟩ hsi
        | loc r =>
          have hb : ∀ u v : Nat, dt u v = true -> u < v := fun u v h => by simpa using h
          rw [hX] at hc
          simp only [HA, XR.tr, bq, db] at hc
          rcases hAW with h | h
          · unfold A at h; rw [hX] at h
            exact hb _ _ (hc.1 t (c9.2 h))
          unfold W at h; rw [hX] at h
          obtain ⟨k, hk⟩ := h
          exact hb _ _ (hc.2 (t, k) hk) }
end
end Go.Vm
/- A region: the theorem. -/
namespace Go.Vm
section
variable {P : Program} {F : qT} {rec : mT -> Option zS} {ops : List cE} {S : Nat -> St} {X : Nat -> Option XR} {im0 : Im} {loc0 : dV} {w0 : World} {nt : Nat}
  {im : Im} {loc : dV} {a : Act} {w : World} {i : Nat} {prims : FuncId -> Bool} {mops : Array Oper} {masks : List Nat}
def nG (l:Array Bool) (i:Nat):Prop:=l.getD i false=true
theorem XP (hE:UU P F rec) (hr:E9 F rec ops S X) (ho:JH ops S X (Bef masks)) (hc: ∀(i:Nat) (x:cE) (o:Oper),ops[i]? =some x->mops[i]? =some o->xQ P prims nt mops x o=true) (hlen:ops.length=mops.size)
 (hm: ∀(k:Nat) (o:Oper),mops[k]? =some o->rH masks k o.after.toList=some (masks.getD k 0))
 {Q:Exit->Act->World->Prop} (hQ: ∀im loc a w (done:Nat->Prop),(∀i,i<ops.length->done i)->CP ops S X im0 loc0 w0 nt done im loc a w->Q .normal a w):
 ∀(fuel:Nat) (l:Array Bool) (im:Im) (loc:dV) (a:Act) (w:World),l.size=ops.length->fuel+l.toList.count true=ops.length->(∀k j,nG l k->Bef masks j k->nG l j)->
  CP ops S X im0 loc0 w0 nt (nG l) im loc a w->wpAny P .any mops Q fuel l a w:=by
 have full: ∀l:Array Bool,l.size=ops.length->Region.ready .any mops l=[]-> ∀i,i<ops.length->nG l i:=by
  intro l hl hnil i
  induction i using Nat.strongRecOn with
  |_ i ih=>
   intro hi
   by_cases h:nG l i
   · exact h
   exfalso
   have hmem:i∈Region.ready .any mops l:=by
    rw [mem_ready];have ho:=d8 (show i<mops.size by omega)
    refine ⟨?_,_,ho,fun e he hb=>?_⟩
    · unfold nG at h
      have hlt:i<l.size:=by omega
      simp [hlt] at h ⊢;exact h
    have:=(C1 (hm i _ ho)).1 e (by simpa using he) hb
    exact ih e.on this (by omega)
   rw [hnil] at hmem;cases hmem
 intro fuel
 induction fuel with
 |zero=>
  intro l im loc a w hl hcnt hclo hv;have hall: ∀b∈l.toList,true=b:=by
   have:l.toList.count true=l.toList.length:=by simp only [Array.length_toList];omega
   exact List.count_eq_length.1 this
  have hfull: ∀i,i<ops.length->nG l i:=by
   intro i hi;have hlt:i<l.size:=by omega
   have:=hall (l[i]) (by simp)
   unfold nG;simp [hlt,<- this]
  refine ⟨?_,hQ im loc a w _ hfull hv⟩;cases hrd:Region.ready .any mops l with
  |nil=>rfl
  |cons x xs=>
   exfalso;have hmem:x∈Region.ready .any mops l:=by rw [hrd];simp
   obtain ⟨h0,o,hox,_⟩:=mem_ready.1 hmem;have hlt:=(ce.1 hox).1
   have:=hfull x (by omega)
   unfold nG at this;have hlt':x<l.size:=by omega
   simp [hlt'] at this h0;rw [this] at h0;cases h0
 |succ fuel ih=>
  intro l im loc a w hl hcnt hclo hv;refine ⟨fun hnil=>hQ im loc a w _ (full l hl hnil) hv,fun i hi=>?_⟩
  obtain ⟨h0,o,hox,hall⟩:=mem_ready.1 hi;have hlt:=(ce.1 hox).1;have hlt':i<l.size:=by omega
  have hx:=bo (show i<ops.length by omega)
  have hpre: ∀j,Bef masks j i->nG l j:=by
   intro j hj;obtain ⟨e,he,hb,h⟩:=(C1 (hm i o hox)).2 j hj;have hle:nG l e.on:=hall e (by simpa using he) hb
   rcases h with rfl|h
   · exact hle
   exact hclo _ _ hle h
  have hnd: ¬nG l i:=by
   unfold nG;simp [hlt'] at h0 ⊢;exact h0
  refine CP.wpOp hE hr ho hv {lt:=by omega,nd:=hnd,pre:=fun j _ h=>hpre j h,clo:=fun k _ h1 j _ h2=>hclo k j h1 h2} hx hox (hc i _ _ hx hox) fun im' loc' a' w' h'=>?_
  have e:CY (nG l) i=nG (l.setIfInBounds i true):=by
   funext j
   apply propext;unfold CY nG
   by_cases hij:i=j
   · subst hij;simp [hlt']
   simp only [getD_set_ne false hij]
   exact ⟨fun h=>h.elim id fun h=>absurd h.symm hij,.inl⟩
  rw [e] at h';refine ih _ im' loc' a' w' (by simpa using hl) ?_ ?_ h'
  · rw [Array.toList_setIfInBounds,List.count_set (by simpa using hlt')]
    have:l.toList[i]=false:=by simp [hlt'] at h0;simpa using h0
    rw [this];simp only [Array.count_toList] at hcnt ⊢;simp;omega
  intro k j hk hj
  rw [<- e] at hk ⊢;rcases hk with hk|rfl
  · exact .inl (hclo k j hk hj)
  exact .inl (hpre j hj)
theorem ER.keep {st:zQ} {keep:List Nat} (h:ER im loc st a.tmps):ER im loc (keep.map fun s=>(s,lk s st)) a.tmps:=by
 intro t
 have:lk t (keep.map fun s=>(s,lk s st))=lk t st\/lk t (keep.map fun s=>(s,lk s st))= .undef:=by
  induction keep with
  |nil=>exact .inr rfl
  |cons s r ih=>
   simp only [List.map_cons,xP];split
   · rename_i e;subst e;exact .inl rfl
   exact ih
 rcases this with h'|h'
 · rw [h'];exact h t
 rw [h'];exact .undef _
structure EH (im:Im) (loc:dV) (nt:Nat) (st:St) (a:Act):Prop where
 env:ER im loc st.env a.tmps
 defers:a.defers=[]
 nts:a.tmps.size=nt
theorem SF.world {sto0 : dC} {st : St} {w1 : World} (h : SF im0 loc0 sto0 w1 st im loc w) (hh : w1.heap = w0.heap) (ho : w1.os = w0.os) (ht : w1.tape = w0.tape) (hp : w1.output = w0.output) : SF im0 loc0 sto0 w0 st im loc w :=
  { sr := h.sr, imle := h.imle, locle := h.locle, os := h.os.trans ho, tape := h.tape.trans ht, output := h.output.trans hp, size := by have := h.size; rw [hh] at this; exact this
    frame := by have := h.frame; rw [hh] at this; exact this
    imnew := by have := h.imnew; rw [hh] at this; exact this
    locs := h.locs
    own := by have := h.own; rw [hh] at this; exact this }
theorem SR.world {sto:dC} {fz:List Nat} {w1:World} (h:SR im loc sto fz w) (hh:w1.heap=w.heap):SR im loc sto fz w1 where
 im_ok:=by rw [hh];exact h.im_ok
 blk:=fun t li hl=>let ⟨k,h1,h2⟩:=h.blk t li hl;⟨k,h1,h2.mono (.refl _) (.refl _) (by rw [hh])⟩
 excl:=h.excl
 free:=h.free
theorem aAE (hE:UU P F rec) (hmix:P.follows .mixedOrders=true) {draw:Option (List Nat)} {keep:List Nat} {id:Nat} {flag:Bool} {st st':St}
 (hc:LR P prims nt draw ops mops flag=true) (hev:oK F rec draw ops keep st=some st') (hsr:SR im0 loc0 st.sto st.fz w0) (ha:EH im0 loc0 nt st a) {Q:Exit->Act->World->Prop}
 (hQ: ∀im loc a' w',SF im0 loc0 st.sto w0 st' im loc w'->EH im loc nt st' a'->Q .normal a' w'):(Code.region id mops flag).wp P Q a w0:=by
 unfold LR at hc;simp only [bq] at hc;obtain ⟨hops,hd⟩:=hc;obtain ⟨hlen,hchk⟩:=JS hops;have hlen:ops.length=mops.size:=by simpa using hlen
 have hchk: ∀(i:Nat) (x:cE) (o:Oper),ops[i]? =some x->mops[i]? =some o->xQ P prims nt mops x o=true:=fun i x o hx ho=>hchk i x o hx (by simpa using ho)
 unfold oK at hev;cases he:qA F rec ops st [] with
 |none=>rw [he] at hev;cases hev
 |some q=>
  obtain ⟨st1,tr⟩:=q;rw [he] at hev;dsimp only at hev;obtain ⟨S,X,h0,hn,hr,htr⟩:=LO ops st [] st1 tr he;have fin: ∀(w1:World),w1.heap=w0.heap->w1.os=w0.os->w1.tape=w0.tape->w1.output=w0.output->st'={st1 with env:=keep.map fun s=>(s,lk s st1.env)}-> ∀im loc a' w' (done:Nat->Prop),(∀i,i<ops.length->done i)->
   CP ops S X im0 loc0 w1 nt done im loc a' w'->Q .normal a' w':=by
   intro w1 q1 q2 q3 q4 hst im loc a' w' done hdn hv;obtain ⟨hk,her,hdf,hns⟩:=hv.finish hr hdn;rw [hn] at hk her;rw [h0] at hk;subst hst;have hk:=hk.world q1 q2 q3 q4;exact hQ im loc a' w' {sr:=hk.sr,imle:=hk.imle,locle:=hk.locle,os:=hk.os,tape:=hk.tape,output:=hk.output,size:=hk.size,frame:=hk.frame,imnew:=hk.imnew,locs:=hk.locs,own:=hk.own} ⟨her.keep,hdf,hns⟩
  cases draw with
  |none=>
   dsimp only at hd hev
   have:flag=false:=by simpa using hd
   subst this;injection hev with hev;refine wp_region ?_;rw [List.range_eq_range'];refine O2 hE hr hchk hlen (fun im loc a w hv=>fin w0 rfl rfl rfl rfl hev.symm im loc a w _ (fun i h=>h) hv) mops.size 0 im0 loc0 a w0 (by omega) ?_
   have:=CP.start (ops:=ops) (X:=X) (w0:=w0) h0 hsr ha.env ha.defers ha.nts hr
   have e:(fun _:Nat=>False)=fun i=>i<0:=by funext i;apply propext;exact ⟨fun h=>h.elim,fun h=>by omega⟩
   rw [e] at this;exact this
  |some bf=>
   dsimp only at hd hev;simp only [bq] at hd;obtain ⟨⟨⟨rfl,hbl⟩,hmk⟩,hsl⟩:=hd;have hbl:bf.length=ops.length:=by simpa using hbl
   split at hev
   · rename_i hoo
     injection hev with hev;have htr':tr.reverse=HE S X ops.length:=by rw [htr];simp
     rw [htr'] at hoo;obtain ⟨_,hmk⟩:=M1 hmk;refine wp_region_any hmix ?_;refine XP (w0:={w0 with drawn:=w0.drawn+1}) (im0:=im0) (loc0:=loc0) hE hr (JH.drawn hr hbl hsl hoo) hchk hlen ?_ (fun im loc a w done hdn hv=>fin {w0 with drawn:=w0.drawn+1} rfl rfl rfl rfl hev.symm im loc a w done hdn hv) mops.size _ im0 loc0 a _ (by simp [hlen]) ?_ ?_ ?_
     · intro k o ho
       have hlt:=(ce.1 ho).1;have hk:bf[k]? =some (bf.getD k 0):=by
        rw [d6,bo (by omega)];rfl
       simpa using hmk k _ o hk (by simpa using ho)
     · simp [hlen,List.count_replicate]
     · intro k j h
       unfold nG at h
       by_cases hk:k<mops.size<;>simp [hk] at h
     have:=CP.start (ops:=ops) (X:=X) (w0:={w0 with drawn:=w0.drawn+1}) h0 (hsr.world rfl) ha.env ha.defers ha.nts hr
     have e:(fun _:Nat=>False)=nG (dh mops.size false):=by
      funext i;apply propext
      unfold nG
      by_cases hk:i<mops.size<;>simp [hk]
     rw [e] at this;exact this
   cases hev
end
end Go.Vm
/- What a function keeps from its beginning on; the head of a loop. -/
namespace Go.Vm
theorem SF.trans {im0 im1 im2:Im} {loc0 loc1 loc2:dV} {sto0:dC} {w0 w1 w2:World} {st1 st2:St} (h1:SF im0 loc0 sto0 w0 st1 im1 loc1 w1) (h2:SF im1 loc1 st1.sto w1 st2 im2 loc2 w2) (hl:sto0.length<=st1.sto.length):
 SF im0 loc0 sto0 w0 st2 im2 loc2 w2 where
 sr:=h2.sr
 imle:=h1.imle.trans h2.imle
 locle:=h1.locle.trans h2.locle
 os:=h2.os.trans h1.os
 tape:=h2.tape.trans h1.tape
 output:=h2.output.trans h1.output
 size:=cu h1.size h2.size
 frame:=fun b hb hh=>by
  rw [h2.frame b (di hb h1.size) fun t li k hl hs hsol hbb=>?_]
  · exact h1.frame b hb hh
  rcases h1.own t li k hl hs hsol with h|⟨u,lu,ku,g1,g2,g3,g4⟩
  · omega
  exact hh u lu ku g1 g2 g3 (by omega)
 imnew:=fun b o hb=>by
  rcases h2.imnew b o hb with h|h|⟨t,li,k,g1,g2,g3,g4⟩
  · exact h1.imnew b o h
  · exact .inr (.inl (cu h1.size h))
  rcases h1.own t li k g1 g2 g3 with h|⟨u,lu,ku,k1,k2,k3,k4⟩
  · exact .inr (.inl (by omega))
  exact .inr (.inr ⟨u,lu,ku,k1,k2,k3,by omega⟩)
 locs:=fun t li h=>by
  rcases h2.locs t li h with h|h
  · exact h1.locs t li h
  exact .inr (cu hl h)
 own:=fun t li k hl hs hsol=>by
  rcases h2.own t li k hl hs hsol with h|⟨u,lu,ku,g1,g2,g3,g4⟩
  · exact .inl (cu h1.size h)
  rcases h1.own u lu ku g1 g2 g3 with h|⟨u',lu',ku',k1,k2,k3,k4⟩
  · exact .inl (by omega)
  exact .inr ⟨u',lu',ku',k1,k2,k3,by omega⟩
structure HF (im0:Im) (loc0:dV) (sto0:dC) (w0:World) (st:St) (im:Im) (loc:dV) (w:World):Prop where
 kept:SF im0 loc0 sto0 w0 st im loc w
 kn:st.kn=sto0.length
 len:sto0.length<=st.sto.length
 dom: ∀t li,loc0 t=some li->t<sto0.length
theorem O5 {F:qT} {rec:mT->Option zS}: ∀(ops:List cE) (st:St) (tr:List Tr) (st':St) (tr':List Tr),qA F rec ops st tr=some (st',tr')->st'.kn=st.kn
 | [],st,tr,st',tr',h=>by simp only [qA,bn,bv] at h;rw [h.1]
 |o::l,st,tr,st',tr',h=>by
  simp only [qA] at h;split at h
  · split at h
    · rename_i x hx
      split at h
      · have:=O5 l _ _ st' tr' h
        rw [this];cases x<;>rfl
      cases h
    cases h
  · have:=O5 l _ _ st' tr' h
    exact this
  cases h
theorem UV {F:qT} {rec:mT->Option zS} {draw:Option (List Nat)} {ops:List cE} {keep:List Nat} {st st':St} (h:oK F rec draw ops keep st=some st'):st'.kn=st.kn/\st.sto.length<=st'.sto.length:=by
 unfold oK at h;cases he:qA F rec ops st [] with
 |none=>rw [he] at h;cases h
 |some q=>
  obtain ⟨st1,tr⟩:=q;rw [he] at h;dsimp only at h;obtain ⟨S,X,h0,hn,hr,_⟩:=LO ops st [] st1 tr he;have h1:=O5 ops st [] st1 tr he;have h2:=hr.len_mono (c8 ops.length) (cb _);rw [h0,hn] at h2;cases draw with
  |none=>dsimp only at h;injection h with h;subst h;exact ⟨h1,h2⟩
  |some bf=>
   dsimp only at h;split at h
   · injection h with h;subst h;exact ⟨h1,h2⟩
   cases h
section
variable {im : Im} {loc loc1 : dV} {m : List Nat}
theorem XQ {fz:List Nat}: ∀{l:List Nat} {i0 u t:Nat},l[u]? =some t->(i0+u)∉E0 fz i0 l->t∉fz
 | [],i0,u,t,h,_=>by simp at h
 |s::r,i0,u,t,h,hn=>by
  simp only [E0] at hn;cases u with
  |zero=>
   simp at h;subst h;intro hf;rw [if_pos (uS.2 hf)] at hn;exact hn (by simp)
  |succ u=>
   refine XQ (l:=r) (i0:=i0+1) (u:=u) (by simpa using h) fun hmem=>?_
   rw [show i0+(u+1)=i0+1+u by omega] at hn
   split at hn
   · exact hn (dv _ hmem)
   exact hn hmem
theorem O6 {sto:dC}: ∀{n:Nat} {ts seen:List Nat} {m:List Nat},JI sto n ts seen=some m->(∃l,m=seen++l)/\(seen.Nodup->m.Nodup)
 |_,[],seen,m,h=>by
  have h:some seen=some m:=by rw [<- h];unfold JI;cases ‹Nat› <;>rfl
  injection h with h;subst h;exact ⟨⟨[],by simp⟩,id⟩
 |0,_::_,seen,m,h=>by simp [JI] at h
 |n+1,t::ts,seen,m,h=>by
  simp only [JI] at h;split at h
  · exact O6 h
  rename_i hn
  split at h
  · obtain ⟨⟨l,hl⟩,h2⟩:=O6 h
    refine ⟨⟨t::l,by rw [hl];simp⟩,fun hd=>h2 ?_⟩
    rw [fq];refine ⟨hd,by simp,fun a ha b hb=>?_⟩
    have:b=t:=by simpa using hb
    subst this;intro e;subst e;exact hn (uS.2 ha)
  cases h
theorem XS: ∀{n i:Nat},i<n->(BW n)[i]? =some i
 |n+1,i,h=>by
  have hl: ∀n,(BW n).length=n:=by
   intro n;induction n with
   |zero=>rfl
   |succ n ih=>simp [BW,ih]
  simp only [BW];rcases c7 i n with h'|h'
  · rw [cd (by rw [hl];exact h')];exact XS h'
  rw [cq (by rw [hl];exact h'),hl]
  have:i=n:=by omega
  subst this;simp
theorem XT: ∀{n i:Nat},i∈BW n->i<n
 |n+1,i,h=>by
  simp only [BW,c9,dd] at h;rcases h with h|h
  · have:=XT h;omega
  omega
theorem O7: ∀n,(BW n).Nodup
 |0=>by simp [BW]
 |n+1=>by
  simp only [BW];rw [fq];refine ⟨O7 n,by simp,fun a ha b hb=>?_⟩
  have:=XT ha
  have:b=n:=by simpa using hb
  omega
end
end Go.Vm
/- The head of a loop. -/
namespace Go.Vm
def aDE (s2:dC):Prop:= ∀(j:Nat) (k:mU),s2[j]? =some k-> ∃e,k= .arr e []
theorem VR.exOff {im:Im} {loc:dV} {x:PV} {u:Value} (h:VR im loc x u): ∀k:Option Nat,VR im loc (exOff k x) u
 |none=>h
 |some _=>by
  cases h with
  |own t esz off len cap ex li a cap' hl he hn hc hx hk h=>exact .own t esz off len cap false li a cap' hl he hn hc hx (fun h=>by cases h) h
  |undef=>exact .undef _
  |nul=>exact .nul
  |int k n=>exact .int k n
  |bool b=>exact .bool b
  |str s=>exact .str s
  |agg cs vs h=>exact .agg cs vs h
  |tup cs vs h=>exact .tup cs vs h
  |sl e c r a cap h1 h2 h3=>exact .sl e c r a cap h1 h2 h3
  |ptr t e r o li h1 h2 h3=>exact .ptr t e r o li h1 h2 h3
  |rptr cs off b o vs h hv=>exact .rptr cs off b o vs h hv
  |mp t li hl=>exact .mp t li hl
  |clo fn a b as bs ha hb=>exact .clo fn a b as bs ha hb
  |nilf=>exact .nilf
theorem IJ {im:Im} {loc loc1:dV} {m:List Nat} {e:zQ} {tmps:Array Value} (hm:Ren m loc loc1) (he:ER im loc e tmps): ∀{live:List (Nat×Option Nat)} {nx:Nat} {e1:zQ} {s2:dC},xL e m nx live=some (e1,s2)->
 aDE s2/\((∀(j:Nat) (esz:Nat),s2[j]? =some (.arr esz [])->loc1 (nx+j)=some ⟨0,0,esz,0,0⟩)->ER im loc1 e1 tmps)
 | [],nx,e1,s2,h=>by
  simp only [xL,bn,bv] at h;obtain ⟨rfl,rfl⟩:=h;exact ⟨fun j k h=>by simp at h,fun _ t=> .undef _⟩
 |(s,k)::r,nx,e1,s2,h=>by
  have hs:=he s;simp only [xL] at h;split at h
  · rename_i esz e' hlk
    rw [bw] at h;obtain ⟨⟨e2,s3⟩,h1,h2⟩:=h;simp only [bv] at h2;obtain ⟨rfl,rfl⟩:=h2;obtain ⟨g1,g2⟩:=IJ hm he h1;refine ⟨fun j k hj=>?_,fun hl t=>?_⟩
    · cases j with
      |zero=>simp at hj;exact ⟨_,hj.symm⟩
      |succ j=>exact g1 j k (by simpa using hj)
    rw [xP]
    split
    · rename_i e;subst e
      rw [hlk] at hs;generalize hg:tmps.getD s Go.undef=v at hs;cases hs with
      |sl _ _ _ a cap h1 h2 h3=>
      have:cap=0:=by simpa using h2 rfl
      subst this;exact .own nx esz 0 0 0 false ⟨0,0,esz,0,0⟩ a 0 (by simpa using hl 0 esz rfl) rfl (cb _) (cb _) (cb _) (fun h=>by cases h) (.inl rfl)
    refine g2 (fun j esz' hj=>?_) t
    have:=hl (j+1) esz' (by simpa using hj)
    rw [show nx+1+j=nx+(j+1) by omega];exact this
  split at h
  · rename_i v' p h1 h2
    injection h with h;simp only [bv] at h;obtain ⟨rfl,rfl⟩:=h;obtain ⟨g1,g2⟩:=IJ hm he (e1:=p.1) (s2:=p.2) h2;refine ⟨g1,fun hl t=>?_⟩
    rw [xP];split
    · rename_i e;subst e
      exact (aEF hm hs h1).exOff _
    exact g2 hl t
  cases h
theorem VRL.setAt {im:Im} {loc:dV} {x:PV}: ∀{xs:List PV} {vs:List Value} {c:Nat} {y:PV},VRL im loc xs vs->xs[c]? =some y->(∀v,VR im loc y v->VR im loc x v)->VRL im loc (xs.set c x) vs
 | [],_,c,y,h,hc,_=>by simp at hc
 |z::zs,vs,c,y,h,hc,hx=>by
  cases h with
  |cons _ v _ us g1 g2=>
   cases c with
   |zero=>simp at hc;subst hc;exact .cons _ _ _ _ (hx v g1) g2
   |succ c=>exact .cons _ _ _ _ g1 (VRL.setAt g2 (by simpa using hc) hx)
theorem aAF {im0 im:Im} {loc0 loc:dV} {sto0:dC} {w0 w:World} {nt:Nat} {st:St} {a:Act} (t c esz:Nat) (hk:HF im0 loc0 sto0 w0 st im loc w) (ha:EH im loc nt st a):
 ∃loc1,HF im0 loc0 sto0 w0 (xM st t c esz) im loc1 w/\EH im loc1 nt (xM st t c esz) a:=by
 unfold xM;split
 · rename_i cs hb
   split
   · rename_i e hc
     have sr:=hk.kept.sr;have hdom: ∀u li,loc u=some li->u<st.sto.length:=fun u li h=>by obtain ⟨k,h1,_⟩:=sr.blk u li h;exact cZ h1
     have hn:loc st.sto.length=none:=by
      cases h:loc st.sto.length with
      |none=>rfl
      |some li=>exact absurd (hdom _ _ h) (Nat.lt_irrefl _)
     let loc1:dV:=fun u=>if u=st.sto.length then some ⟨0,0,esz,0,0⟩ else loc u
     have hle:pX loc loc1:=fun u li h=>by
      have:=hdom u li h
      simp only [loc1,show u≠st.sto.length by omega,if_false];exact h
     have back: ∀u li,loc1 u=some li->u≠st.sto.length->loc u=some li:=fun u li h hu=>by
      simpa only [loc1,hu,if_false] using h
     have htl:t<st.sto.length:=cZ hb;have get: ∀u,u<st.sto.length->(st.sto.set t (.box (cs.set c (.own st.sto.length esz 0 0 0 false)))++[.arr esz []])[u]? =if t=u then some (.box (cs.set c (.own st.sto.length esz 0 0 0 false))) else st.sto[u]?:=fun u hu=>by
      rw [cd (by simpa using hu),ft]
      split
      · rename_i e;subst e;simp
      rfl
     have getn:(st.sto.set t (.box (cs.set c (.own st.sto.length esz 0 0 0 false)))++[.arr esz []])[st.sto.length]? =some (.arr esz []):=by
      rw [cq (by simp)];simp
     have solid: ∀(u:Nat) (k:mU),(st.sto.set t (.box (cs.set c (.own st.sto.length esz 0 0 0 false)))++[.arr esz []])[u]? =some k->k.solid=true->u≠st.sto.length/\ ∃k0:mU,st.sto[u]? =some k0/\k0.solid=true:=by
      intro u k hu hs;have hlt:=cZ hu;simp only [dj,fx,List.length_singleton] at hlt;have hne:u≠st.sto.length:=by
       intro e;subst e;rw [getn] at hu;injection hu with hu;subst hu;cases hs
      refine ⟨hne,?_⟩;rw [get u (by omega)] at hu
      split at hu
      · rename_i e;subst e;exact ⟨_,hb,rfl⟩
      exact ⟨k,hu,hs⟩
     refine ⟨loc1,⟨⟨?_,hk.kept.imle,hk.kept.locle.trans hle,hk.kept.os,hk.kept.tape,hk.kept.output,hk.kept.size,hk.kept.frame,hk.kept.imnew,fun u li h=>?_,fun u li k h hs hsol=>?_⟩,hk.kn,?_,hk.dom⟩,⟨ha.env.mono (sD.refl _) hle,ha.defers,ha.nts⟩⟩
     · refine {
        im_ok:=sr.im_ok
        blk:=fun u li hl=>?_
        excl:=fun u u' li lj k k' hl hl' hs hs' hsol hsol' hbk=>?_
        free:=fun u li k hl hs hsol hz=>?_}
       · by_cases hu:u=st.sto.length
         · subst hu
           simp only [loc1,if_true] at hl;injection hl with hl;subst hl;exact ⟨_,getn,rfl,rfl,fun h=>absurd rfl h⟩
         have hl0:=back u li hl hu
         obtain ⟨k,h1,h2⟩:=sr.blk u li hl0
         show∃k,(st.sto.set t (.box (cs.set c (.own st.sto.length esz 0 0 0 false)))++[.arr esz []])[u]? =some k/\BR im loc1 w li k
         rw [get u (cZ h1)];split
         · rename_i et;subst et
           rw [hb] at h1;injection h1 with h1;subst h1;obtain ⟨g1,g2,g3,vs,el,g4,g5,g6⟩:=h2;refine ⟨_,rfl,by simpa using g1,g2,g3,vs,el,g4,g5,(g6.mono (sD.refl _) hle).setAt hc fun v hv=>?_⟩
           cases hv with
           |sl _ _ _ a' cap h1 h2 h3=>
           have:cap=0:=by simpa using h2 rfl
           subst this;exact .own _ esz 0 0 0 false ⟨0,0,esz,0,0⟩ a' 0 (by simp only [loc1,if_true]) rfl (cb _) (cb _) (cb _) (fun h=>by cases h) (.inl rfl)
         exact ⟨k,h1,h2.mono (sD.refl _) hle rfl⟩
       · obtain ⟨n1,k0,g1,g2⟩:=solid u k hs hsol
         obtain ⟨n2,k0',g1',g2'⟩:=solid u' k' hs' hsol';exact sr.excl u u' li lj k0 k0' (back _ _ hl n1) (back _ _ hl' n2) g1 g1' g2 g2' hbk
       obtain ⟨n1,k0,g1,g2⟩:=solid u k hs hsol
       exact sr.free u li k0 (back _ _ hl n1) g1 g2 hz
     · by_cases hu:u=st.sto.length
       · right;have:=hk.len;omega
       exact hk.kept.locs u li (back u li h hu)
     · obtain ⟨n1,k0,g1,g2⟩:=solid u k hs hsol
       exact hk.kept.own u li k0 (back _ _ h n1) g1 g2
     have:=hk.len
     show sto0.length<=(st.sto.set t (.box (cs.set c (.own st.sto.length esz 0 0 0 false)))++[mU.arr esz []]).length;simp only [dj,fx];omega
   exact ⟨loc,hk,ha⟩
 exact ⟨loc,hk,ha⟩
theorem vT {im0 im:Im} {loc0:dV} {sto0:dC} {w0 w:World} {nt:Nat} {a:Act}: ∀(live:List (Nat×Option Nat)) {st:St} {loc:dV},HF im0 loc0 sto0 w0 st im loc w->EH im loc nt st a->
 ∃loc1,HF im0 loc0 sto0 w0 (nS live st) im loc1 w/\EH im loc1 nt (nS live st) a
 | [],st,loc,hk,ha=>⟨loc,hk,ha⟩
 |(s,k)::r,st,loc,hk,ha=>by
  simp only [nS];split
  · split
    · split
      · rename_i t _
        obtain ⟨loc1,h1,h2⟩:=aAF t _ _ hk ha;exact vT r h1 h2
      exact vT r hk ha
    exact vT r hk ha
  exact vT r hk ha
theorem XU {im0 im:Im} {loc0 loc:dV} {sto0:dC} {w0 w:World} {nt:Nat} {live:List (Nat×Option Nat)} {st st1:St} {a:Act} (h:OJ live st=some st1) (hk:HF im0 loc0 sto0 w0 st im loc w) (ha:EH im loc nt st a):
 ∃loc1,HF im0 loc0 sto0 w0 st1 im loc1 w/\EH im loc1 nt st1 a:=by
 unfold OJ at h;split at h
 · cases h
 rename_i m hreach
 split at h
 · rename_i s1 e1 s2 hs1 hlv
   injection h with h;subst h;refine (fun hh: ∃loc1,HF im0 loc0 sto0 w0 {env:=e1,sto:=s1++s2,fz:=E0 st.fz 0 m,kn:=st.kn} im loc1 w/\EH im loc1 nt {env:=e1,sto:=s1++s2,fz:=E0 st.fz 0 m,kn:=st.kn} a=>
    let ⟨_,g1,g2⟩:=hh;vT live g1 g2) ?_
   obtain ⟨⟨ml,hml⟩,hnd⟩:=O6 hreach;have hnd:=hnd (O7 _);obtain ⟨hl1,hget⟩:=LE hs1;have hupl: ∀n,(BW n).length=n:=by
    intro n;induction n with
    |zero=>rfl
    |succ n ih=>simp [BW,ih]
   have hid: ∀t,t<st.kn->m[t]? =some t:=by
    intro t ht;rw [hml,cd (by rw [hupl];exact ht)]
    exact XS ht
   have hmlen:st.kn<=m.length:=by rw [hml];simp [hupl]
   let loc1:dV:=fun u=>if u<m.length then (match m[u]? with|some t=>loc t|none=>none) else match s2[u-m.length]? with
    |some (.arr e [])=>some ⟨0,0,e,0,0⟩
    |_=>none
   have hren:Ren m loc loc1:=by
    intro u t hu
    have:=cZ hu
    simp only [loc1,this,if_true,hu]
   obtain ⟨hemp,her⟩:=IJ hren ha.env hlv;have old: ∀u li,loc1 u=some li->u<m.length-> ∃t,m[u]? =some t/\loc t=some li:=by
    intro u li hl hu;have e:=bo hu;rw [hren u _ e] at hl;exact ⟨_,e,hl⟩
   have stoL: ∀u,u<m.length->(s1++s2)[u]? =s1[u]?:=fun u hu=>cd (by rw [hl1];exact hu)
   have stoR: ∀u,¬u<m.length->(s1++s2)[u]? =s2[u-m.length]?:=fun u hu=>by rw [cq (by rw [hl1];omega),hl1]
   have solid_old: ∀(u:Nat) (k:mU),(s1++s2)[u]? =some k->k.solid=true->u<m.length:=by
    intro u k hs hsol;rcases c7 u m.length with h|h
    · exact h
    rw [stoR u (by omega)] at hs
    obtain ⟨e,rfl⟩:=hemp _ _ hs;cases hsol
   have back: ∀(u:Nat) (k:mU),(s1++s2)[u]? =some k-> ∀t,m[u]? =some t-> ∃k0:mU,st.sto[t]? =some k0/\k.solid=k0.solid:=by
    intro u k hs t ht;obtain ⟨k0,k',g1,g2,g3⟩:=hget u t ht;rw [stoL u (cZ ht),g3] at hs;injection hs with hs;subst hs;exact ⟨k0,g1,JM g2⟩
   have sr:=hk.kept.sr;have keptsr:SR im loc1 (s1++s2) (E0 st.fz 0 m) w:=by
    refine {
     im_ok:=sr.im_ok
     blk:=fun u li hl=>?_
     excl:=fun u u' li lj k k' hl hl' hs hs' hsol hsol' hb=>?_
     free:=fun u li k hl hs hsol hz=>?_}
    · by_cases hu:u<m.length
      · obtain ⟨t,ht,hlt⟩:=old u li hl hu
        obtain ⟨k0,h1,h2⟩:=sr.blk t li hlt;obtain ⟨k1,k',g1,g2,g3⟩:=hget u t ht;rw [h1] at g1;injection g1 with g1;subst g1;exact ⟨k',by rw [stoL u hu];exact g3,SY hren g2 h2⟩
      simp only [loc1,hu,if_false] at hl
      split at hl
      · rename_i e he
        injection hl with hl;subst hl;exact ⟨.arr e [],by rw [stoR u hu];exact he,rfl,rfl,fun h=>absurd rfl h⟩
      cases hl
    · have hu:=solid_old u k hs hsol
      have hu':=solid_old u' k' hs' hsol';obtain ⟨t,ht,hlt⟩:=old u li hl hu;obtain ⟨t',ht',hlt'⟩:=old u' lj hl' hu';obtain ⟨k0,g1,g2⟩:=back u k hs t ht;obtain ⟨k0',g1',g2'⟩:=back u' k' hs' t' ht'
      have:=sr.excl t t' li lj k0 k0' hlt hlt' g1 g1' (by rw [<- g2];exact hsol) (by rw [<- g2'];exact hsol') hb
      subst this;have pw:=d7.1 hnd;have e1:=(bz.1 ht).2;have e2:=(bz.1 ht').2;rcases cm u u' with h|h|h
      · exact absurd (e1.trans e2.symm) (pw u u' hu hu' h)
      · exact h
      exact absurd (e2.trans e1.symm) (pw u' u hu' hu h)
    have hu:=solid_old u k hs hsol
    obtain ⟨t,ht,hlt⟩:=old u li hl hu;obtain ⟨k0,g1,g2⟩:=back u k hs t ht;refine sr.free t li k0 hlt g1 (by rw [<- g2];exact hsol) (mD.2 ?_)
    exact XQ (i0:=0) ht (by have:=mD.1 hz;simpa using this)
   refine ⟨loc1,⟨⟨keptsr,hk.kept.imle,fun t li hl=>?_,hk.kept.os,hk.kept.tape,hk.kept.output,hk.kept.size,hk.kept.frame,hk.kept.imnew,fun t li hl=>?_,fun u li k hl hs hsol=>?_⟩,hk.kn,?_,hk.dom⟩,
    ⟨her fun j esz hj=>?_,ha.defers,ha.nts⟩⟩
   · have h1:=hk.kept.locle t li hl
     have ht:t<st.kn:=by rw [hk.kn];exact hk.dom t li hl
     rw [hren t t (hid t ht)];exact h1
   · rcases c7 t st.kn with ht|ht
     · rw [hren t t (hid t ht)] at hl
       exact hk.kept.locs t li hl
     right;rw [hk.kn] at ht;exact ht
   · have hu:=solid_old u k hs hsol
     obtain ⟨t,ht,hlt⟩:=old u li hl hu;obtain ⟨k0,g1,g2⟩:=back u k hs t ht;exact hk.kept.own t li k0 hlt g1 (by rw [<- g2];exact hsol)
   · rw [<- hk.kn]
     simp only [dj];omega
   simp only [loc1,show¬m.length+j<m.length by omega,if_false,show m.length+j-m.length=j by omega,hj]
 exact (by cases h)
theorem aHk {im0 im:Im} {loc0 loc:dV} {sto0:dC} {w0 w:World} {nt:Nat} {live:List (Nat×Option Nat)} {st st1:St} {a:Act} (h:NM live st=some st1) (hk:HF im0 loc0 sto0 w0 st im loc w) (ha:EH im loc nt st a):
 ∃loc1,HF im0 loc0 sto0 w0 st1 im loc1 w/\EH im loc1 nt st1 a:=by
 unfold NM at h;cases h1:OJ live st with
 |none=>rw [h1] at h;cases h
 |some s=>
  rw [h1] at h;dsimp only at h;obtain ⟨loc1,hk1,ha1⟩:=XU h1 hk ha;split at h
  · exact XU h hk1 ha1
  injection h with h
  subst h;exact ⟨loc1,hk1,ha1⟩
end Go.Vm
/- The code of a function; what it returns. -/
namespace Go.Vm
def iW (P:Program) (prims:FuncId->Bool) (nt:Nat):mV->Code->Bool
 | .skip,.skip=>true
 | .region d ops _,.region _ mops flag=>LR P prims nt d ops mops flag
 | .seq a b,.seq c d=>iW P prims nt a c&&iW P prims nt b d
 | .cond c a b,.cond c' a' b'=>bQ c c'&&iW P prims nt a a'&&iW P prims nt b b'
 | .block id b,.block id' b'=>id==id'&&iW P prims nt b b'
 | .loop _ b,.loop b'=>iW P prims nt b b'
 | .exit id,.exit id'=>id==id'
 | .ret,.ret=>true
 |_,_=>false
def jV.out:jV->Exit
 | .normal=> .normal
 | .exit id=> .exit id
 | .ret=> .ret
section
variable {P : Program} {F : qT} {rec : mT -> Option zS} {im0 : Im} {loc0 : dV} {sto0 : dC} {w0 : World} {nt : Nat} {prims : FuncId -> Bool}
structure At (im0:Im) (loc0:dV) (sto0:dC) (w0:World) (nt:Nat) (st:St) (a:Act) (w:World):Prop where
 ex: ∃im loc,HF im0 loc0 sto0 w0 st im loc w/\EH im loc nt st a
def LS (P : Program) (prims : FuncId -> Bool) (rec : mT -> Option zS) : Prop :=
  ∀ (live : List (Nat × Option Nat)) (x : mV) (st : St) (e : jV) (st' : St), rec (.loop live x st) = some (.code e st') ->
    ∀ (c : Code) (nt : Nat) (im0 : Im) (loc0 : dV) (sto0 : dC) (w0 : World) (a : Act) (w : World), iW P prims nt x c = true -> At im0 loc0 sto0 w0 nt st a w ->
      ∀ (b : Frame) (k : List Item) (cs : List Frame), ∃ a' w', At im0 loc0 sto0 w0 nt st' a' w' /\ Arrives P (lone (b.at a (.code c :: .inLoop c :: k)) cs w) b k cs e.out a' w'
theorem nT (hE:UU P F rec) (hL:LS P prims rec) (hmix:P.follows .mixedOrders=true): ∀(x:mV) (c:Code) (st:St) (e:jV) (st':St),iW P prims nt x c=true->zT F rec x st=some (e,st')->
 ∀(a:Act) (w:World),At im0 loc0 sto0 w0 nt st a w-> ∀(Q:Exit->Act->World->Prop),(∀a' w',At im0 loc0 sto0 w0 nt st' a' w'->Q e.out a' w')->c.wp P Q a w
 | .skip,c,st,e,st',hc,hev,a,w,ha,Q,hQ=>by
  cases c<;>simp only [iW,ci] at hc
  simp only [zT,bn,bv] at hev;obtain ⟨rfl,rfl⟩:=hev;exact wp_skip (hQ _ _ ha)
 | .region d ops keep,c,st,e,st',hc,hev,a,w,ha,Q,hQ=>by
  cases c<;>simp only [iW,ci] at hc
  simp only [zT,bw] at hev;obtain ⟨st1,hev,h⟩:=hev;simp only [bv] at h;obtain ⟨rfl,rfl⟩:=h;obtain ⟨im,loc,hk,hact⟩:=ha.ex;refine aAE hE hmix hc hev hk.kept.sr hact fun im' loc' a' w' hk' ha'=>hQ a' w' ⟨im',loc',?_,ha'⟩
  obtain ⟨h1,h2⟩:=UV hev;exact ⟨hk.kept.trans hk' hk.len,by rw [h1];exact hk.kn,cu hk.len h2,hk.dom⟩
 | .seq x y,c,st,e,st',hc,hev,a,w,ha,Q,hQ=>by
  cases c<;>simp only [iW,ci,bq] at hc
  obtain ⟨h1,h2⟩:=hc;simp only [zT] at hev;refine wp_seq ?_;cases hx:zT F rec x st with
  |none=>rw [hx] at hev;cases hev
  |some q=>
   obtain ⟨e1,st1⟩:=q;rw [hx] at hev;refine nT hE hL hmix x _ st e1 st1 h1 hx a w ha _ fun a' w' ha'=>?_
   cases e1 with
   |normal=>exact nT hE hL hmix y _ st1 e st' h2 hev a' w' ha' Q hQ
   |exit id=>
    simp only [bn,bv] at hev;obtain ⟨rfl,rfl⟩:=hev;exact hQ a' w' ha'
   |ret=>
    simp only [bn,bv] at hev;obtain ⟨rfl,rfl⟩:=hev;exact hQ a' w' ha'
 | .cond cc x y,c,st,e,st',hc,hev,a,w,ha,Q,hQ=>by
  cases c<;>simp only [iW,ci,bq] at hc
  obtain ⟨⟨h0,h1⟩,h2⟩:=hc;obtain ⟨im,loc,hk,hact⟩:=ha.ex;have hv:=aAD (a:=a) (e:=st.env) cc (fun t _=>hact.env t) _ h0
  simp only [zT] at hev;split at hev
  · rename_i hb
    rw [hb] at hv;exact wp_cond_true hv.bool_inv (nT hE hL hmix x _ st e st' h1 hev a w ha Q hQ)
  · rename_i hb
    rw [hb] at hv;exact wp_cond_false hv.bool_inv (nT hE hL hmix y _ st e st' h2 hev a w ha Q hQ)
  cases hev
 | .block id x,c,st,e,st',hc,hev,a,w,ha,Q,hQ=>by
  cases c<;>simp only [iW,ci,bq,beq_iff_eq] at hc
  obtain ⟨rfl,h1⟩:=hc;refine wp_block ?_;simp only [zT] at hev;cases hx:zT F rec x st with
  |none=>rw [hx] at hev;cases hev
  |some q=>
   obtain ⟨e1,st1⟩:=q;rw [hx] at hev;refine nT hE hL hmix x _ st e1 st1 h1 hx a w ha _ fun a' w' ha'=>?_
   cases e1 with
   |normal=>
    simp only [bn,bv] at hev;obtain ⟨rfl,rfl⟩:=hev;exact hQ a' w' ha'
   |ret=>
    simp only [bn,bv] at hev;obtain ⟨rfl,rfl⟩:=hev;exact hQ a' w' ha'
   |exit j=>
    dsimp only at hev;simp only [jV.out,Exit.inBlock];split at hev
    · rename_i hj
      have:j=id:=by simpa using hj
      simp only [bn,bv] at hev;obtain ⟨rfl,rfl⟩:=hev;rw [if_pos this];exact hQ a' w' ha'
    rename_i hj
    have:j≠id:=by simpa using hj
    simp only [bn,bv] at hev;obtain ⟨rfl,rfl⟩:=hev;rw [if_neg this];exact hQ a' w' ha'
 | .loop live x,c,st,e,st',hc,hev,a,w,ha,Q,hQ=>by
  cases c<;>simp only [iW,ci] at hc
  simp only [zT] at hev;split at hev
  · rename_i e1 st1 hr
    simp only [bn,bv] at hev;obtain ⟨rfl,rfl⟩:=hev;intro b k cs;obtain ⟨a',w',h1,h2⟩:=hL live x st _ _ hr _ nt im0 loc0 sto0 w0 a w hc ha b k cs;exact ⟨_,a',w',hQ a' w' h1,.of_steps (.one step_loop) h2⟩
  cases hev
 | .exit id,c,st,e,st',hc,hev,a,w,ha,Q,hQ=>by
  cases c<;>simp only [iW,ci,beq_iff_eq] at hc
  subst hc;simp only [zT,bn,bv] at hev;obtain ⟨rfl,rfl⟩:=hev;exact wp_exit (hQ _ _ ha)
 | .ret,c,st,e,st',hc,hev,a,w,ha,Q,hQ=>by
  cases c<;>simp only [iW,ci] at hc
  simp only [zT,bn,bv] at hev;obtain ⟨rfl,rfl⟩:=hev;exact wp_ret (hQ _ _ ha)
theorem aDF (hE:UU P F rec) (hL:LS P prims rec) (hmix:P.follows .mixedOrders=true):LS P prims (step F rec):=by
 intro live x st e st' h c nt im0 loc0 sto0 w0 a w hc ha b k cs;simp only [step] at h;cases hn:NM live st with
 |none=>rw [hn] at h;cases h
 |some st1=>
  rw [hn] at h;dsimp only at h;obtain ⟨im,loc,hk,hact⟩:=ha.ex;obtain ⟨loc1,hk1,ha1⟩:=aHk hn hk hact;have hat:At im0 loc0 sto0 w0 nt st1 a w:=⟨im,loc1,hk1,ha1⟩;cases hx:zT F rec x st1 with
  |none=>rw [hx] at h;cases h
  |some q=>
   obtain ⟨e1,st2⟩:=q;rw [hx] at h;have hw:=nT hE hL hmix x c st1 e1 st2 hc hx a w hat (fun e' a' w'=>e'=e1.out/\At im0 loc0 sto0 w0 nt st2 a' w') fun a' w' h=>⟨rfl,h⟩
   obtain ⟨e',a1,w1,⟨rfl,hq⟩,harr⟩:=hw b (.inLoop c::k) cs;cases e1 with
   |normal=>
    dsimp only at h;obtain ⟨a',w',h1,h2⟩:=hL live x st2 e st' h c nt im0 loc0 sto0 w0 a1 w1 hc hq b k cs;exact ⟨a',w',h1,.of_steps (Steps.trans harr (.one step_inLoop)) h2⟩
   |exit id=>
    simp only [bn,zS.code.injEq] at h;obtain ⟨rfl,rfl⟩:=h;exact ⟨a1,w1,hq,.pass (x:= .inLoop c) rfl (fun _ _=> .inl (by simp [jV.out])) harr⟩
   |ret=>
    simp only [bn,zS.code.injEq] at h;obtain ⟨rfl,rfl⟩:=h;exact ⟨a1,w1,hq,.pass (x:= .inLoop c) rfl (fun _ _=> .inl (by simp [jV.out])) harr⟩
def tT (P:Program):List RV->List ResultVar->Bool
 | [],[]=>true
 | .tmp t::r,.tmp t'::s=>t==t'&&tT P r s
 | .cell t agg::r,.cell t' ty::s=>t==t'&&JL P ty agg&&tT P r s
 |_,_=>false
def aAG (tmps:Array Value):ResultVar->Sem Value
 | .tmp t=>pure (tmps.getD t undef)
 | .cell a t=>do loadVar t (<- asAddr (tmps.getD a undef))
theorem aDG {im:Im} {loc:dV} {sto:dC} {agg:Option Nat} {p:PV} {u:Value} {r:tH} (hp:VR im loc p u) (h:tI sto agg p=some r): ∃ad,u= .pointer (some ad):=by
 cases hp<;>first|(simp [tI] at h;done)|exact ⟨_,rfl⟩
theorem SR.known {im:Im} {loc:dV} {sto:dC} {fz:List Nat} {w:World} (h:SR im loc sto fz w) {r:tH} (hn:r.news=[]) (hw:r.wr=[]):mC im loc sto w r where
 im_ok:=h.im_ok
 tok:=fun t _ li hl=>h.blk t li hl
 free:=fun t k hm=>by rw [hw] at hm;cases hm
 fresh:=fun j hj=>by rw [hn] at hj;simp at hj
 excl:=fun t u li lj k k' _ _=>h.excl t u li lj k k'
theorem aAH {sto:dC} {agg:Option Nat} {p:PV} {r:tH} (h:tI sto agg p=some r):r.news=[]/\r.wr=[]:=by
 unfold tI at h;split at h
 · split at h
   · split at h
     · rw [bw] at h;obtain ⟨_,_,rfl⟩:=h;exact ⟨rfl,rfl⟩
     cases h
   · split at h
     · rw [bw] at h;obtain ⟨_,_,rfl⟩:=h;exact ⟨rfl,rfl⟩
     cases h
   cases h
 · rw [bw] at h;obtain ⟨_,_,rfl⟩:=h;exact ⟨rfl,rfl⟩
 cases h
theorem aEU {im : Im} {loc : dV} {st : St} {a : Act} {w : World} (hsr : SR im loc st.sto st.fz w) (ha : ER im loc st.env a.tmps) : ∀ {rs : List RV} {vs : List PV} {os : List ResultVar}, tT P rs os = true -> sB st rs = some vs ->
    ∃ us, (os.mapM (aAG a.tmps)).run P w = .ok us w /\ VRL im loc vs us
  | [], vs, os, hc, h => by
    cases os <;> simp only [tT, ci] at hc
    simp only [sB, bn] at h; subst h
    exact ⟨[], by simp, .nil⟩
  | r :: rs, vs, [], hc, h => by cases r <;> simp [tT] at hc
  | r :: rs, vs, o :: os, hc, h => by
    simp only [sB] at h
    split at h
    · rename_i v vs' h1 h2
      injection h with h; subst h
      have hone : ∃ u, (aAG a.tmps o).run P w = .ok u w /\ VR im loc v u /\ tT P rs os = true := by
        cases r with
        | tmp t =>
          cases o with
          | tmp t' =>
            simp only [tT, bq, beq_iff_eq] at hc
            obtain ⟨rfl, hc⟩ := hc
            simp only [OM, bn] at h1; subst h1
            exact ⟨_, rfl, ha t, hc⟩
          | cell _ _ => simp [tT] at hc
        | cell t agg =>
          cases o with
          | tmp t' => simp [tT] at hc
          | cell t' ty =>
            simp only [tT, bq, beq_iff_eq] at hc
            obtain ⟨⟨rfl, hag⟩, hc⟩ := hc
            simp only [OM, bw] at h1
            obtain ⟨rr, h3, rfl⟩ := h1
            obtain ⟨g1, g2⟩ := aAH h3
            obtain ⟨u, hrun, hvr, _⟩ := XA (P := P) (ha t) hag h3 (hsr.known g1 g2)
            obtain ⟨ad, had⟩ := aDG (ha t) h3
            refine ⟨u, ?_, hvr, hc⟩
            simp only [aAG, had, asAddr]
            rw [had] at hrun
            simpa [Instr.loadAt, Instr.sureAddr] using hrun
      obtain ⟨u, hu, hvr, hc⟩ := hone
      obtain ⟨us, hus, hvrs⟩ := aEU hsr ha hc h2
      refine ⟨u :: us, ?_, .cons _ _ _ _ hvr hvrs⟩
      rw [List.mapM_cons]
      simp only [dz, hu, d9, hus, gc]
    cases h
theorem O8 {im:Im} {loc:dV} {st:St} {a:Act} {w:World} {fn:Func} (hsr:SR im loc st.sto st.fz w) (ha:ER im loc st.env a.tmps) {rs:List RV} {vs:List PV} (hc:tT P rs fn.results.toList=true) (h:sB st rs=some vs):
 ∃u,(results fn a.tmps).run P w= .ok u w/\VR im loc (vP vs) u:=by
 obtain ⟨us,h1,h2⟩:=aEU (P:=P) hsr ha hc h;have e:fn.results.mapM (aAG a.tmps)=List.toArray<$>fn.results.toList.mapM (aAG a.tmps):=Array.mapM_eq_mapM_toList;have h3:(fn.results.mapM (aAG a.tmps)).run P w= .ok us.toArray w:=by
  rw [e];rw [map_eq_pure_bind,dz,h1];rfl
 have hres:results fn a.tmps=(do let vs <- fn.results.mapM (aAG a.tmps);pure (if h:vs.size=1 then vs[0] else .tuple vs)):=by
  unfold results
  congr 1
 rw [hres];simp only [dz,h3,d9,gc];refine ⟨_,rfl,?_⟩;cases h2 with
 |nil=>exact .tup _ _ .nil
 |cons x u xs us g2 g3=>
  cases g3 with
  |nil=>exact g2
  |cons y v ys vs g4 g5=>exact .tup _ _ (.cons _ _ _ _ g2 (.cons _ _ _ _ g4 g5))
end
end Go.Vm
/- What the logical machine answers, the model answers. -/
namespace Go.Vm
def aC (P:Program) (prims:FuncId->Bool) (x:aM) (f:FuncId):Bool:=
 match P.funcs[f]? with
 |some fn=>!(fn.name== "runtime.NumGoroutine")&&cz x.nargs fn.ntmps&&tT P x.res fn.results.toList&&(match fn.body with|some c=>iW P prims fn.ntmps x.code c|none=>false)
 |none=>false
section
variable {P : Program} {F : qT} {rec : mT -> Option zS} {prims : FuncId -> Bool}
def XV (P:Program) (prims:FuncId->Bool) (F:qT):Prop:= ∀f x,F f=some (.code x)->aC P prims x f=true
theorem XW: ∀(args:List PV) (i t:Nat),lk t (BX i args)=if i<=t then (args[t-i]?).getD .undef else .undef
 | [],i,t=>by simp [BX,lk]
 |v::r,i,t=>by
  simp only [BX,xP];rw [XW r (i+1) t]
  by_cases h:i=t
  · subst h;simp
  rw [if_neg h]
  by_cases h2:i<=t
  · rw [if_pos h2,if_pos (by omega)]
    have:t-i=(t- (i+1))+1:=by omega
    rw [this];simp
  rw [if_neg h2,if_neg (by omega)]
theorem S6 {im:Im} {loc:dV} {args:List PV} {us:List Value} (h:VRL im loc args us) (n:Nat):ER im loc (BX 0 args) ((⟨us⟩:Array Value)++dh n Go.undef):=by
 intro t;rw [XW];simp only [c8,if_true,Nat.sub_zero];cases ha:args[t]? with
 |none=>exact .undef _
 |some x=>
  obtain ⟨v,hv,hr⟩:=h.get t x ha
  have:((⟨us⟩:Array Value)++dh n Go.undef).getD t Go.undef=v:=by
   have hlt:=cZ hv;simp only [cy];rw [Array.getElem?_append_left (by simpa using hlt)]
   simp [hv]
  rw [this];exact hr
theorem mE {f:FuncId} {fn:Func} {c:Code} {us:Array Value} {w:World} (hf:P.funcs[f]? =some fn) (hn:(fn.name== "runtime.NumGoroutine")=false) (hb:fn.body=some c):(callFunc f us).run P w= .ok (.enter f us) w:=by
 unfold callFunc;have hn: ¬fn.name= "runtime.NumGoroutine" :=by simpa using hn
 simp [dz,hf,hn,hb]
theorem aDH (hE:UU P F rec) (hL:LS P prims rec) (hT:XV P prims F) (hmix:P.follows .mixedOrders=true):LM P (step F rec):=by
 intro f args sto fz v sto' fz' h im loc w us hsr hus;simp only [step] at h;split at h
 · rename_i x hF
   have hc:=hT f x hF;unfold aC at hc;cases hf:P.funcs[f]? with
   |none=>rw [hf] at hc;cases hc
   |some fn=>
    rw [hf] at hc;simp only [bq,cj] at hc;obtain ⟨⟨⟨hname,hna⟩,hres⟩,hbody⟩:=hc;cases hb:fn.body with
    |none=>rw [hb] at hbody;cases hbody
    |some c=>
     rw [hb] at hbody;dsimp only at hbody;refine .inr ⟨mE hf hname hb,calls_of_wp hf hb ?_⟩;split at h
     · rename_i hlen
       have hlen:args.length=x.nargs:=by simpa using hlen
       have hna:x.nargs<=fn.ntmps:=by simpa using hna
       have husl:=hus.length
       let st0:St:={env:=BX 0 args,sto,fz,kn:=sto.length}
       let a0:Act:={tmps:=(⟨us⟩:Array Value)++dh (fn.ntmps- (⟨us⟩:Array Value).size) Go.undef,defers:=[]}
       have hat:At im loc sto w fn.ntmps st0 a0 w:=by
        refine ⟨im,loc,⟨⟨hsr,.refl _,.refl _,rfl,rfl,rfl,cb _,fun _ _ _=>rfl,fun _ _ h=> .inl h,fun _ _ h=> .inl h,fun t li k hl hs hsol=> .inr ⟨t,li,k,hl,hs,hsol,rfl⟩⟩,rfl,cb _,fun t li hl=>?_⟩,⟨S6 hus _,rfl,?_⟩⟩
        · obtain ⟨k,hk,_⟩:=hsr.blk t li hl
          exact cZ hk
        simp only [a0,fu,eu]
        show us.length+_=_
        have:(⟨us⟩:Array Value).size=us.length:=rfl
        rw [this];omega
       have fin: ∀(st:St),(sB st x.res).map (fun vs=>zS.func (vP vs) st.sto st.fz)=some (.func v sto' fz')-> ∀a' w',At im loc sto w fn.ntmps st a' w'->
        a'.defers=[]/\ ∃u,(results fn a'.tmps).run P w'= .ok u w'/\ ∃v',Ending.returned u= .returned v'/\ ∃im' loc',B2 im loc sto w v sto' fz' im' loc' w' v':=by
        intro st hst a' w' hat
        obtain ⟨im',loc',hk,hact⟩:=hat.ex;rw [bw] at hst;obtain ⟨vs,hvs,he⟩:=hst;simp only [zS.func.injEq] at he;obtain ⟨rfl,rfl,rfl⟩:=he;obtain ⟨u,hu,hvr⟩:=O8 (P:=P) (fn:=fn) hk.kept.sr hact.env hres hvs;have K:=hk.kept;exact ⟨hact.defers,u,hu,u,rfl,im',loc',⟨K.imle,K.locle,hvr,K.sr,K.os,K.tape,K.output,K.size,K.frame,K.imnew,K.locs,K.own⟩⟩
       split at h
       · rename_i st hev
         exact nT hE hL hmix x.code c st0 .normal st hbody hev a0 w hat _ fun a' w' hat'=>fin st h a' w' hat'
       · rename_i st hev
         exact nT hE hL hmix x.code c st0 .ret st hbody hev a0 w hat _ fun a' w' hat'=>fin st h a' w' hat'
       cases h
     cases h
 · rename_i p hF
   obtain ⟨fn,c,hf,hname,hb,key⟩:=hE.prim.2 f p hF;rw [bw] at h;obtain ⟨⟨v1,s1,z1⟩,hp,he⟩:=h;simp only [zS.func.injEq] at he;obtain ⟨rfl,rfl,rfl⟩:=he;exact key args sto fz _ _ _ hp im loc w us hsr hus
 cases h
theorem aOY (hT:XV P prims F) (hprim:GK P F) (hmix:P.follows .mixedOrders=true): ∀n,LM P (run F n)/\LS P prims (run F n)
 |0=>⟨fun f args sto fz v sto' fz' h=>by simp [run] at h,fun live x st e st' h=>by simp [run] at h⟩
 |n+1=>by
  obtain ⟨h1,h2⟩:=aOY hT hprim hmix n;have hE:UU P F (run F n):=⟨h1,hprim⟩;exact ⟨aDH hE h2 hT hmix,aDF hE h2 hmix⟩
theorem aDI (hT:XV P prims F) (hprim:GK P F) (hmix:P.follows .mixedOrders=true) {n:Nat} {f:FuncId} {args:List PV} {v:PV} {sto':dC} {fz':List Nat} (h:run F n (.func f args [] [])=some (.func v sto' fz'))
 {im:Im} {w:World} {us:List Value} (him: ∀b o,im b=some o->w.heap[b]? =some o) (hus:VRL im hZ args us):
 Calls P f ⟨us⟩ w fun e w'=> ∃u,e= .returned u/\(∃im' loc',VR im' loc' v u/\SR im' loc' sto' fz' w')/\w'.os=w.os/\w'.tape=w.tape/\w'.output=w.output/\w.heap.size<=w'.heap.size/\ ∀b,b<w.heap.size->w'.heap[b]? =w.heap[b]?:=by
 have key:=(aOY hT hprim hmix n).1 f args [] [] v sto' fz' h im hZ w us (SR.empty him) hus;rcases key with ⟨u,w',h1,h2⟩|⟨h1,h2⟩
 · exfalso
   cases n with
   |zero=>simp [run] at h
   |succ n=>
    have h:step F (run F n) (.func f args [] [])=some (.func v sto' fz'):=h;simp only [step] at h;split at h
    · rename_i x hF
      have hc:=hT f x hF;unfold aC at hc;cases hf:P.funcs[f]? with
      |none=>rw [hf] at hc;cases hc
      |some fn=>
       rw [hf] at hc;simp only [bq,cj] at hc;cases hb:fn.body with
       |none=>rw [hb] at hc;exact (by have hzz:=hc.2;cases hzz)
       |some c=>
        rw [mE hf hc.1.1.1 hb] at h1;cases h1
    · rename_i p hF
      obtain ⟨fn,c,hf,hname,hb,key⟩:=hprim.2 f p hF;rw [mE hf hname hb] at h1;cases h1
    cases h
 refine h2.mono fun e w' ⟨u,he,im',loc',hp⟩=>⟨u,he,⟨im',loc',hp.vr,hp.sr⟩,hp.os,hp.tape,hp.output,hp.size,fun b hb=>hp.frame b hb fun t li k hl=>by cases hl⟩
end
end Go.Vm
/- Functions that are known without their code: math/bits.Add64 and Sub64, slices.Clone. -/
namespace Go.Vm
section
variable {P : Program}
theorem aAI {im:Im} {w:World} {v:PV} {u:Value} (hsr:SR im hZ [] [] w) (hv:VR im hZ v u):B2 im hZ [] w v [] [] im hZ w u where
 imle:= .refl _
 locle:= .refl _
 vr:=hv
 sr:=hsr
 os:=rfl
 tape:=rfl
 output:=rfl
 size:=cb _
 frame:=fun _ _ _=>rfl
 imnew:=fun _ _ h=> .inl h
 locs:=fun _ _ h=> .inl h
 own:=fun t li k h=>by cases h
theorem aAJ {im:Im} {loc:dV} {k1 k2 k3:IntKind} {a b c:Int} {us:List Value} (h:VRL im loc [.int k1 a,.int k2 b,.int k3 c] us):us=[.int k1 a,.int k2 b,.int k3 c]:=by
 cases h with
 |cons _ _ _ _ h1 h=>
  cases h with
  |cons _ _ _ _ h2 h=>
   cases h with
   |cons _ _ _ _ h3 h=>
    cases h;rw [h1.int_inv,h2.int_inv,h3.int_inv]
theorem aAK {f:FuncId} {fn:Func} (hf:P.funcs[f]? =some fn) (hname:(fn.name== "runtime.NumGoroutine")=false) (hb:fn.body.isNone=true) (hn:Extern.findNext fn=none) (he:Extern.find fn=some add64Entry):US P f IC:=by
 intro args v news hp im w us hsr hus;unfold IC at hp;split at hp
 · rename_i a b c
   split at hp
   · rename_i hc
     have hc:c<=1:=by simpa using hc
     simp only [bn,bv] at hp;obtain ⟨rfl,rfl⟩:=hp;obtain rfl:=aAJ hus;refine .inl ⟨_,w,?_,im,hZ,aAI hsr (.tup _ [.int .u64 (((a:Int)+b+c)%18446744073709551616),.int .u64 (((a:Int)+b+c) / 18446744073709551616)] (.cons _ _ _ _ ?_ (.cons _ _ _ _ ?_ .nil)))⟩
     · rw [run_callFunc_extern hf hname hb hn he]
       have:=run_add64 (P:=P) (a:Int) b c (by omega) (by omega) (by omega) (by omega) w
       simp only [dw];rw [this];rfl
     · have:fg ((a+b+c)%18446744073709551616)=((a:Int)+b+c)%18446744073709551616:=by
        simp only [dw];omega
       rw [this];exact .int _ _
     have:fg ((a+b+c) / 18446744073709551616)=((a:Int)+b+c) / 18446744073709551616:=by
      simp only [dw];omega
     rw [this];exact .int _ _
   cases hp
 cases hp
def xcA (esz:Nat):mV:= .region none [⟨some 2,.mov (.c (.sl esz true [])),none⟩] [0]
def xcN (esz:Nat):mV:= .seq (.region none [⟨some 2,.mov (.c (.sl esz true [])),none⟩] [2]) .ret
def xcC (esz:Nat) (zero:rY):mV:= .seq (.region none [⟨some 5,.mkrow esz 0 zero [],none⟩,⟨some 6,.mov (.t 0),none⟩,⟨some 7,.append esz (.t 5) (.t 6),none⟩,⟨some 2,.mov (.t 7),none⟩] [2]) .ret
def aEV (P:Program) (o:Oper):Bool:=
 o.guard.isNone&&o.dst==some 4&&(match o.op with
  | .binOp .eql t x (.const (.slice none 0 0)) _=>bQ (.t 3) x&&yI P t
  |_=>false)
def XX (P:Program) (esz:Nat) (zero:rY) (f:FuncId):Bool:=
 match P.funcs[f]? with
 |some fn=>!(fn.name== "runtime.NumGoroutine")&&dt 7 fn.ntmps&&tT P [.tmp 2] fn.results.toList&&(match fn.body with
  |some (.seq a (.seq (.seq (.region _ ops false) (.cond c n .skip)) r))=>
   iW P (fun _=>true) fn.ntmps (xcA esz) a&&iW P (fun _=>true) fn.ntmps (xcN esz) n&&iW P (fun _=>true) fn.ntmps (xcC esz zero) r&&bQ (.t 4) c&&
    (match ops.toList with
    | [o1,o2]=>xQ P (fun _=>true) fn.ntmps ops ⟨some 3,.mov (.t 0),none⟩ o1&&aEV P o2
    |_=>false)
  |_=>false)
 |none=>false
theorem aHl:UU P (fun _=>none) (fun _=>none):=⟨(fun _ _args _sto _fz _v _sto' _fz' h=>(by cases h)),⟨(fun _ _k _p h=>(by cases h)),(fun _ _p h=>(by cases h))⟩⟩
theorem aCa {prims:FuncId->Bool}:LS P prims (fun _=>none):=fun _ _x _st _e _st' h=>(by cases h)
theorem qU (hmix:P.follows .mixedOrders=true) {esz:Nat} {zero:rY} {f:FuncId} (hc:XX P esz zero f=true):US P f (gL esz):=by
 intro args v news hp im w us hsr hus;unfold XX at hc;cases hf:P.funcs[f]? with
 |none=>rw [hf] at hc;cases hc
 |some fn=>
  rw [hf] at hc;simp only [bq,cj] at hc;obtain ⟨⟨⟨hname,hnt⟩,hres⟩,hbody⟩:=hc;have hnt:7<fn.ntmps:=by simpa using hnt
  split at hbody
  · rename_i ca id ops cc cn cr hb
    simp only [bq] at hbody;obtain ⟨⟨⟨⟨hA,hN⟩,hC⟩,hcc⟩,hops⟩:=hbody;split at hops
    · rename_i o1 o2 hl
      simp only [bq] at hops;obtain ⟨ho1,ho2⟩:=hops;have harg: ∃e c rows,args=[.sl e c rows]:=by
       unfold gL at hp;split at hp
       · exact ⟨_,_,_,rfl⟩
       cases hp
      obtain ⟨e,cl,rows,rfl⟩:=harg;obtain ⟨u,rfl⟩: ∃u,us=[u]:=by
       cases hus with
       |cons _ u _ us h1 h2=>cases h2;exact ⟨u,rfl⟩
      refine .inr ⟨mE hf hname hb,calls_of_wp hf hb ?_⟩
      let st0:St:={env:=[(0,.sl e cl rows)],sto:=[],fz:=[],kn:=0}
      let a0:Act:={tmps:=(⟨[u]⟩:Array Value)++dh (fn.ntmps- (⟨[u]⟩:Array Value).size) Go.undef,defers:=[]}
      have hat0:At im hZ [] w fn.ntmps st0 a0 w:=by
       refine ⟨im,hZ,⟨⟨hsr,.refl _,.refl _,rfl,rfl,rfl,cb _,fun _ _ _=>rfl,fun _ _ h=> .inl h,fun _ _ h=> .inl h,fun t li k hl=>by cases hl⟩,rfl,cb _,fun t li hl=>by cases hl⟩,⟨S6 hus _,rfl,?_⟩⟩
       simp only [a0,fu,eu];show 1+(fn.ntmps-1)=_;omega
      have fin: ∀(st:St) (v':PV),lk 2 st.env=v'-> ∀a' w',At im hZ [] w fn.ntmps st a' w'->
       a'.defers=[]/\ ∃u,(results fn a'.tmps).run P w'= .ok u w'/\ ∃v'':Value,Ending.returned u= .returned v''/\ ∃im' loc',B2 im hZ [] w v' st.sto st.fz im' loc' w' v'':=by
       intro st v' hv' a' w' hat
       obtain ⟨im',loc',hk,hact⟩:=hat.ex;obtain ⟨u,hu,hvr⟩:=O8 (P:=P) (fn:=fn) hk.kept.sr hact.env hres (vs:=[v']) (by simp [sB,OM,hv'])
       have K:=hk.kept;exact ⟨hact.defers,u,hu,u,rfl,im',loc',⟨K.imle,K.locle,hvr,K.sr,K.os,K.tape,K.output,K.size,K.frame,K.imnew,K.locs,K.own⟩⟩
      refine wp_seq ?_;refine nT aHl aCa hmix (xcA esz) _ st0 .normal {env:=[(0,.sl e cl rows)],sto:=[],fz:=[],kn:=0} hA rfl a0 w hat0 _ fun a1 w1 hat1=>?_
      refine wp_seq (wp_seq ?_);refine wp_region ?_;have hops2:ops= #[o1,o2]:=fy (by simpa using hl)
      subst hops2;obtain ⟨im1,loc1,hk1,hact1⟩:=hat1.ex;have hx0:=hact1.env 0;have hx0:VR im1 loc1 (.sl e cl rows) (a1.tmps.getD 0 Go.undef):=hx0;obtain ⟨ad,cap,hu0,hcap,hck,hrows⟩:=hx0.sl_inv;unfold xQ at ho1;simp only [bq,beq_iff_eq] at ho1;obtain ⟨⟨⟨hd1,_⟩,hg1⟩,hop1⟩:=ho1;have hg1':o1.guard=none:=by
       cases hg:o1.guard with
       |none=>rfl
       |some q=>rw [hg] at hg1;simp [B3] at hg1
      have hop1': ∃x,(o1.op= .move x\/o1.op= .assign x)/\bQ (.t 0) x=true:=by
       cases ho:o1.op<;>rw [ho] at hop1<;>simp only [ED] at hop1<;>first|exact ⟨_,.inl rfl,hop1⟩|exact ⟨_,.inr rfl,hop1⟩|simp at hop1
      obtain ⟨x1,hx1,hcx1⟩:=hop1';have hx1':a1.eval x1= .slice ad rows.length cap:=by
       have h:=aAD (a:=a1) (e:=[(0,PV.sl e cl rows)]) (.t 0) (fun t ht=>by injection ht with ht;subst ht;exact hact1.env 0) x1 hcx1
       cases x1 with
       |tmp t=>
        have:(0:Nat)=t:=by simpa [bQ] using hcx1
        subst this;simpa [Act.eval] using hu0
       |_=>simp [bQ] at hcx1
      have hrun1:(execOp a1.eval o1).run P w1= .ok (.value (.slice ad rows.length cap)) w1:=by
       rcases hx1 with h|h<;>simp [execOp,h,hx1']
      unfold aEV at ho2;simp only [bq,beq_iff_eq,Option.isNone_iff_eq_none] at ho2;obtain ⟨⟨hg2,hd2⟩,hop2⟩:=ho2;split at hop2
      case h_2=>cases hop2
      rename_i ty x2 ub hop2e;simp only [bq] at hop2;obtain ⟨hx2,hst⟩:=hop2;have hx2':x2= .tmp 3:=by
       cases x2 with
       |tmp t=>
        have:(3:Nat)=t:=by simpa [bQ] using hx2
        subst this;rfl
       |_=>simp [bQ] at hx2
      subst hx2';unfold yI at hst;split at hst
      case h_2=>cases hst
      rename_i el hty;have hsz1:a1.tmps.size=fn.ntmps:=hact1.nts
      let a2:Act:=a1.put (some 3) (.slice ad rows.length cap)
      have ha2:a2.tmps.getD 3 Go.undef= .slice ad rows.length cap:=by
       simp only [a2,Act.put,cy];rw [df (by omega)];rfl
      have hrun2:(execOp a2.eval o2).run P w1= .ok (.value (.bool ad.isNone)) w1:=by
       simp only [execOp,hop2e];refine fV ?_;have e3:a2.eval (.tmp 3)= .slice ad rows.length cap:=by simpa [Act.eval] using ha2
       rw [e3];have hg:(eqGuard .eql ty (.tmp 3) (.const (.slice none 0 0)) (.slice ad rows.length cap) (a2.eval (.const (.slice none 0 0)))).run P w1= .ok () w1:=by
        unfold eqGuard;simp
       simp only [dz,hg,d9];exact Lib.run_eql_slice_nil w1 ty el ad rows.length cap 0 0 hty
      let a3:Act:=a2.put (some 4) (.bool ad.isNone)
      have hat3:At im hZ [] w fn.ntmps {env:=[(0,.sl e cl rows)],sto:=[],fz:=[],kn:=0} a3 w1:=by
       refine ⟨im1,loc1,hk1,⟨fun t=>?_,hact1.defers,by simp [a3,a2,Act.put,hsz1]⟩⟩
       have h:=hact1.env t;simp only [xP] at h ⊢
       by_cases ht:t=0
       · subst ht
         simp only [if_true] at h ⊢;simpa [a3,a2,Act.put,cw] using h
       rw [if_neg (fun e=>ht e.symm)];exact .undef _
      have ha3:a3.eval cc= .bool ad.isNone:=by
       cases cc with
       |tmp t=>
        have:(4:Nat)=t:=by simpa [bQ] using hcc
        subst this;simp only [Act.eval,a3,Act.put,cy];rw [df (by simp [a2,Act.put];omega)];rfl
       |_=>simp [bQ] at hcc
      have hrange:List.range #[o1,o2].size=[0,1]:=rfl;rw [hrange];simp only [wpOps];have e0:(#[o1,o2]:Array Oper)[0]? =some o1:=rfl;have e1:(#[o1,o2]:Array Oper)[1]? =some o2:=rfl;rw [e0];dsimp only;have hw1:Region.wanted o1 (yielded #[o1,o2] a1.tmps)=true:=by unfold Region.wanted;rw [hg1']
      rw [hw1,if_pos rfl];refine .inl ?_;unfold Oper.wp;rw [hrun1,Oper.upon_value,<- hd1,e1];dsimp only;have hw2:Region.wanted o2 (yielded #[o1,o2] (a1.put (some 3) (.slice ad rows.length cap)).tmps)=true:=by unfold Region.wanted;rw [hg2]
      rw [hw2,if_pos rfl];refine .inl ?_;rw [show a1.put (some 3) (.slice ad rows.length cap)=a2 from rfl,hrun2,Oper.upon_value,hd2];show (Code.cond cc cn .skip).wp P _ a3 w1;cases had:ad with
      |none=>
       have hnil:rows=[]:=by
        rcases rows with _|⟨r,rs⟩
        · rfl
        obtain ⟨b,o,h,_⟩:=hrows (by simp)
        rw [had] at h;cases h
       subst hnil;simp only [gL,bn,bv] at hp;obtain ⟨rfl,rfl⟩:=hp;refine wp_cond_true (by rw [ha3,had];rfl) ?_
       refine nT aHl aCa hmix (xcN esz) _ _ .ret {env:=[(2,.sl esz true [])],sto:=[],fz:=[],kn:=0} hN rfl a3 w1 hat3 _ fun a4 w4 hat4=>?_
       obtain ⟨hdf,u',hu',v'',hv'',im',loc',hf'⟩:=fin _ _ rfl a4 w4 hat4;refine ⟨hdf,u',hu',v'',hv'',im',loc'.set 1 ⟨0,0,esz,0,0⟩,?_⟩;have hnone: ∀t,loc' t=none:=fun t=>by
        cases hl:loc' t with
        |none=>rfl
        |some li=>obtain ⟨k,hk,_⟩:=hf'.sr.blk t li hl;simp at hk
       obtain ⟨ad',cap',hv3,_,hck',_⟩:=hf'.vr.sl_inv;have hc0:cap'=0:=by simpa using hck' rfl
       subst hc0;exact {
        imle:=hf'.imle,locle:=fun t li h=>by cases h
        vr:=by rw [hv3];exact .own 1 esz 0 0 0 false ⟨0,0,esz,0,0⟩ ad' 0 (dV.set_same _ _ _) rfl (cb _) (cb _) (cb _) (fun h=>by cases h) (.inl rfl)
        sr:={
         im_ok:=hf'.sr.im_ok
         blk:=fun t li h=>by
          unfold dV.set at h;split at h
          · rename_i ht;subst ht;injection h with h;subst h
            exact ⟨_,rfl,rfl,rfl,fun h=>absurd rfl h⟩
          rw [hnone t] at h;cases h
         excl:=fun t u li lj k k' h h' hs hs' hso=>by
          unfold dV.set at h;split at h
          · rename_i ht;subst ht;simp at hs;subst hs;cases hso
          rw [hnone t] at h;cases h
         free:=fun t li k h hs hso=>by
          unfold dV.set at h;split at h
          · rename_i ht;subst ht;simp at hs;subst hs;cases hso
          rw [hnone t] at h;cases h}
        os:=hf'.os,tape:=hf'.tape,output:=hf'.output,size:=hf'.size,frame:=hf'.frame,imnew:=hf'.imnew
        locs:=fun t li h=> .inr (c8 _)
        own:=fun t li k h hs hso=>by
         unfold dV.set at h;split at h
         · rename_i ht;subst ht;simp at hs;subst hs;cases hso
         rw [hnone t] at h;cases h}
      |some ad'=>
       refine wp_cond_false (by rw [ha3,had];rfl) (wp_skip ?_)
       rcases rows with _|⟨r,rs⟩
       · simp only [gL,bn,bv] at hp
         obtain ⟨rfl,rfl⟩:=hp;exact nT aHl aCa hmix (xcC esz zero) _ _ .ret {env:=[(2,.own 1 esz 0 0 0 false)],sto:=[.arr esz [],.arr esz []],fz:=[],kn:=0} hC rfl a3 w1 hat3 _ fun a4 w4 hat4=>fin _ _ rfl a4 w4 hat4
       simp only [gL] at hp
       split at hp
       case isFalse=>cases hp
       rename_i hcond;simp only [bq,ga,d5] at hcond;obtain ⟨rfl,hmost⟩:=hcond;simp only [bn,bv] at hp;obtain ⟨rfl,rfl⟩:=hp;have hap:kY [.arr e []] [] e (.own 0 e 0 0 0 true) (.sl e cl (r::rs))=some {v:= .own 1 e 0 (0+(rs.length+1)) (0+(rs.length+1)) false,news:=[.arr e (r::rs)],rd:=[0]}:=by
        have h1:bu e e=true:=by simp
        have h2:cz (rs.length+1) 0=false:=rfl;have h3:cz (0+(rs.length+1)) most=true:=by simpa using hmost
        simp only [kY,rZ,h1,if_true];simp [h2,hmost,kX]
       refine nT aHl aCa hmix (xcC e zero) _ _ .ret {env:=[(2,.own 1 e 0 (0+(rs.length+1)) (0+(rs.length+1)) false)],sto:=[.arr e [],.arr e (r::rs)],fz:=[],kn:=0} hC ?_ a3 w1 hat3 _ fun a4 w4 hat4=>fin _ _ rfl a4 w4 hat4
       simp only [xcC,zT,oK,qA,wanted,EB,bS,gX.ev,lk];simp [vN,XR.ok,CS,XR.next,kU,aAy,iU,lk,hap]
    cases hops
  cases hbody
end
end Go.Vm
/- slices.Insert of one row: what it leaves of the memory. -/
namespace Go.Vm
section
variable {P : Program} {im im' : Im} {loc loc' : dV} {sto : dC} {fz : List Nat} {w w' : World}
theorem BR.keep {li:LI} {k:mU} (h:BR im loc w li k) (hi:sD im im') (hl:pX loc loc') (hw:k.solid=true->w'.heap[li.blk]? =w.heap[li.blk]?):BR im' loc' w' li k:=by
 cases hs:k.solid with
 |true=>exact h.mono hi hl (hw hs)
 |false=>
  cases k with
  |arr e rows=>
   cases rows with
   |nil=>exact ⟨h.1,h.2.1,fun hne=>absurd rfl hne⟩
   |cons r rs=>cases hs
  |box cs=>cases hs
  |map es=>cases hs
  |dead=>trivial
theorem LT {r:tH} {t:Nat} {u:Value} (hsr:SR im loc sto fz w) (he:BU im loc sto w r im' loc' w') (hfr:r.fr=[]) (hw:r.wr=[(t,.dead)]) (ht:t<sto.length) (hv:VR im' loc' r.v u):
 B2 im loc sto w r.v (sto.set t .dead++r.news) fz im' loc' w' u:=by
 have hlen:(sto.set t .dead).length=sto.length:=by simp
 have old: ∀t' li,loc t'=some li->t'<sto.length:=fun t' li h=>by
  obtain ⟨k,hk,_⟩:=hsr.blk t' li h;exact (bz.1 hk).1
 have oldk: ∀t' li k,loc t'=some li->(sto.set t .dead++r.news)[t']? =some k->k.solid=true->t'≠t/\sto[t']? =some k:=by
  intro t' li k h hk hs;have hlt:=old t' li h;rw [cd (by omega),ft] at hk
  split at hk
  · first|(injection hk with hk;subst hk;cases hs)|(split at hk<;>first|(injection hk with hk;subst hk;cases hs)|cases hk)
  rename_i hne;exact ⟨fun e=>hne e.symm,hk⟩
 have newk: ∀t' k,sto.length<=t'->(sto.set t .dead++r.news)[t']? =some k->r.news[t'-sto.length]? =some k:=by
  intro t' k h hk
  rwa [cq (by omega),hlen] at hk
 have isnew: ∀t' li,loc' t'=some li->loc t'=some li\/(sto.length<=t'/\t'=sto.length+(t'-sto.length)):=by
  intro t' li h;rcases he.locnew t' li h with h|⟨h,_⟩
  · exact .inl h
  exact .inr ⟨h,by omega⟩
 have imn: ∀b o,im' b=some o->im b=some o\/w.heap.size<=b:=by
  intro b o h;rcases he.imnew b o h with h|h|⟨t0,li,k,h,_⟩
  · exact .inl h
  · exact .inr h
  rw [hfr] at h;cases h
 have keepb: ∀t' li k,loc t'=some li->sto[t']? =some k->t'≠t->k.solid=true->BR im loc w li k->w'.heap[li.blk]? =w.heap[li.blk]?:=by
  intro t' li k hl hk hne hs hb;refine he.frame li.blk (hb.lt hs) fun t0 k1 l0 k0 hm hl0 hk0 hs0 e=>?_
  rw [hw] at hm;obtain ⟨rfl,rfl⟩:t0=t/\k1= .dead:=by simpa using hm
  exact hne (hsr.excl _ _ _ _ _ _ hl hl0 hk hk0 hs hs0 e.symm)
 have newb: ∀t' li k,loc' t'=some li->sto.length<=t'->r.news[t'-sto.length]? =some k->BR im' loc' w' li k/\
  (k.solid=true->im' li.blk=none/\(w.heap.size<=li.blk\/ ∃lt k0,loc t=some lt/\sto[t]? =some k0/\k0.solid=true/\lt.blk=li.blk)):=by
  intro t' li k hl hle hk;obtain ⟨h1,h2⟩:=he.news (t'-sto.length) k li hk (by rw [show sto.length+(t'-sto.length)=t' by omega];exact hl)
  refine ⟨h1,fun hs=>⟨(h2 hs).1,?_⟩⟩
  rcases (h2 hs).2 with h|⟨t0,lt,k0,hm,a,b,c,d⟩
  · exact .inl h
  rw [hw] at hm
  obtain rfl:t0=t:=by have:=dd.1 hm;injection this
  exact .inr ⟨lt,k0,a,b,c,d⟩
 have apart: ∀t1 u1 li lj k k',loc t1=some li->t1≠t->sto[t1]? =some k->k.solid=true->loc' u1=some lj->sto.length<=u1->r.news[u1-sto.length]? =some k'->k'.solid=true->li.blk≠lj.blk:=by
  intro t1 u1 li lj k k' hl hne hk hs hl' hle hk' hs' e;obtain ⟨k2,hk2,hb⟩:=hsr.blk t1 li hl;rw [hk] at hk2;injection hk2 with hk2;subst hk2;rcases ((newb u1 lj k' hl' hle hk').2 hs').2 with h|⟨lt,k0,a,b,c,d⟩
  · have:=hb.lt hs;omega
  exact hne (hsr.excl _ _ _ _ _ _ hl a hk b hs c (by rw [e,d]))
 exact {
  imle:=he.imle,locle:=he.locle,vr:=hv
  sr:={
   im_ok:=he.im_ok
   blk:=fun t' li h=>by
    rcases isnew t' li h with ho|⟨hle,_⟩
    · obtain ⟨k,hk,hb⟩:=hsr.blk t' li ho
      have hlt:=old t' li ho
      by_cases e:t'=t
      · subst e
        exact ⟨.dead,by rw [cd (by omega),List.getElem?_set_self (by omega)],trivial⟩
      refine ⟨k,by rw [cd (by omega),ej (fun x=>e x.symm)];exact hk,hb.keep he.imle he.locle fun hs=>keepb t' li k ho hk e hs hb⟩
    have hn:t'-sto.length<r.news.length:=by
     rcases he.locnew t' li h with ho|⟨_,h2⟩
     · have:=old t' li ho;omega
     omega
    obtain ⟨hb,_⟩:=newb t' li _ h hle (bo hn);exact ⟨_,by rw [cq (by omega),hlen];exact bo hn,hb⟩
   excl:=fun t1 u1 li lj k k' hl hl' hk hk' hs hs' e=>by
    rcases isnew t1 li hl with h1|⟨h1,_⟩<;>rcases isnew u1 lj hl' with h2|⟨h2,_⟩
    · obtain ⟨n1,e1⟩:=oldk _ _ _ h1 hk hs
      obtain ⟨n2,e2⟩:=oldk _ _ _ h2 hk' hs';exact hsr.excl _ _ _ _ _ _ h1 h2 e1 e2 hs hs' e
    · obtain ⟨n1,e1⟩:=oldk _ _ _ h1 hk hs
      exact absurd e (apart _ _ _ _ _ _ h1 n1 e1 hs hl' h2 (newk _ _ h2 hk') hs')
    · obtain ⟨n2,e2⟩:=oldk _ _ _ h2 hk' hs'
      exact absurd e.symm (apart _ _ _ _ _ _ h2 n2 e2 hs' hl h1 (newk _ _ h1 hk) hs)
    have:=he.distinct (t1-sto.length) (u1-sto.length) k k' li lj (newk _ _ h1 hk) (newk _ _ h2 hk') hs hs' (by rw [show sto.length+(t1-sto.length)=t1 by omega];exact hl) (by rw [show sto.length+(u1-sto.length)=u1 by omega];exact hl') e
    omega
   free:=fun t' li k hl hk hs hz=>by
    rcases isnew t' li hl with h1|⟨h1,_⟩
    · obtain ⟨n1,e1⟩:=oldk _ _ _ h1 hk hs
      obtain ⟨k2,hk2,hb⟩:=hsr.blk t' li h1;rw [e1] at hk2;injection hk2 with hk2;subst hk2;have h0:=hsr.free t' li k h1 e1 hs hz;cases hi:im' li.blk with
      |none=>rfl
      |some o=>
       rcases imn _ _ hi with h|h
       · rw [h0] at h;cases h
       have:=hb.lt hs;omega
    exact ((newb t' li k hl h1 (newk _ _ h1 hk)).2 hs).1}
  os:=he.os,tape:=he.tape,output:=he.output,size:=he.size
  frame:=fun b hb h=>he.frame b hb fun t0 k li k0 hm hl hk hs=>h t0 li k0 hl hk hs
  imnew:=fun b o h=>by
   rcases imn b o h with h|h
   · exact .inl h
   exact .inr (.inl h)
  locs:=fun t' li h=>by
   rcases isnew t' li h with h|⟨h,_⟩
   · exact .inl h
   exact .inr h
  own:=fun t' li k hl hk hs=>by
   rcases isnew t' li hl with h1|⟨h1,_⟩
   · obtain ⟨n1,e1⟩:=oldk _ _ _ h1 hk hs
     exact .inr ⟨t',li,k,h1,e1,hs,rfl⟩
   rcases ((newb t' li k hl h1 (newk _ _ h1 hk)).2 hs).2 with h|⟨lt,k0,a,b,c,d⟩
   · exact .inl h
   exact .inr ⟨t,lt,k0,a,b,c,d⟩}
theorem SR.next_free (h:SR im loc sto fz w):loc sto.length=none:=by
 cases hl:loc sto.length with
 |none=>rfl
 |some li=>obtain ⟨k,hk,_⟩:=h.blk _ _ hl;simp at hk
theorem aDJ {t e:Nat} {li:LI} {rows L:List rY} {arr fin:Array Value} {el:TypeId} (hsr:SR im loc sto fz w) (hl:loc t=some li) (hst:sto[t]? =some (.arr e rows)) (hne:rows≠[]) (hf:has fz t=false)
 (ha:w.heap[li.blk]? =some (.cells arr el (0,0))) (hh:w'.heap=w.heap.setIfInBounds li.blk (.cells fin el (0,0))) (ho:w'.os=w.os) (ht:w'.tape=w.tape) (hp:w'.output=w.output)
 (hsz:fin.size=li.sz) (hfit:li.sh+L.length*e<=li.sz) (hr:cA (fun k=>fin[k]?) li.sh e L):
 BU im loc sto w {v:= .own sto.length e 0 L.length L.length false,news:=[.arr e L],wr:=[(t,.dead)]} im (loc.set sto.length ⟨li.blk,li.sh,e,L.length,li.sz⟩) w':=by
 have hlt:=(ce.1 ha).1;have hsolid:(mU.arr e rows).solid=true:=rG hne;have hfree:=hsr.free t li _ hl hst hsolid hf;have hfr0:=hsr.next_free;exact {
  imle:= .refl _,locle:=dV.le_set _ hfr0
  im_ok:=fun b o hb=>by
   have h1:=hsr.im_ok b o hb;have hne2:li.blk≠b:=fun e=>by rw [e,hb] at hfree;cases hfree
   rw [hh,cw,if_neg hne2];exact h1
  imnew:=fun _ _ h=> .inl h,os:=ho,tape:=ht,output:=hp
  size:=by rw [hh];simp
  wrs:=fun t' k hm hs=>by
   obtain ⟨rfl,rfl⟩:t'=t/\k= .dead:=by simpa using hm
   cases hs
  frame:=fun b _ hb=>by
   have hne2:=hb t .dead li _ (dd.2 rfl) hl hst hsolid;rw [hh,cw,if_neg hne2]
  wr:=fun t' k li hm hl'=>by
   obtain ⟨rfl,rfl⟩:t'=t/\k= .dead:=by simpa using hm
   trivial
  locnew:=fun t' l h=>by
   unfold dV.set at h;split at h
   · rename_i e;subst e;exact .inr ⟨cb _,by simp⟩
   exact .inl h
  news:=LH fun j k hj=>by
   cases j with
   |zero=>
    simp at hj;subst hj;refine ⟨_,dV.set_same _ _ _,⟨rfl,rfl,fun _=>⟨fin,el,by rw [hh];simp [hlt],hsz,hfit,hr⟩⟩,fun _=>⟨hfree,.inr ⟨t,li,_,dd.2 rfl,hl,hst,hsolid,rfl⟩⟩⟩
   |succ j=>simp at hj
  distinct:=fun i j ki kj li lj h1 h2 _ _ _ _ _=>by
   cases i<;>cases j<;>simp at h1 h2<;>rfl}
theorem aDK {t e:Nat} {L:List rY} {fin:Array Value} {el:TypeId} (hsr:SR im loc sto fz w)
 (hh:w'.heap=w.heap.push (.cells fin el (0,0))) (ho:w'.os=w.os) (ht:w'.tape=w.tape) (hp:w'.output=w.output)
 (hfit:L.length*e<=fin.size) (hr:cA (fun k=>fin[k]?) 0 e L):
 BU im loc sto w {v:= .own sto.length e 0 L.length L.length false,news:=[.arr e L],wr:=[(t,.dead)]} im (loc.set sto.length ⟨w.heap.size,0,e,L.length,fin.size⟩) w':=by
 have hfr0:=hsr.next_free;have old: ∀b,b<w.heap.size->w'.heap[b]? =w.heap[b]?:=fun b hb=>by rw [hh,Array.getElem?_push,if_neg (by omega)]
 have hlt: ∀b o,im b=some o->b<w.heap.size:=fun b o h=>(ce.1 (hsr.im_ok b o h)).1
 exact {
  imle:= .refl _,locle:=dV.le_set _ hfr0
  im_ok:=fun b o hb=>by rw [old b (hlt b o hb)];exact hsr.im_ok b o hb
  imnew:=fun _ _ h=> .inl h,os:=ho,tape:=ht,output:=hp
  size:=by rw [hh];simp
  wrs:=fun t' k hm hs=>by
   obtain ⟨rfl,rfl⟩:t'=t/\k= .dead:=by simpa using hm
   cases hs
  frame:=fun b hb _=>old b hb
  wr:=fun t' k li hm hl'=>by
   obtain ⟨rfl,rfl⟩:t'=t/\k= .dead:=by simpa using hm
   trivial
  locnew:=fun t' l h=>by
   unfold dV.set at h;split at h
   · rename_i e;subst e;exact .inr ⟨cb _,by simp⟩
   exact .inl h
  news:=LH fun j k hj=>by
   cases j with
   |zero=>
    simp at hj;subst hj;refine ⟨_,dV.set_same _ _ _,⟨rfl,rfl,fun _=>⟨fin,el,by rw [hh];simp,rfl,by simpa using hfit,hr⟩⟩,fun _=>⟨?_,.inl (cb _)⟩⟩
    cases hi:im w.heap.size with
    |none=>rfl
    |some o=>have:=hlt _ _ hi;omega
   |succ j=>simp at hj
  distinct:=fun i j ki kj li lj h1 h2 _ _ _ _ _=>by
   cases i<;>cases j<;>simp at h1 h2<;>rfl}
theorem S7 {esz:Nat}: ∀{rows:List rY} (_: ∀r∈rows,r.length=esz) (i:Nat),(rows.take i).flatMap bF=(rows.flatMap bF).take (i*esz)
 | [],_,i=>by simp
 |r::rs,h,0=>by simp
 |r::rs,h,i+1=>by
  have hr:(bF r).length=esz:=by rw [oM];exact h r (by simp)
  have e1:(bF r).take ((i+1)*esz)=bF r:=de (by rw [hr,ew];omega)
  rw [fh,ec,S7 (fun x hx=>h x (by simp [hx])) i,ec,List.take_append,e1,hr,show (i+1)*esz-esz=i*esz by rw [ew];omega]
theorem S8 {esz:Nat}: ∀{rows:List rY} (_: ∀r∈rows,r.length=esz) (i:Nat),(rows.drop i).flatMap bF=(rows.flatMap bF).drop (i*esz)
 | [],_,i=>by simp
 |r::rs,h,0=>by simp
 |r::rs,h,i+1=>by
  have hr:(bF r).length=esz:=by rw [oM];exact h r (by simp)
  have e1:(bF r).drop ((i+1)*esz)=[]:=ed (by rw [hr,ew];omega)
  rw [List.drop_succ_cons,S8 (fun x hx=>h x (by simp [hx])) i,ec,List.drop_append,e1,hr,show (i+1)*esz-esz=i*esz by rw [ew];omega,List.nil_append]
theorem SR.knownKill (h:SR im loc sto fz w) {t:Nat} (hf:has fz t=false) {r:tH} (hw:r.wr=[(t,.dead)]):mC im loc sto w r where
 im_ok:=h.im_ok
 tok:=fun t _ li hl=>h.blk t li hl
 free:=fun t' k hm li k' hl hk hs=>by
  rw [hw] at hm;obtain rfl:t'=t:=by have:=dd.1 hm;injection this
  exact h.free t' li k' hl hk hs hf
 fresh:=fun j hj=>by
  cases hl:loc (sto.length+j) with
  |none=>rfl
  |some li=>obtain ⟨k,hk,_⟩:=h.blk _ _ hl;rw [List.getElem?_eq_none (by omega)] at hk;cases hk
 excl:=fun t u li lj k k' _ _=>h.excl t u li lj k k'
structure aEW (P:Program) (f:FuncId) (e:Nat) (tS:TypeId):Prop where
 ends: ∀(base:Option Addr) (n c vb voff vc:Nat) (w w':World) (v':Value),n<=c->(Builtin.append_ #[tS,tS] tS #[.slice base n c,.slice (some ⟨vb,voff,none⟩) 1 vc]).run P w= .ok v' w'->
  Calls P f #[.slice base n c,.int .i64 n,.slice (some ⟨vb,voff,none⟩) 1 vc] w fun e W=>e= .returned v'/\W=w'
 room: ∀(b off n c i vb voff vc:Nat) (cs vs:List Value) (arr av:Array Value) (el ev:TypeId) (w:World),i<n->n+1<=c->n<=1048576->vb≠b->w.heap[b]? =some (.cells arr el (0,0))->w.heap[vb]? =some (.cells av ev (0,0))->
  off+(n+1)*e<=arr.size->cs.length=n*e->vs.length=e->(∀(j:Nat) (v:Value),cs[j]? =some v->arr[off+j]? =some v)->(∀(j:Nat) (v:Value),vs[j]? =some v->av[voff+j]? =some v)->(∀v∈cs,v.oneCell'=true)->(∀v∈vs,v.oneCell'=true)->
  ∃fin:List Value,fin.length=arr.size/\(∀(j:Nat) (v:Value),(cs.take (i*e)++vs++cs.drop (i*e))[j]? =some v->fin[off+j]? =some v)/\
  Calls P f #[.slice (some ⟨b,off,none⟩) n c,.int .i64 i,.slice (some ⟨vb,voff,none⟩) 1 vc] w fun x w'=>
   x= .returned (.slice (some ⟨b,off,none⟩) (n+1) c)/\w'.heap=w.heap.setIfInBounds b (.cells fin.toArray el (0,0))/\w'.os=w.os/\w'.tape=w.tape/\w'.output=w.output
 full: ∀(b off n i vb voff vc:Nat) (cs vs:List Value) (w:World),i<n->n<=1048576->cs.length=n*e->vs.length=e->
  (∀(j:Nat) (v:Value),cs[j]? =some v->w.cell? ⟨b,off+j,none⟩=some v)->(∀(j:Nat) (v:Value),vs[j]? =some v->w.cell? ⟨vb,voff+j,none⟩=some v)->(∀v∈cs,v.oneCell'=true)->(∀v∈vs,v.oneCell'=true)->
  ∃(G:Nat) (fin:List Value) (el:TypeId),n+1<=G/\fin.length=G*e/\(∀(j:Nat) (v:Value),(cs.take (i*e)++vs++cs.drop (i*e))[j]? =some v->fin[j]? =some v)/\
  Calls P f #[.slice (some ⟨b,off,none⟩) n n,.int .i64 i,.slice (some ⟨vb,voff,none⟩) 1 vc] w fun x w'=>
   x= .returned (.slice (some ⟨w.heap.size,0,none⟩) (n+1) G)/\w'.heap=w.heap.push (.cells fin.toArray el (0,0))/\w'.os=w.os/\w'.tape=w.tape/\w'.output=w.output
theorem XN.ins {f:FuncId} {e:Nat} {tS tE:TypeId} {fn:Func} {c:Code} {i0:TypeInfo} {z:Value} (hf:P.funcs[f]? =some fn) (hname:(fn.name== "runtime.NumGoroutine")=false) (hb:fn.body=some c)
 (ht:P.underlying tS=some (.slice tE)) (hi:P.info? tE=some i0) (hsz:i0.size=e) (hz:i0.zero=some z) (hzs:z.cells.size=e) (hby:i0.bytes<=1048576) (he0:0<e) (H:aEW P f e tS):XN P f (aEE e):=by
 refine ⟨fn,c,hf,hname,hb,?_⟩;intro args sto fz v sto' fz' hp im loc w us hsr hus;unfold aEE at hp;split at hp
 case h_2=>cases hp
 rename_i t e1 off len cap ex i u e2 off2 len2 cap2 ex2;split at hp
 case h_2=>cases hp
 rename_i e3 rows e4 new hst hsu;split at hp
 case isFalse=>cases hp
 rename_i hc;simp only [bq,ga,cj,decide_eq_true_eq,d5] at hc;obtain ⟨⟨⟨⟨⟨⟨⟨⟨⟨⟨⟨q1,q2⟩,rfl⟩,rfl⟩,hlen⟩,rfl⟩,hnew⟩,htu⟩,hfz⟩,hi0⟩,hil⟩,hmost⟩:=hc;have q1:=q1.symm;subst q1;have q2:=q2.symm;subst q2;have hmost:len+1<=1048576:=hmost;injection hp with hp;simp only [bv] at hp;obtain ⟨rfl,rfl,rfl⟩:=hp
 obtain ⟨k,rfl⟩: ∃k:Nat,i=(k:Int):=⟨i.toNat,by omega⟩
 simp only [Int.toNat_natCast] at hil ⊢;obtain ⟨x0,us1,rfl,hx0,hus⟩: ∃x0 us1,us=x0::us1/\VR im loc (.own t e 0 len cap ex) x0/\VRL im loc [.int .i64 (k:Int),.own u e 0 1 cap2 ex2] us1:=by cases hus with|cons _ a _ b h1 h2=>exact ⟨a,b,rfl,h1,h2⟩
 obtain ⟨x1,us2,rfl,hx1,hus⟩: ∃x1 us2,us1=x1::us2/\VR im loc (.int .i64 (k:Int)) x1/\VRL im loc [.own u e 0 1 cap2 ex2] us2:=by cases hus with|cons _ a _ b h1 h2=>exact ⟨a,b,rfl,h1,h2⟩
 obtain ⟨x2,us3,rfl,hx2,hus⟩: ∃x2 us3,us2=x2::us3/\VR im loc (.own u e 0 1 cap2 ex2) x2/\VRL im loc [] us3:=by cases hus with|cons _ a _ b h1 h2=>exact ⟨a,b,rfl,h1,h2⟩
 obtain rfl:us3=[]:=by cases hus;rfl
 have hx1:=hx1.int_inv;subst hx1;obtain ⟨li,a,cap',rfl,hl,he,hoff,hlc,hcc,_,hadr⟩:=hx0.own_inv;obtain ⟨lj,a2,cap2',rfl,hl2,he2,hoff2,hlc2,hcc2,_,hadr2⟩:=hx2.own_inv;have htl:t<sto.length:=(bz.1 hst).1;obtain ⟨k1,hk1,hbr⟩:=hsr.blk t li hl;rw [hst] at hk1;injection hk1 with hk1;subst hk1;obtain ⟨k2,hk2,hbr2⟩:=hsr.blk u lj hl2;rw [hsu] at hk2;injection hk2 with hk2;subst hk2
 obtain ⟨b1,b2,b3⟩:=hbr;obtain ⟨d1,d2,d3⟩:=hbr2;have hnne:new≠[]:=by intro h;subst h;simp at hnew
 obtain ⟨av,ev,hv1,hv2,hv3,hvat⟩:=d3 hnne;have e34:e=e3:=by rw [<- b1,he]
 subst e34;have e44:e=e4:=by rw [<- d1,he2]
 subst e44;obtain rfl:a2=some ⟨lj.blk,lj.sh,none⟩:=by
  rcases hadr2 with h|⟨_,h,_⟩
  · omega
  simpa using h
 have hnl:=hvat.rowLen;have hnp:=hvat.plain;have hnfl:=eQ hnl;rw [hnew] at hnfl;refine .inr ⟨mE hf hname hb,?_⟩;rcases c7 k len with hk|hk
 ·
  have hrne:rows≠[]:=by intro h;subst h;simp at hlen;omega
  obtain ⟨arr,el,ha1,ha2,ha3,hat⟩:=b3 hrne;obtain ⟨hn0,rfl,hfit⟩:li.n≠0/\a=some ⟨li.blk,li.sh,none⟩/\li.sh+cap'*e<=li.sz:=by
   rcases hadr with h|⟨h1,h2,h3⟩
   · omega
   exact ⟨h1,by simpa using h2,by simpa using h3⟩
  have hrl:=hat.rowLen;have hrp:=hat.plain;have hfl:=eQ hrl;rw [<- hlen] at hfl;obtain ⟨L,hL⟩: ∃L,L=rows.take k++new++rows.drop k:=⟨_,rfl⟩;have hLl:L.length=len+1:=by rw [hL];simp only [dj,List.length_take,List.length_drop,hnew];omega
  have hLf:L.flatMap bF=(rows.flatMap bF).take (k*e)++new.flatMap bF++(rows.flatMap bF).drop (k*e):=by
   rw [hL,fj,fj,S7 hrl,S8 hrl]
  have hLr: ∀r∈L,r.length=e:=by
   intro r hr;rw [hL] at hr;rcases c9.1 hr with h|h
   · rcases c9.1 h with h|h
     · exact hrl r (ez h)
     exact hnl r h
   exact hrl r (fb h)
  have hLp: ∀r∈L,∀c∈r,c.plain=true:=by
   intro r hr;rw [hL] at hr;rcases c9.1 hr with h|h
   · rcases c9.1 h with h|h
     · exact hrp r (ez h)
     exact hnp r h
   exact hrp r (fb h)
  rw [<- hL,<- hLl];have hcs: ∀j v,(rows.flatMap bF)[j]? =some v->arr[li.sh+j]? =some v:=fun j v hj=>hat.flat j v hj
  have hvs: ∀j v,(new.flatMap bF)[j]? =some v->av[lj.sh+j]? =some v:=fun j v hj=>hvat.flat j v hj
  have hmul:(len+1)*e<=cap'*e\/cap'=len:=by
   rcases c7 len cap' with h|h
   · exact .inl (ff _ h)
   exact .inr (by omega)
  rcases hmul with hroom|hfull
  · have hcap1:len+1<=cap':=Nat.le_of_mul_le_mul_right hroom he0
    have hne:lj.blk≠li.blk:=fun h=>by
     have:=hsr.excl u t lj li _ _ hl2 hl hsu hst (rG hnne) (rG hrne) h
     rw [this] at htu;simp at htu
    obtain ⟨fin,f1,f2,f3⟩:=H.room li.blk li.sh len cap' k lj.blk lj.sh cap2' _ _ arr av el ev w hk hcap1 (by omega) hne ha1 hv1 (by omega) hfl (by omega) hcs hvs (yK hrp) (yK hnp)
    refine f3.mono fun x w' ⟨hx,hh,ho,htp,hpp⟩=>⟨_,hx,im,loc.set sto.length ⟨li.blk,li.sh,e,L.length,li.sz⟩,?_⟩
    have hE:=aDJ (w':=w') (L:=L) hsr hl hst hrne hfz ha1 hh ho htp hpp (by simp [f1,ha2]) (by rw [hLl];omega) (cA.ofFlat hLr hLp fun j v hj=>by
     rw [hLf] at hj;simpa using f2 j v hj)
    refine LT hsr hE rfl rfl htl ?_;rw [<- hLl];exact .own _ _ 0 _ _ false ⟨li.blk,li.sh,e,L.length,li.sz⟩ _ cap' (dV.set_same _ _ _) rfl (by show 0+L.length<=L.length;omega) (cb _) (by omega) (fun h=>by cases h) (.inr ⟨by show L.length≠0;omega,by simp,by show li.sh+(0+cap')*e<=li.sz;rw [Nat.zero_add];exact hfit⟩)
  subst hfull
  obtain ⟨G,fin,el',g1,g2,g3,g4⟩:=H.full li.blk li.sh cap' k lj.blk lj.sh cap2' _ _ w hk (by omega) hfl (by omega) (fun j v hj=>by simp only [fw,ha1];exact hcs j v hj) (fun j v hj=>by simp only [fw,hv1];exact hvs j v hj) (yK hrp) (yK hnp)
  have hg:(cap'+1)*e<=G*e:=ff _ g1;refine g4.mono fun x w' ⟨hx,hh,ho,htp,hpp⟩=>⟨_,hx,im,loc.set sto.length ⟨w.heap.size,0,e,L.length,fin.toArray.size⟩,?_⟩
  have hE:=aDK (w':=w') (t:=t) (L:=L) (e:=e) hsr hh ho htp hpp (by rw [hLl];simp [g2];omega) (cA.ofFlat hLr hLp fun j v hj=>by
   rw [hLf] at hj;simpa using g3 j v hj)
  refine LT hsr hE rfl rfl htl ?_;rw [<- hLl];exact .own _ _ 0 _ _ false ⟨w.heap.size,0,e,L.length,fin.toArray.size⟩ _ G (dV.set_same _ _ _) rfl (by show 0+L.length<=L.length;omega) (cb _) (by omega) (fun h=>by cases h) (.inr ⟨by show L.length≠0;omega,by simp,by show 0+(0+G)*e<=fin.toArray.size;simp [g2]⟩)
 ·
  obtain rfl:k=len:=by omega
  have happ:rows.take k++new++rows.drop k=rows++new:=by
   rw [de (by omega),ed (by omega),eh]
  rw [happ];have hx0':VR im loc (.own t e 0 k k false) (.slice a k cap'):= .own t e 0 k k false li a cap' hl he (by omega) (cb _) (by omega) (by simp) hadr
  have hro:rZ sto e (.own u e 0 1 cap2 ex2)=some new:=by
   have:(new.drop 0).take 1=new:=by rw [gb,de (by omega)]
   show (if bu e e=true then (match sto[u]? with|some (.arr _ rows)=>some ((rows.drop 0).take 1)|_=>none) else none)=_
   rw [if_pos (Nat.beq_refl e),hsu];exact congrArg some this
  have hap:kY sto fz e (.own t e 0 k k false) (.own u e 0 1 cap2 ex2)=some {v:= .own sto.length e 0 (k+1) (k+1) false,news:=[.arr e (rows++new)],wr:=[(t,.dead)],rd:=[u]}:=by
   have h1:cz (k+1) k=false:=by
    cases h:cz (k+1) k with
    |false=>rfl
    |true=>have:=Nat.le_of_ble_eq_true h;omega
   have h2:cz (k+1) most=true:=by simpa [most] using hmost
   have h3:(rows.drop 0).take k=rows:=by rw [gb,de (by omega)]
   unfold kY;rw [hro];cases new with
   |nil=>exact absurd rfl hnne
   |cons r rs=>
    have h0:(r::rs).length=1:=hnew;simp only [h0,hst,h1,h2,h3,hfz,kX];simp
  obtain ⟨v',w',loc',hrun,hvr,hE⟩:=OQ (P:=P) (w:=w) (ty:=tS) ht ht hi hsz hz hzs hby hx0' hx2 hap (hsr.knownKill hfz rfl);refine (H.ends a k cap' lj.blk lj.sh cap2' w w' v' (by omega) hrun).mono fun x W ⟨hx,hW⟩=>⟨v',hx,im,loc',?_⟩
  subst hW;exact LT hsr hE rfl rfl htl hvr
end
end Go.Vm
/- A table of functions as a tree. -/
namespace Go.Vm
inductive TT where
 |nil
 |leaf (k:Nat) (e:Ent)
 |node (m:Nat) (a b:TT)
def TT.get:TT->Nat->Option Ent
 | .nil,_=>none
 | .leaf k e,f=>bif bu f k then some e else none
 | .node m a b,f=>bif dt f m then a.get f else b.get f
def TT.All (p:Nat->Ent->Prop):TT->Prop
 | .nil=>True
 | .leaf k e=>p k e
 | .node _ a b=>a.All p/\b.All p
theorem TT.get_all {p:Nat->Ent->Prop}: ∀{t:TT} {f:Nat} {e:Ent},t.All p->t.get f=some e->p f e
 | .nil,f,e,_,h=>by cases h
 | .leaf k e',f,e,ha,h=>by
  simp only [TT.get] at h;cases hk:bu f k with
  |false=>rw [hk] at h;cases h
  |true=>
   rw [hk] at h
   have:f=k:=by simpa using hk
   subst this;have h:some e'=some e:=h;injection h with h;subst h;exact ha
 | .node m a b,f,e,ha,h=>by
  simp only [TT.get] at h;cases hk:dt f m with
  |false=>rw [hk] at h;exact TT.get_all ha.2 h
  |true=>rw [hk] at h;exact TT.get_all ha.1 h
def EI (P:Program) (f:Nat):Ent->Prop
 | .code x=>aC P (fun _=>true) x f=true
 | .prim k p=>k=false/\US P f p
 | .shp p=>XN P f p
theorem TT.tabOK {P:Program} {t:TT} (h:t.All (EI P)):XV P (fun _=>true) t.get:=fun f x hf=>by
 have:=TT.get_all h hf
 exact this
theorem TT.primsOK {P:Program} {t:TT} (h:t.All (EI P)):GK P t.get:=⟨fun _ _ _ hf=>TT.get_all h hf,fun _ _ hf=>TT.get_all h hf⟩
end Go.Vm
/- The logical machine's code of a function, reckoned from the model's own (what it comes to is looked at by aC; nothing is proved of it here). -/
namespace Go.Vm
structure aVI where
 md:FuncId->CM
 keep:List Nat
 over:List (Nat×List (Nat×Nat)):=[]
 more:List (Nat×List (Nat×Option Nat)):=[]
 tb:Bool:=false
section
variable (P : Program)
def szT (t:TypeId):Nat:=match P.info? t with
 |some i=>i.size
 |none=>0
def aAL (t:TypeId):Option Nat:=match P.underlying t with
 |some (.struct _)|some (.array _ _)=>some (szT P t)
 |_=>none
def BA:Nat->TypeId->List PV
 |0,_=>[]
 |n+1,t=>match P.underlying t with
  |some (.int k)=>[.int k 0]
  |some .bool=>[.bool false]
  |some .string=>[.str .empty]
  |some (.slice e)=>[.sl (szT P e) true []]
  |some (.struct fs)=>fs.toList.flatMap fun f=>BA n f.type
  |some (.array m e)=>(dm m (BA n e)).flatten
  |some (.func ..)=>[.nilf]
  |_=>[.undef]
def aOZ (t:TypeId):PV:=match BA P 9 t with
 |x::_=>x
 | []=> .sl 0 true []
def aO0 (t:TypeId):PV:=match aAL P t with
 |some _=> .agg (BA P 9 t)
 |none=>aOZ P t
def aO1 (z:PV):Value->PV
 | .int k n=> .int k n
 | .bool b=> .bool b
 | .string s=> .str s
 | .slice .. =>z
 | .nilFunc=> .nilf
 |_=> .undef
def aO2:List PV->List Value->List PV
 |z::zs,v::vs=>aO1 z v::aO2 zs vs
 |_,_=>[]
def aYn (t:TypeId):Value->PV
 | .agg vs=> .agg (aO2 (BA P 9 t) vs.toList)
 |v=>aO1 (aOZ P t) v
def zU (t:TypeId):Operand->gX
 | .tmp n=> .t n
 | .const v=> .c (aYn P t v)
 | .func f=> .c (.clo f [] [])
 | .global _=> .c .undef
def aEX:List TypeId->List Operand->List gX
 |t::ts,o::os=>zU P t o::aEX ts os
 |_,_=>[]
def iX:Operand->gX
 | .tmp n=> .t n
 | .const (.int k n)=> .c (.int k n)
 | .const (.bool b)=> .c (.bool b)
 | .const (.string s)=> .c (.str s)
 | .func f=> .c (.clo f [] [])
 |_=> .c .undef
def O9 (t:TypeId):TypeId:=match P.underlying t with
 |some (.slice e)=>e
 |some (.array _ e)=>e
 |_=>0
def aEY (place:Nat->Option (Nat×Nat)) (ty:Nat->TypeId):List (Nat×Operand)->List (Nat×Nat×gX)
 | []=>[]
 |(i,o)::r=>match place i with
  |some (a,b)=>(a,b,zU P (ty i) o)::aEY place ty r
  |none=>[]
def aEZ (t:TypeId) (i:Nat):TypeId:=match P.underlying t with
 |some (.struct fs)=>match fs[i]? with
  |some f=>f.type
  |none=>0
 |some (.array _ e)=>e
 |_=>0
def aVJ (t:TypeId) (i:Nat):Nat:=match P.underlying t with
 |some (.struct fs)=>match fs[i]? with
  |some f=>f.offset
  |none=>0
 |_=>0
def aO3:BinOp->Bool
 | .neq=>true
 |_=>false
def aE0 (b:Builtin) (args:List Operand) (ts:List TypeId):oH:=
 match b,args,ts with
 | .len,x::_,t::_=>match P.underlying t with
  |some (.slice _)|some (.map _ _)=> .len (zU P t x)
  |some (.array m _)=> .lenc m
  |some (.pointer e)=>match P.underlying e with
   |some (.array m _)=> .lenc m
   |_=> .bad
  |_=> .bad
 | .append,[x,y],[t,u]=>match P.underlying u with
  |some (.slice _)=> .append (szT P (O9 P t)) (zU P t x) (zU P u y)
  |_=> .bad
 | .copy,[x,y],[t,u]=>match P.underlying u with
  |some (.slice _)=> .copy (szT P (O9 P t)) (zU P t x) (zU P u y)
  |_=> .bad
 | .clear,[x],[t]=>match P.underlying t with
  |some (.slice e)=> .clear (szT P e) (BA P 9 e) (zU P t x)
  |_=> .bad
 | .min,x::xs,_=> .mm false (iX x) (xs.map iX)
 | .max,x::xs,_=> .mm true (iX x) (xs.map iX)
 |_,_,_=> .bad
def cOp (tb:Bool) (md:FuncId->CM) (ty:TypeId):Op->oH
 | .move x| .assign x=> .mov (zU P ty x)
 | .pick c a b=> .pick (iX c) (zU P ty a) (zU P ty b)
 | .binOp op t x y _=>match P.underlying t with
  |some (.int _)=> .bin op (iX x) (iX y)
  |some .bool=> .binb (aO3 op) (iX x) (iX y)
  |some (.struct _)|some (.array _ _)=> .eqc (szT P t) (aO3 op) (zU P t x) (zU P t y)
  |_=> .bad
 | .unOp op _ x=> .un op (iX x)
 | .convert _ t x=>match P.underlying t with
  |some (.int k)=> .conv k (iX x)
  |_=> .bad
 | .box t x=> .box (zU P t x)
 | .alloc t=> .alloc (BA P 9 t)
 | .build t ps=> .build (BA P 9 t) (aEY P (CT P t) (aEZ P t) ps.toList)
 | .buildSlice t n ps=> .mkrow (szT P (O9 P t)) n (BA P 9 (O9 P t)) (ps.toList.map fun p=>(p.1,zU P (O9 P t) p.2))
 | .load t a=> .load (aAL P t) (iX a)
 | .store t a v=> .store (szT P t) (iX a) (zU P t v)
 | .nilCheck x=> .nilc (iX x)
 | .fieldAddr t a f=> .fadr (aVJ P t f) (iX a)
 | .field t a f=> .fld (aAL P (aEZ P t f)) (aVJ P t f) (iX a)
 | .indexAddr t a j=>match P.underlying t with
  |some (.slice e)=> .iadr (szT P e) (zU P t a) (iX j)
  |some (.array m e)=> .iadra m (szT P e) (iX a) (iX j)
  |_=> .bad
 | .index t a j=>match P.underlying t with
  |some (.array m e)=> .idx m (szT P e) (aAL P e) (zU P t a) (iX j)
  |some .string=> .sidx (iX a) (iX j)
  |_=> .bad
 | .slice t a b c d=>match P.underlying t with
  |some (.slice e)=> .slc (szT P e) (zU P t a) (b.map iX) (c.map iX) (d.map iX)
  |_=> .bad
 | .makeSlice t a b=> .mks (szT P (O9 P t)) (BA P 9 (O9 P t)) (iX a) (iX b)
 | .makeFunc (.func g) c d=> .mkf g (c.toList.map iX) (d.toList.map iX)
 | .makeMap t _=> .mkm (bif tb then (match P.underlying t with
  |some (.map _ e)=>some (aO0 P e)
  |_=>none) else none)
 | .extract a j=> .ext j (iX a)
 | .lookup t a b ok=>match P.underlying t with
  |some (.map k e)=> .lookup (aAL P k) (aO0 P e) ok (iX a) (zU P k b)
  |_=> .bad
 | .mapUpdate t a b c| .insert t a b c=>match P.underlying t with
  |some (.map k e)=> .mapu (aAL P k) (iX a) (zU P k b) (zU P e c)
  |_=> .bad
 | .call c=>match c.callee with
  | .builtin b=>aE0 P b c.args.toList c.argTypes.toList
  | .value (.func f)=> .call (md f) f (aEX P c.argTypes.toList c.args.toList)
  | .value x=> .callv (iX x) (aEX P c.argTypes.toList c.args.toList)
  |_=> .bad
 |_=> .bad
def aVK (tb:Bool) (md:FuncId->CM) (ops:Array Oper) (o:Oper):cE:=
 ⟨o.dst,cOp P tb md o.type o.op,match o.guard with
  |some (i,b)=>match ops[i]? with
   |some q=>match q.dst with
    |some d=>some (d,b)
    |none=>none
   |none=>none
  |none=>none⟩
def aE1:List Nat->List Oper->List Nat
 |acc,[]=>acc
 |acc,o::os=>aE1 (acc++[(rH acc acc.length o.after.toList).getD 0]) os
def UW:Nat->Nat->Nat->List Nat
 |0,_,_=>[]
 |n+1,i,m=>bif bu m 0 then [] else bif bu (Nat.mod m 2) 1 then i::UW n (i+1) (Nat.div m 2) else UW n (i+1) (Nat.div m 2)
def aE2 (l:List (Nat×Nat)) (x:Nat):Nat×Option Nat:=match l with
 | []=>(x,none)
 |(t,k)::r=>bif bu t x then (x,some k) else aE2 r x
def aE3 {α:Type} (n:Nat):List (Nat×List α)->List α
 | []=>[]
 |(m,l)::r=>bif bu m n then l else aE3 n r
def hd (l:List Nat):Nat:=match l with
 |x::_=>x
 | []=>0
structure CSt where
 ks:List Nat
 n:Nat
def PA (H:aVI):Code->CSt->mV×CSt
 | .region _ ops dr,s=>(.region (match dr with|true=>some (aE1 [] ops.toList)|false=>none) (ops.toList.map (aVK P H.tb H.md ops)) (UW 1000 0 (hd s.ks)),⟨s.ks.tail,s.n⟩)
 | .seq a b,s=>match PA H a s with
  |(x,s1)=>match PA H b s1 with
   |(y,s2)=>(.seq x y,s2)
 | .cond c a b,s=>match PA H a s with
  |(x,s1)=>match PA H b s1 with
   |(y,s2)=>(.cond (iX c) x y,s2)
 | .block id b,s=>match PA H b s with
  |(x,s1)=>(.block id x,s1)
 | .loop b,s=>match PA H b ⟨s.ks.tail,s.n+1⟩ with
  |(x,s1)=>(.loop ((UW 1000 0 (hd s.ks)).map (aE2 (aE3 s.n H.over))++aE3 s.n H.more) x,s1)
 | .exit id,s=>(.exit id,s)
 | .ret,s=>(.ret,s)
 |_,s=>(.skip,s)
def aYo:ResultVar->RV
 | .tmp t=> .tmp t
 | .cell t ty=> .cell t (aAL P ty)
def aPv (fn:Func) (H:aVI):aM:=
 ⟨fn.params.size+fn.nfree,match fn.body with
  |some c=>(PA P H c ⟨H.keep,0⟩).1
  |none=> .skip,fn.results.toList.map (aYo P)⟩
def aYp (ow sh fp:List Nat) (f:FuncId):CM:=bif has ow f then .own else bif has sh f then .shr else bif has fp f then .fp else .pur
end
end Go.Vm
/- A law's row from what the logical machine answers: the result is true, nothing that was there has turned. -/
namespace Go.Vm
open Go.ChangeShapes Go.WideShapes Go.ChangeAt Go.RowKit
section
variable {H : Type} {enc : TypeId × Value -> H} {P : Program}
theorem HG (hl:laidOutB P=true) {W W':World} (hb:Below W.heap.size W W'): ∀{ts:List TypeId} {vs:List Value} {ds:List (DataW H)} {ps:List MemPlace},(∀t∈ts,P.readableRec t=true/\t<P.types.size)->
 DataW.TrodAll enc P W 0 (fun _=>true) true ts vs ds ps->(∀x∈ps,x.block<W.heap.size)->DataW.TrodAll enc P W' 0 (fun b=>decide (b<W.heap.size)) true ts vs ds ps
 | [],vs,ds,ps,_,h,_=>by
  obtain ⟨rfl,rfl,rfl⟩:=trodAll_nil h;exact trodAll_mk0
 |t::ts,vs,ds,ps,ht,h,hlt=>by
  obtain ⟨v,vs',d,ds',p,q,rfl,rfl,rfl,h1,h2⟩:=trodAll_cons h;obtain ⟨h3,h4⟩:=ht t (by simp)
  exact trodAll_cons_mk (Below.trod hl h3 h4 h1 hb fun x hx=>hlt x (by simp [hx])) (HG hl hb (fun t' ht'=>ht t' (by simp [ht'])) h2 fun x hx=>hlt x (by simp [hx]))
theorem aE4 (hl:laidOutB P=true) {f:Func} {s:ChangeSpec} {W W':World} {args:Array Value} {ds:List (DataW H)} {before:List MemPlace} {bt:TypeId} (hvars:s.vars=[]) (hres:f.resultTypes= #[bt]) (hbt:P.underlying bt=some .bool)
 (hp: ∀t∈f.params.toList,P.readableRec t=true/\t<P.types.size) (hW:DataW.Whole enc P f.params.toList s.vars false W args.toList ds [] before)
 (hfn:s.fn H (ds++[])={results:=[.lit (.bool true)],args:=ds}) (hb:Below W.heap.size W W'):s.post enc P f false true false false W args (.bool true) W':=by
 have hW':=hW;obtain ⟨p,q,hA,hV,rfl,hfz,hnd⟩:=hW;have hlt: ∀x∈p++q,x.block<W.heap.size:=fun x hx=>by simpa using hW'.lt x hx
 refine ⟨ds,[],p++q,[],p,[],hW',?_,?_,?_,hb.frame _,fun h=>by cases h⟩
 · rw [hfn,hres]
   exact trodAll_mk1 (shut_bool hbt true)
 · rw [hfn]
   exact HG hl hb hp hA fun x hx=>hlt x (by simp [hx])
 rw [hfn,hvars]
 rfl
end
def PB (w:World):Im:=fun b=>w.heap[b]?
theorem aDM {w:World} {b o:Nat} {v:Value} (h:w.cell? ⟨b,o,none⟩=some v):sC (PB w) b o=some v:=by
 unfold fw at h;unfold sC PB;exact h
theorem aDN {P:Program} {F:qT} {prims:FuncId->Bool} (hT:XV P prims F) (hprim:GK P F) (hmix:P.follows .mixedOrders=true) {f:FuncId} {args:List PV} {s:dC} {z:List Nat} {n:Nat} {us:List Value} {w:World}
 (h:run F n (.func f args [] [])=some (.func (.bool true) s z)) (hus:VRL (PB w) hZ args us):Calls P f ⟨us⟩ w fun e w'=>e= .returned (.bool true)/\Below w.heap.size w w':=by
 refine (aDI hT hprim hmix h (im:=PB w) (fun b o h=>h) hus).mono fun e w' ⟨u,he,⟨im',loc',hvr,_⟩,h1,h2,h3,h4,h5⟩=>?_
 obtain rfl:=hvr.bool_inv;exact ⟨he,⟨h1,h2,h3,h4,h5⟩⟩
end Go.Vm
/- Regions of one order, step by step, for contracts. -/
namespace Go.Vm
def LU:oH->Bool
 | .call .. | .callv .. =>true
 |_=>false
variable {F : qT}
def WS (F:qT) (ops:List cE) (st:St) (Q:St->Prop):Prop:= ∀tr,WO F ops st tr (fun s _=>Q s)
def UX (st:St) (o:cE):Option St:=
 match wanted o.guard st.env with
 |some true=>match bS st.env st.sto st.fz o.op with
  |some x=>if (XR.loc x).ok st.fz then some ((XR.loc x).next o.dst st) else none
  |none=>none
 |some false=>some {st with env:=kU o.dst .nul st.env}
 |none=>none
theorem UY {rec:mT->Option zS} {e:zQ} {sto:dC} {fz:List Nat} {op:oH} (h:LU op=false):
 EB F rec e sto fz op=(bS e sto fz op).map .loc:=by
 cases op<;>first|rfl|cases h
theorem WS.nil {st:St} {Q:St->Prop} (h:Q st):WS F [] st Q:=fun _=>WO.nil h
theorem WS.cons {o:cE} {r:List cE} {st st':St} {Q:St->Prop} (h:LU o.op=false) (hs:UX st o=some st') (k:WS F r st' Q):WS F (o::r) st Q:=by
 intro tr;unfold UX at hs;split at hs
 · rename_i hw
   split at hs
   · rename_i x hx
     split at hs
     · rename_i hok
       injection hs with hs;subst hs;exact WO.op x hw (fun rec=>by rw [UY h,hx];rfl) hok (k _)
     cases hs
   cases hs
 · rename_i hw
   injection hs with hs;subst hs;exact WO.skip hw (k _)
 cases hs
theorem WS.one {o:cE} {r:List cE} {st:St} {Q:St->Prop} (x:tH) (hc:LU o.op=false) (hw:wanted o.guard st.env=some true) (hx:bS st.env st.sto st.fz o.op=some x) (hok:(XR.loc x).ok st.fz=true)
 (k:WS F r ((XR.loc x).next o.dst st) Q):WS F (o::r) st Q:=fun tr=>
 WO.op x hw (fun rec=>by rw [UY hc,hx];rfl) hok (k _)
def N1:List cE->St->Option St
 | [],st=>some st
 |o::r,st=>match LU o.op with
  |true=>none
  |false=>match UX st o with
   |some st'=>N1 r st'
   |none=>none
theorem WS.all: ∀{ops:List cE} {st st':St} {Q:St->Prop},N1 ops st=some st'->Q st'->WS F ops st Q
 | [],st,st',Q,h,hq=>by simp only [N1,bn] at h;subst h;exact WS.nil hq
 |o::r,st,st',Q,h,hq=>by
  simp only [N1] at h;cases hc:LU o.op with
  |true=>rw [hc] at h;cases h
  |false=>
   rw [hc] at h;dsimp only at h;cases hs:UX st o with
   |none=>rw [hs] at h;cases h
   |some s1=>rw [hs] at h;exact WS.cons hc hs (WS.all h hq)
theorem WS.pure {d:Option Nat} {g:Option (Nat×Bool)} {f:FuncId} {as:List gX} {r:List cE} {st:St} {Q:St->Prop}
 {args:List PV} {v:PV} (h:aDv F f args v) (hw:wanted g st.env=some true) (ha:exL st.sto (EY st.sto fS) (OH st.env as)=some args)
 (k:WS F r {st with env:=kU d v st.env} Q):WS F (⟨d,.call .pur f as,g⟩::r) st Q:=fun tr=>by
 refine WO.pure h hw ha ?_
 have:=k (XR.tr st.sto.length (.loc {v,rd:=toksL (dU st.sto fS) (OH st.env as)})::tr)
 simpa [XR.next,xN,iU] using this
theorem WS.shr {d:Option Nat} {g:Option (Nat×Bool)} {f:FuncId} {as:List gX} {r:List cE} {st:St} {Q:St->Prop}
 (hw:wanted g st.env=some true) (h:JK F f (OH st.env as) st.sto st.fz fun v s z=>(cz st.sto.length s.length&&st.fz.all (has z))=true/\WS F r {st with env:=kU d v st.env,sto:=s,fz:=z} Q):
 WS F (⟨d,.call .shr f as,g⟩::r) st Q:=fun tr=>by
 obtain ⟨n,v,s,z,hr,hc,hk⟩:=h;refine WO.call (.shr v s z) hw ⟨n,?_⟩ rfl (hk _);simp only [EB,hJ,hr];rw [if_pos hc]
end Go.Vm
/- Plain terms for what a function computes: loops, elements of lists, numbers; and the machine's loop over a plain one. -/
namespace Go.Vm
inductive bT (σ ρ:Type) where
 |next (s:σ)
 |done (r:ρ)
section
variable {σ ρ : Type}
def vU (body:σ->Option (bT σ ρ)):Nat->σ->Option ρ
 |0,_=>none
 |n+1,x=>match body x with
  |some (.next y)=>vU body n y
  |some (.done r)=>some r
  |none=>none
open Classical in
noncomputable def aAM (body:σ->Option (bT σ ρ)) (x:σ):Option ρ:=
 if h: ∃n r,vU body n x=some r then vU body h.choose x else none
theorem IK {body:σ->Option (bT σ ρ)}: ∀{n:Nat} {x:σ} {r:ρ},vU body n x=some r-> ∀k,vU body (n+k) x=some r
 |0,x,r,h,_=>by cases h
 |n+1,x,r,h,k=>by
  rw [show n+1+k=(n+k)+1 by omega]
  simp only [vU] at h ⊢;split at h
  · exact IK h k
  · exact h
  cases h
theorem aDO {body:σ->Option (bT σ ρ)} {n m:Nat} {x:σ} {r s:ρ} (h:vU body n x=some r) (k:vU body m x=some s):r=s:=by
 have h1:=IK h m;have h2:=IK k n;rw [Nat.add_comm m n] at h2;rw [h1] at h2;exact ef h2
theorem M2 {body:σ->Option (bT σ ρ)} {x:σ} {r:ρ}:aAM body x=some r↔ ∃n,vU body n x=some r:=by
 unfold aAM;constructor
 · intro h
   split at h
   · exact ⟨_,h⟩
   cases h
 rintro ⟨n,hn⟩
 have hex: ∃n r,vU body n x=some r:=⟨n,r,hn⟩;rw [dif_pos hex];obtain ⟨s,hs⟩:=hex.choose_spec;rw [hs,aDO hs hn]
end
noncomputable def aE5 {σ ρ:Type} (b:Option Nat) (body:σ->Option (bT σ ρ)) (x:σ):Option ρ:=
 match b with
 |none=>aAM body x
 |some N=>vU body N x
theorem aE6 {σ ρ:Type} {b:Option Nat} {body:σ->Option (bT σ ρ)} {x:σ} {r:ρ} (h:aE5 b body x=some r): ∃n,vU body n x=some r:=by
 cases b with
 |none=>exact M2.1 h
 |some N=>exact ⟨_,h⟩
class LP where
 w:Option Nat
abbrev LP.of (n:Nat):LP:=⟨some n⟩
noncomputable def aH [LP] {σ ρ:Type} (body:σ->Option (bT σ ρ)) (x:σ):Option ρ:=aE5 LP.w body x
def aG [LP]:Option Nat:=LP.w
theorem aVL {α β:Type} {x:Option α} {f:α->Option β} {r:β} (h:x.bind f=some r): ∃a,x=some a/\f a=some r:=by
 cases x with
 |none=>cases h
 |some a=>exact ⟨a,rfl,h⟩
def aO4 {α ρ:Type} (x:Option α) (f:α->Option ρ):Option ρ:=x.bind f
def aO5 {ρ:Type} (c:Bool) (a b:Option ρ):Option ρ:=cond c a b
theorem aAN {α ρ:Type} {x:Option α} {f:α->Option ρ} {y:ρ} (h:aO4 x f=some y): ∃a,x=some a/\f a=some y:=aVL h
theorem aAO {ρ:Type} {c:Bool} {a b:Option ρ} {y:ρ} (h:aO5 c a b=some y):(c=true/\a=some y)\/(c=false/\b=some y):=by
 cases c
 · exact .inr ⟨rfl,h⟩
 exact .inl ⟨rfl,h⟩
def aN {α:Type} (l:List α) (i:Int):Option α:=
 match i with
 | .ofNat n=>l[n]?
 | .negSucc _=>none
def cM {α:Type} (l:List α) (i:Int) (a:α):List α:=l.set i.toNat a
theorem rI {α:Type} {l:List α} {i:Int} {a:α} (h:aN l i=some a): ∃n:Nat,i=fg n/\l[n]? =some a:=by
 unfold aN at h;split at h
 · exact ⟨_,rfl,h⟩
 cases h
@[simp] theorem B8 {α:Type} (l:List α) (i:Int) (a:α):(cM l i a).length=l.length:=by simp [cM]
def bV {α:Type} (l:List α) (m:List α):Option (List α):=if l.length+m.length<=1048576 then some (l++m) else none
def rJ {α:Type} (n:Int) (z:α):Option (List α):=if 0<=n/\n<=1048576 then some (dm n.toNat z) else none
def jS {α:Type} (l:List α) (lo hi:Int):Option (List α):=if 0<=lo/\lo<=hi/\hi<=l.length then some ((l.drop lo.toNat).take (hi.toNat-lo.toNat)) else none
def cC {α:Type} (l:List α):Option (List α):=if l.length<=1048576 then some l else none
def UZ {α:Type} (l:List α) (i:Int) (m:List α):Option (List α):=if 0<=i/\i.toNat<=l.length/\m.length=1/\l.length+1<=1048576 then some (l.take i.toNat++m++l.drop i.toNat) else none
def M3 {α:Type} (f:List α->Option (List α)) (l:List α):Option (List α):=
 if l.length<=1048576 then (match f l with
 |some m=>if m.length=l.length then some m else none
 |none=>none) else none
def GL {α:Type} (f:List α->Option (List α)) (n:Nat) (l:List α):Option (List α):=if n<=l.length then (M3 f (l.take n)).map (· ++l.drop n) else none
def aAP (a:Int):List Int->List Int
 | []=>[a]
 |b::r=>bif decide (a<=b) then a::b::r else b::aAP a r
def oN:List Int->List Int
 | []=>[]
 |a::r=>aAP a (oN r)
def U0 (l:List Int):Option (List Int):=some (oN l)
def IL (k:IntKind) (a b:Int):Int:=k.wrap (BitVec.ofInt k.bits a&&&BitVec.ofInt k.bits b).toNat
def bOr (k:IntKind) (a b:Int):Int:=k.wrap (BitVec.ofInt k.bits a|||BitVec.ofInt k.bits b).toNat
def aYq (k:IntKind) (a b:Int):Int:=k.wrap (BitVec.ofInt k.bits a^^^BitVec.ofInt k.bits b).toNat
def aHm (k:IntKind) (a b:Int):Int:=k.wrap (BitVec.ofInt k.bits a&&& ~~~ BitVec.ofInt k.bits b).toNat
def aYr (k:IntKind) (a b:Int):Int:=k.wrap (a*2^(min b.toNat k.bits))
def iT (k:IntKind) (a b:Int):Int:=a.fdiv (2^(min b.toNat k.bits))
def xI (s:ByteArray) (i:Int):Option Int:=
 match i with
 | .ofNat n=>s[n]?.map fun b=>(b.toNat:Int)
 | .negSucc _=>none
def NN (l:List (List Int)) (k:List Int):Bool:=l.any fun m=>k==m
def aAQ (l:List (List Int)) (k:List Int):List (List Int):=bif NN l k then l else l++[k]
def sF (a:List Int) (l:List (List Int)):Bool:=l.all fun b=>bu b.length a.length
def XY (l:List (List Int)) (k:List Int):Option Bool:=bif sF k l then some (NN l k) else none
def XZ (l:List (List Int)) (k:List Int):Option (List (List Int)):=bif sF k l then some (aAQ l k) else none
def vV {α:Type} (z:α):List (Int×α)->Int->α
 | [],_=>z
 |p::r,k=>bif k==p.1 then p.2 else vV z r k
def tK {α:Type}:List (Int×α)->Int->α->List (Int×α)
 | [],k,a=>[(k,a)]
 |p::r,k,a=>bif k==p.1 then (k,a)::r else p::tK r k a
section
variable {F : qT}
end
end Go.Vm
/- A logical machine over typed values: it turns a function's code into a plain term. What it computes is tied to the logical machine in SvRun. -/
namespace Go.Vm
inductive PT where
 |i (k:IntKind)
 |b
@[reducible] def PT.T : PT -> Type
  | .i _ => Int
  | .b => Bool
@[reducible] def RT : List PT -> Type
  | [] => Unit
  | [p] => p.T
  | p :: q :: r => p.T × RT (q :: r)
inductive SV where
 |junk
 |undef
 |nul
 |nilf
 |int (k:IntKind) (n:Int)
 |bool (b:Bool)
 |str (s:ByteArray)
 |agg (cs:List SV)
 |tup (cs:List SV)
 |sl (r:List PT) (l:List (RT r))
 |nil (e:Nat) (c:Bool)
 |own (t:Nat) (ex:Bool)
 |pre (t len cap:Nat) (ex:Bool)
 |part (t off len cap:Nat) (ex:Bool)
 |pa (t:Nat) (r:List PT) (i:Int) (a:RT r) (off:Nat)
 |pb (t:Nat) (i:Int) (off:Nat)
 |bp (t n off:Nat)
 |rptr (cs:List SV) (off:Nat)
 |clo (f:FuncId) (a b:List SV)
 |mp (t:Nat)
inductive SB where
 |arr (r:List PT) (l:List (RT r))
 |box (cs:List SV)
 |set (l:List (List Int))
 |tab (p:PT) (l:List (RT [.i .i64,p]))
 |dead
abbrev SE:=List (Nat×SV)
structure vW where
 env:SE
 sto:List SB
 fz:List Nat
 kn:Nat
structure Rows where
 r:List PT
 l:List (RT r)
def PT.same:PT->PT->Bool
 | .i k,.i l=>gH k l
 | .b,.b=>true
 |_,_=>false
def JU:List PT->List PT->Bool
 | [],[]=>true
 |p::r,q::s=>p.same q&&JU r s
 |_,_=>false
theorem PT.same_eq: ∀{p q:PT},p.same q=true->p=q
 | .i k,.i l,h=>by rw [gA.1 h]
 | .b,.b,_=>rfl
 | .i _,.b,h=>by cases h
 | .b,.i _,h=>by cases h
theorem B9: ∀{r s:List PT},JU r s=true->r=s
 | [],[],_=>rfl
 |p::r,q::s,h=>by
  simp only [JU,bq] at h;rw [PT.same_eq h.1,B9 h.2]
 | [],_::_,h=>by cases h
 |_::_,[],h=>by cases h
def AD (r q:List PT) (l:List (RT r)):Option (List (RT q)):=if h:JU r q=true then some (B9 h▸l) else none
def PT.pv:(p:PT)->p.T->PV
 | .i k,n=> .int k n
 | .b,x=> .bool x
def RT.pv:(r:List PT)->RT r->List PV
 | [],_=>[]
 | [p],a=>[p.pv a]
 |p::q::r,a=>p.pv a.1::RT.pv (q::r) a.2
def PT.sv:(p:PT)->p.T->SV
 | .i k,n=> .int k n
 | .b,x=> .bool x
def RT.sv:(r:List PT)->RT r->List SV
 | [],_=>[]
 | [p],a=>[p.sv a]
 |p::q::r,a=>p.sv a.1::RT.sv (q::r) a.2
def PT.of:(p:PT)->SV->Option p.T
 | .i k,.int l n=>bif gH l k then some n else none
 | .b,.bool x=>some x
 |_,_=>none
def RT.of:(r:List PT)->List SV->Option (RT r)
 | [],[]=>some ()
 | [p],[v]=>p.of v
 |p::q::r,v::vs=>match p.of v,RT.of (q::r) vs with
  |some a,some b=>some (a,b)
  |_,_=>none
 |_,_=>none
def PT.zero:(p:PT)->p.T
 | .i _=>(0:Int)
 | .b=>false
def RT.zero:(r:List PT)->RT r
 | []=>()
 | [p]=>p.zero
 |p::q::r=>(p.zero,RT.zero (q::r))
def fU:PV->Option PT
 | .int k n=>match n with
  | .ofNat 0=>some (.i k)
  |_=>none
 | .bool b=>match b with
  |false=>some .b
  |true=>none
 |_=>none
def PC:List PV->Option (List PT)
 | []=>some []
 |v::vs=>match fU v,PC vs with
  |some p,some r=>some (p::r)
  |_,_=>none
def nth {α:Type}:List α->Nat->Option α
 | [],_=>none
 |x::_,0=>some x
 |_::r,n+1=>nth r n
theorem cT {α:Type}: ∀(l:List α) (n:Nat),nth l n=l[n]?
 | [],n=>by simp [nth]
 |x::r,0=>by simp [nth]
 |x::r,n+1=>by simp [nth,cT r n]
def SC (t:Nat):SE->SV
 | []=> .undef
 |(s,v)::r=>bif bu s t then v else SC t r
def setS (t:Nat) (v:SV):SE->SE
 | []=>[]
 |(s,x)::r=>bif bu s t then (s,v)::r else (s,x)::setS t v r
mutual
def aHn:PV->SV
 | .undef=> .undef
 | .nul=> .nul
 | .nilf=> .nilf
 | .int k n=> .int k n
 | .bool b=> .bool b
 | .str s=> .str s
 | .agg cs=> .agg (ofPVL cs)
 | .tup cs=> .tup (ofPVL cs)
 | .sl e c rows=>match rows with
  | []=> .nil e c
  |_=> .junk
 | .clo f a b=> .clo f (ofPVL a) (ofPVL b)
 |_=> .junk
def ofPVL:List PV->List SV
 | []=>[]
 |x::xs=>aHn x::ofPVL xs
end
def cK (e:SE):gX->SV
 | .t n=>SC n e
 | .c v=>aHn v
def mF (e:SE):List gX->List SV
 | []=>[]
 |x::xs=>cK e x::mF e xs
def SV.isOne:SV->Bool
 | .junk| .undef| .nul| .agg _| .tup _=>false
 |_=>true
def allOne:List SV->Bool
 | []=>true
 |x::xs=>x.isOne&&allOne xs
def SV.cells:SV->List SV
 | .agg cs=>cs
 |v=>[v]
def SV.stored (v:SV):Option (List SV):=bif allOne v.cells then some v.cells else none
def HH (agg:Option Nat) (off:Nat) (cs:List SV):Option SV:=
 match agg with
 |some s=>bif cz (off+s) cs.length then some (.agg ((cs.drop off).take s)) else none
 |none=>nth cs off
def uT (off:Nat) (new old:List SV):List SV:=old.take off++new++old.drop (off+new.length)
def HI (s:List SB):SV->Option Rows
 | .sl r l=>some ⟨r,l⟩
 | .own t _=>match nth s t with
  |some (.arr r l)=>some ⟨r,l⟩
  |_=>none
 | .pre t len _ _=>match nth s t with
  |some (.arr r l)=>some ⟨r,l.take len⟩
  |_=>none
 | .part t off len _ _=>match nth s t with
  |some (.arr r l)=>some ⟨r,(l.drop off).take len⟩
  |_=>none
 |_=>none
def C2:SV->List Nat
 | .own t _=>[t]
 | .pre t _ _ _=>[t]
 | .part t _ _ _ _=>[t]
 |_=>[]
structure iD where
 v:SV
 news:List SB:=[]
 wr:List (Nat×SB):=[]
 rd:List Nat:=[]
 fr:List Nat:=[]
def jK (R:Type):= ∀ρ:Type,(R->ρ)->Option ρ
section
variable {R : Type}
def S9 (b:R):jK R:=fun _ w=>some (w b)
def aQ:jK R:=fun _ _=>none
def oO {α:Type} (x:Option α) (f:α->jK R):jK R:=fun ρ w=>aO4 x fun a=>f a ρ w
def iY (c:Bool) (a b:jK R):jK R:=fun ρ w=>aO5 c (a ρ w) (b ρ w)
def aHo (v:SV) (k:SV->jK R):jK R:=
 match v with
 | .junk=>k .junk
 | .undef=>k .undef
 | .nul=>k .nul
 | .nilf=>k .nilf
 | .int a b=>k (.int a b)
 | .bool a=>k (.bool a)
 | .str a=>k (.str a)
 | .agg a=>k (.agg a)
 | .tup a=>k (.tup a)
 | .sl a b=>k (.sl a b)
 | .nil a b=>k (.nil a b)
 | .own a b=>k (.own a b)
 | .pre a b c d=>k (.pre a b c d)
 | .part a b c d x=>k (.part a b c d x)
 | .pa a b c d e=>k (.pa a b c d e)
 | .pb a b c=>k (.pb a b c)
 | .bp a b c=>k (.bp a b c)
 | .rptr a b=>k (.rptr a b)
 | .clo a b c=>k (.clo a b c)
 | .mp a=>k (.mp a)
theorem U1 (v:SV) (k:SV->jK R):aHo v k=k v:=by cases v<;>rfl
def aAR (op:BinOp) (k:IntKind) (a b:Int) (c:SV->jK R):jK R:=
 match op with
 | .add=>c (.int k (aA k (a+b)))
 | .sub=>c (.int k (aA k (a-b)))
 | .mul=>c (.int k (aA k (a*b)))
 | .quo=>iY (b==0) aQ (c (.int k (aA k (Int.tdiv a b))))
 | .rem=>iY (b==0) aQ (c (.int k (Int.tmod a b)))
 | .and=>c (.int k (IL k a b))
 | .or=>c (.int k (bOr k a b))
 | .xor=>c (.int k (aYq k a b))
 | .andNot=>c (.int k (aHm k a b))
 | .eql=>c (.bool (a==b))
 | .neq=>c (.bool (a !=b))
 | .lss=>c (.bool (decide (a<b)))
 | .leq=>c (.bool (decide (a<=b)))
 | .gtr=>c (.bool (decide (b<a)))
 | .geq=>c (.bool (decide (b<=a)))
 | .shl| .shr=>aQ
def eqS:List SV->List SV->Option Bool
 | [],[]=>some true
 |x::xs,y::ys=>match x,y with
  | .int k a,.int l b=>bif gH k l then (match xs with
   | []=>(match ys with| []=>some (a==b)|_=>none)
   |_::_=>match eqS xs ys with
    |some r=>some (a==b&&r)
    |none=>none) else none
  |_,_=>none
 |_,_=>none
def C3:List (Nat×Nat×SV)->List SV->Option (List SV)
 | [],cs=>some cs
 |(off,sz,v)::r,cs=>match v.stored with
  |some w=>bif bu w.length sz&&cz (off+sz) cs.length then C3 r (uT off w cs) else none
  |none=>none
def FB (e:SE):List (Nat×Nat×gX)->List (Nat×Nat×SV)
 | []=>[]
 |p::r=>(p.1,p.2.1,cK e p.2.2)::FB e r
def aCb (r:List PT) (e:SE) (n:Nat):List (Nat×gX)->Option (List (Nat×RT r))
 | []=>some []
 |p::ps=>match RT.of r (cK e p.2).cells,aCb r e n ps with
  |some a,some l=>bif dt p.1 n then some ((p.1,a)::l) else none
  |_,_=>none
def M4 {α:Type} (i:Nat):α->List (Nat×α)->α
 |z,[]=>z
 |z,(j,a)::r=>M4 i (bif bu j i then a else z) r
def U2 {α:Type} (f:Nat->α):Nat->Nat->List α
 |_,0=>[]
 |i,n+1=>f i::U2 f (i+1) n
def LV (e:SE) (d:Int):Option gX->Option Int
 |none=>some d
 |some x=>match cK e x with
  | .int _ n=>some n
  |_=>none
def mmS (isMax:Bool) (k:IntKind):Int->List SV->Option SV
 |a,[]=>some (.int k a)
 |a,x::r=>match x with
  | .int l b=>bif gH k l then mmS isMax k (bif isMax then (if b>a then b else a) else (if b<a then b else a)) r else none
  |_=>none
def aCc:List SV->Option (List Int)
 | []=>some []
 |x::xs=>match x,aCc xs with
  | .int .i64 n,some l=>some (n::l)
  |_,_=>none
def aHp (n:Option Nat) (v:SV):Option (List Int):=
 match n,v with
 |none,.int .i64 a=>some [a]
 |some n,.agg cs=>bif bu cs.length n&&!Nat.beq n 1 then aCc cs else none
 |_,_=>none
def X0 (n:Nat) (i:Int) (j:Nat) (f:Nat->jK R):jK R:=
 match n with
 |0=>aQ
 |n+1=>iY (i==fg j) (f j) (X0 n i (j+1) f)
def oP {α:Type} (x:Option α) (k:α->jK R):jK R:=
 match x with
 |some a=>k a
 |none=>aQ
def ofV (k:iD->jK R) (v:SV):jK R:=k {v}
def aO6 (s:List SB) (esz:Nat) (x:SV) (i:Int) (k:iD->jK R):jK R:=
 match x with
 | .sl r l=>bif bu r.length esz then oO (aN l i) fun a=>k {v:= .rptr (RT.sv r a) 0} else aQ
 | .own t _=>match nth s t with
  |some (.arr r l)=>bif bu r.length esz then oO (aN l i) fun a=>k {v:= .pa t r i a 0} else aQ
  |_=>aQ
 | .pre t len _ _=>match nth s t with
  |some (.arr r l)=>bif bu r.length esz then oO (aN (l.take len) i) fun a=>k {v:= .pa t r i a 0} else aQ
  |_=>aQ
 | .part t off len _ _=>match nth s t with
  |some (.arr r l)=>bif bu r.length esz then oO (aN ((l.drop off).take len) i) fun a=>k {v:= .pa t r (.ofNat (off+i.toNat)) a 0} else aQ
  |_=>aQ
 |_=>aQ
def aO7 (s:List SB) (agg:Option Nat) (p:SV) (k:iD->jK R):jK R:=
 match p with
 | .bp t _ off=>match nth s t with
  |some (.box cs)=>oP (HH agg off cs) fun v=>k {v,rd:=[t]}
  |_=>aQ
 | .pa t r _ a off=>match nth s t with
  |some (.arr _ _)=>oP (HH agg off (RT.sv r a)) fun v=>k {v,rd:=[t]}
  |_=>aQ
 | .pb t i off=>match nth s t with
  |some (.arr r l)=>oO (aN l i) fun a=>oP (HH agg off (RT.sv r a)) fun v=>k {v,rd:=[t]}
  |_=>aQ
 | .rptr cs off=>oP (HH agg off cs) fun v=>k {v}
 |_=>aQ
def aE7 (s:List SB) (z:List Nat) (sz:Nat) (p v:SV) (k:iD->jK R):jK R:=
 match p with
 | .bp t _ off=>match nth s t with
  |some (.box cs)=>oP v.stored fun w=>bif bu w.length sz&&cz (off+sz) cs.length&&!has z t then k {v:= .undef,wr:=[(t,.box (uT off w cs))]} else aQ
  |_=>aQ
 | .pa t r i a off=>match nth s t with
  |some (.arr q l)=>bif bu v.cells.length sz&&cz (off+sz) r.length&&!has z t then
   oP (RT.of q (uT off v.cells (RT.sv r a))) fun b=>k {v:= .undef,wr:=[(t,.arr q (cM l i b))]} else aQ
  |_=>aQ
 | .pb t i off=>match nth s t with
  |some (.arr q l)=>bif bu v.cells.length sz&&cz (off+sz) q.length&&!has z t then
   (bif bu sz q.length then oP (RT.of q v.cells) fun b=>k {v:= .undef,wr:=[(t,.arr q (cM l i b))]}
   else oO (aN l i) fun a=>oP (RT.of q (uT off v.cells (RT.sv q a))) fun b=>k {v:= .undef,wr:=[(t,.arr q (cM l i b))]}) else aQ
  |_=>aQ
 |_=>aQ
def aAS (e:SE) (t off len cap:Nat) (ex:Bool) (lo hi mx:Option gX) (k:iD->jK R):jK R:=
 oP (LV e 0 lo) fun a=>oP (LV e (.ofNat len) hi) fun b=>match mx with
  |none=>iY (decide (0<=a)&&decide (a<=b)&&decide (b<= .ofNat cap)) (k {v:= .part t (off+a.toNat) (b.toNat-a.toNat) (cap-a.toNat) ex}) aQ
  |some m=>match cK e m with
   | .int _ c=>iY (decide (0<=a)&&decide (a<=b)&&decide (b<=c)&&decide (c<= .ofNat cap)) (k {v:= .part t (off+a.toNat) (b.toNat-a.toNat) (c.toNat-a.toNat) true}) aQ
   |_=>aQ
def aVM (e:SE) (s:List SB) (esz:Nat) (x:SV) (lo hi mx:Option gX) (k:iD->jK R):jK R:=
 match x with
 | .sl r l=>match mx with
  |none=>bif bu r.length esz then oP (LV e 0 lo) fun a=>oP (LV e (fg l.length) hi) fun b=>oO (jS l a b) fun m=>k {v:= .sl r m} else aQ
  |some _=>aQ
 | .own t ex=>match nth s t with
  |some (.arr r l)=>bif bu r.length esz then (match lo,hi,mx with
   |none,none,none=>k {v:= .own t ex}
   |none,some h,none=>match cK e h with
    | .int _ b=>oO (jS l 0 b) fun _=>k {v:= .pre t b.toNat l.length ex}
    |_=>aQ
   |lo,hi,mx=>aAS e t 0 l.length l.length ex lo hi mx k) else aQ
  |_=>aQ
 | .pre t len cap ex=>match nth s t with
  |some (.arr r _)=>bif bu r.length esz then (match lo,hi,mx with
   |none,none,none=>iY (cz len cap) (k {v:= .pre t len cap ex}) aQ
   |none,some h,none=>match cK e h with
    | .int _ b=>iY (decide (0<=b)&&decide (b<= .ofNat cap)) (k {v:= .pre t b.toNat cap ex}) aQ
    |_=>aQ
   |lo,hi,mx=>aAS e t 0 len cap ex lo hi mx k) else aQ
  |_=>aQ
 | .part t off len cap ex=>match nth s t with
  |some (.arr r _)=>bif bu r.length esz then aAS e t off len cap ex lo hi mx k else aQ
  |_=>aQ
 |_=>aQ
def jY {α:Type} (l:List α) (n:Nat) (m:List α):List α:=l.take n++m++l.drop (n+m.length)
def SV.isPart:SV->Bool
 | .part .. =>true
 |_=>false
def aCd (s:List SB) (z:List Nat) (esz:Nat) (x y:SV) (k:iD->jK R):jK R:=
 match HI s y with
 |none=>aQ
 |some ⟨q,m⟩=>bif bu q.length esz then (match x with
  | .nil _ c=>bif c then oO (cC m) fun m'=>k {v:= .own s.length false,news:=[.arr q m'],rd:=C2 y} else aQ
  | .own t ex=>match nth s t with
   |some (.arr r l)=>match AD q r m with
    |none=>aQ
    |some m=>match ex with
     |true=>iY l.isEmpty (oO (cC m) fun m'=>k {v:= .own s.length false,news:=[.arr r m'],rd:=t::C2 y})
      (iY m.isEmpty (k {v:= .own t true,rd:=C2 y}) (oO (bV l m) fun l'=>k {v:= .own s.length false,news:=[.arr r l'],rd:=t::C2 y}))
     |false=>iY m.isEmpty (k {v:= .own t false,rd:=C2 y})
      (bif has z t then aQ else oO (bV l m) fun l'=>k {v:= .own s.length false,news:=[.arr r l'],wr:=[(t,.dead)],rd:=C2 y})
   |_=>aQ
  | .pre t len cap ex=>match nth s t with
   |some (.arr r l)=>match AD q r m with
    |none=>aQ
    |some m=>bif ex then aQ else iY m.isEmpty (k {v:= .pre t len cap false,rd:=C2 y})
     (iY (cz (len+m.length) cap) (iY (cz (len+m.length) l.length&&!has z t) (k {v:= .pre t (len+m.length) cap false,wr:=[(t,.arr r (jY l len m))],rd:=C2 y}) aQ)
      (bif has z t||y.isPart then aQ else oO (bV (l.take len) m) fun l'=>iY (cz len l.length) (k {v:= .own s.length false,news:=[.arr r l'],wr:=[(t,.dead)],rd:=C2 y}) aQ))
   |_=>aQ
  |_=>aQ) else aQ
def aE8 (s:List SB) (z:List Nat) (esz:Nat) (zero:rY) (x:SV) (k:iD->jK R):jK R:=
 match x with
 | .part t off len _ _=>match nth s t with
  |some (.arr r l)=>match PC zero with
   |some q=>bif JU q r&&bu r.length esz then iY (bu len 0) (k {v:= .undef})
    (iY (cz (off+len) l.length&&!has z t) (k {v:= .undef,wr:=[(t,.arr r (jY l off (dm len (RT.zero r))))]}) aQ) else aQ
   |none=>aQ
  |_=>aQ
 |_=>aQ
def aCe (n:Option Nat) (zero:PV) (ok:Bool) (t:Nat) (l:List (List Int)) (q:SV) (k:iD->jK R):jK R:=
 match zero,ok with
 | .bool false,false=>oP (aHp n q) fun a=>oO (XY l a) fun b=>k {v:= .bool b,rd:=[t]}
 |_,_=>aQ
def aE9 (n:Option Nat) (t:Nat) (l:List (List Int)) (q x:SV) (k:iD->jK R):jK R:=
 match x with
 | .bool true=>oP (aHp n q) fun a=>oO (XZ l a) fun m=>k {v:= .undef,wr:=[(t,.set m)]}
 |_=>aQ
def PT.get:(p:PT)->p.T->List (RT [.i .i64,p])->Int->p.T
 | .i _,z,l,k=>vV (α:=Int) z l k
 | .b,z,l,k=>vV (α:=Bool) z l k
def PT.put:(p:PT)->List (RT [.i .i64,p])->Int->p.T->List (RT [.i .i64,p])
 | .i _,l,k,a=>tK (α:=Int) l k a
 | .b,l,k,a=>tK (α:=Bool) l k a
def aCf (n:Option Nat) (zero:PV) (ok:Bool) (t:Nat) (p:PT) (l:List (RT [.i .i64,p])) (q:SV) (k:iD->jK R):jK R:=
 match n with
 |none=>match ok with
  |false=>match q with
   | .int .i64 a=>oP (p.of (aHn zero)) fun z=>k {v:=p.sv (p.get z l a),rd:=[t]}
   |_=>aQ
  |true=>aQ
 |some _=>aQ
def aFa (n:Option Nat) (t:Nat) (p:PT) (l:List (RT [.i .i64,p])) (q x:SV) (k:iD->jK R):jK R:=
 match n with
 |none=>match q with
  | .int .i64 a=>oP (p.of x) fun v=>k {v:= .undef,wr:=[(t,.tab p (p.put l a v))]}
  |_=>aQ
 |some _=>aQ
def PD (s:List SB) (z:List Nat) (t:Nat) (r:List PT) (l:List (RT r)) (off len:Nat) (y:SV) (k:iD->jK R):jK R:=
 match HI s y with
 |none=>aQ
 |some ⟨q,m⟩=>match AD q r m with
  |none=>aQ
  |some m=>iY (m.take len).isEmpty (k {v:= .int .i64 0,rd:=C2 y})
   (iY (cz (off+(m.take len).length) l.length&&!has z t) (k {v:= .int .i64 (.ofNat (m.take len).length),wr:=[(t,.arr r (jY l off (m.take len)))],rd:=C2 y}) aQ)
def aO8 (s:List SB) (z:List Nat) (esz:Nat) (x y:SV) (k:iD->jK R):jK R:=
 match x with
 | .own t _=>match nth s t with
  |some (.arr r l)=>bif bu r.length esz then PD s z t r l 0 l.length y k else aQ
  |_=>aQ
 | .pre t len _ _=>match nth s t with
  |some (.arr r l)=>bif bu r.length esz then PD s z t r l 0 len y k else aQ
  |_=>aQ
 | .part t off len _ _=>match nth s t with
  |some (.arr r l)=>bif bu r.length esz then PD s z t r l off len y k else aQ
  |_=>aQ
 |_=>aQ
def qC (e:SE) (s:List SB) (z:List Nat) (op:oH) (k:iD->jK R):jK R:=
 match op with
 | .mov x=>k {v:=cK e x}
 | .pick c a b=>match cK e c with
  | .bool c=>iY c (k {v:=cK e a}) (k {v:=cK e b})
  |_=>aQ
 | .bin op x y=>match cK e x with
  | .int ka a=>match cK e y with
   | .int kb b=>match op with
    | .shl=>iY (decide (b<0)) aQ (k {v:= .int ka (aYr ka a b)})
    | .shr=>iY (decide (b<0)) aQ (k {v:= .int ka (iT ka a b)})
    |op=>bif gH ka kb then aAR op ka a b (ofV k) else aQ
   |_=>aQ
  |_=>aQ
 | .binb neg x y=>match cK e x with
  | .bool a=>match cK e y with
   | .bool b=>k {v:= .bool (bif neg then !(a==b) else a==b)}
   |_=>aQ
  |_=>aQ
 | .eqc n neg x y=>match cK e x with
  | .agg xs=>match cK e y with
   | .agg ys=>bif bu xs.length n&&bu ys.length n then oP (eqS xs ys) fun b=>k {v:= .bool (bif neg then !b else b)} else aQ
   |_=>aQ
  |_=>aQ
 | .un op x=>match op with
  | .neg=>match cK e x with
   | .int a n=>k {v:= .int a (aA a (0-n))}
   |_=>aQ
  | .not=>match cK e x with
   | .bool b=>k {v:= .bool !b}
   |_=>aQ
  |_=>aQ
 | .conv a x=>match cK e x with
  | .int _ n=>k {v:= .int a (aA a n)}
  |_=>aQ
 | .len x=>match cK e x with
  | .nil _ _=>k {v:= .int .i64 0}
  | .pre _ len _ _=>k {v:= .int .i64 (.ofNat len)}
  | .part _ _ len _ _=>k {v:= .int .i64 (.ofNat len)}
  |v=>oP (HI s v) fun c=>k {v:= .int .i64 (.ofNat c.l.length)}
 | .lenc n=>k {v:= .int .i64 (.ofNat n)}
 | .box x=>oP (cK e x).stored fun cs=>k {v:= .bp s.length cs.length 0,news:=[.box cs]}
 | .alloc cells=>k {v:= .bp s.length cells.length 0,news:=[.box (ofPVL cells)]}
 | .build zero parts=>oP (C3 (FB e parts) (ofPVL zero)) fun cs=>k {v:= .agg cs}
 | .mkrow esz n zero parts=>oP (PC zero) fun r=>bif bu r.length esz then oP (aCb r e n parts) fun ps=>
  k {v:= .own s.length true,news:=[.arr r (U2 (fun i=>M4 i (RT.zero r) ps) 0 n)]} else aQ
 | .load agg p=>aO7 s agg (cK e p) k
 | .store sz p v=>aE7 s z sz (cK e p) (cK e v) k
 | .nilc x=>match cK e x with
  | .pa t r i a o=>k {v:= .pa t r i a o}
  | .pb t i o=>k {v:= .pb t i o}
  | .bp t n o=>k {v:= .bp t n o}
  | .rptr c o=>k {v:= .rptr c o}
  | .clo f a b=>k {v:= .clo f a b}
  |_=>aQ
 | .fadr off p=>match cK e p with
  | .pa t r i a o=>k {v:= .pa t r i a (o+off)}
  | .pb t i o=>k {v:= .pb t i (o+off)}
  | .bp t n o=>k {v:= .bp t n (o+off)}
  | .rptr c o=>k {v:= .rptr c (o+off)}
  |_=>aQ
 | .fld agg off x=>match cK e x with
  | .agg cs=>oP (HH agg off cs) (ofV k)
  |_=>aQ
 | .iadr esz x i=>match cK e i with
  | .int _ n=>aO6 s esz (cK e x) n k
  |_=>aQ
 | .iadra n esz p i=>match cK e i with
  | .int _ j=>match cK e p with
   | .bp t m o=>X0 n j 0 fun j=>k {v:= .bp t m (o+j*esz)}
   | .rptr c o=>X0 n j 0 fun j=>k {v:= .rptr c (o+j*esz)}
   |_=>aQ
  |_=>aQ
 | .idx n esz agg x i=>match cK e i with
  | .int _ j=>match cK e x with
   | .agg cs=>X0 n j 0 fun j=>oP (HH agg (j*esz) cs) (ofV k)
   |_=>aQ
  |_=>aQ
 | .sidx x i=>match cK e i with
  | .int _ j=>match cK e x with
   | .str t=>oO (xI t j) fun b=>k {v:= .int .u8 b}
   |_=>aQ
  |_=>aQ
 | .slc esz x lo hi mx=>aVM e s esz (cK e x) lo hi mx k
 | .clear esz zero x=>aE8 s z esz zero (cK e x) k
 | .copy esz x y=>aO8 s z esz (cK e x) (cK e y) k
 | .mks esz zero l c=>match cK e l with
  | .int _ n=>match cK e c with
   | .int _ m=>iY (n==m) (oP (PC zero) fun r=>bif bu r.length esz then oO (rJ n (RT.zero r)) fun x=>k {v:= .own s.length true,news:=[.arr r x]} else aQ) aQ
   |_=>aQ
  |_=>aQ
 | .mkf fn a b=>k {v:= .clo fn (mF e a) (mF e b)}
 | .mkm z=>match z with
  |none=>k {v:= .mp s.length,news:=[.set []]}
  |some z=>oP (fU z) fun p=>k {v:= .mp s.length,news:=[.tab p []]}
 | .lookup n zero ok m q=>match cK e m with
  | .mp t=>match nth s t with
   |some (.set l)=>aCe n zero ok t l (cK e q) k
   |some (.tab p l)=>aCf n zero ok t p l (cK e q) k
   |_=>aQ
  |_=>aQ
 | .mapu n m q x=>match cK e m with
  | .mp t=>match nth s t with
   |some (.set l)=>bif has z t then aQ else aE9 n t l (cK e q) (cK e x) k
   |some (.tab p l)=>bif has z t then aQ else aFa n t p l (cK e q) (cK e x) k
   |_=>aQ
  |_=>aQ
 | .ext i x=>match cK e x with
  | .tup vs=>oP (nth vs i) (ofV k)
  |_=>aQ
 | .append esz x y=>aCd s z esz (cK e x) (cK e y) k
 | .mm isMax x xs=>match cK e x with
  | .int a n=>oP (mmS isMax a n (mF e xs)) (ofV k)
  |_=>aQ
 |_=>aQ
end
mutual
def TA (s:List SB) (bx:Nat->Option (List SV)):SV->Option SV
 | .int k n=>some (.int k n)
 | .bool b=>some (.bool b)
 | .str x=>some (.str x)
 | .nilf=>some .nilf
 | .agg cs=>match exVL s bx cs with|some l=>some (.agg l)|none=>none
 | .tup cs=>match exVL s bx cs with|some l=>some (.tup l)|none=>none
 | .sl r l=>some (.sl r l)
 | .nil e _=>some (.nil e false)
 | .own t _=>match nth s t with
  |some (.arr r l)=>some (.sl r l)
  |_=>none
 | .pre t len _ _=>match nth s t with
  |some (.arr r l)=>some (.sl r (l.take len))
  |_=>none
 | .part t off len _ _=>match nth s t with
  |some (.arr r l)=>some (.sl r ((l.drop off).take len))
  |_=>none
 | .pa t r _ a off=>match nth s t with
  |some (.arr _ _)=>some (.rptr (RT.sv r a) off)
  |_=>none
 | .bp t _ off=>match nth s t with
  |some (.box _)=>match bx t with|some l=>some (.rptr l off)|none=>none
  |_=>none
 | .rptr cs off=>match exVL s bx cs with|some l=>some (.rptr l off)|none=>none
 | .clo f a b=>match exVL s bx a,exVL s bx b with
  |some x,some y=>some (.clo f x y)
  |_,_=>none
 |_=>none
def exVL (s:List SB) (bx:Nat->Option (List SV)):List SV->Option (List SV)
 | []=>some []
 |x::xs=>match TA s bx x,exVL s bx xs with
  |some y,some ys=>some (y::ys)
  |_,_=>none
end
def aAT (s:List SB) (bx:Nat->Option (List SV)):List SV->Bool
 | []=>true
 |x::xs=>match x with
  | .mp _=>aAT s bx xs
  |x=>match TA s bx x with
   |some _=>aAT s bx xs
   |none=>false
def nU (s:List SB):Nat->Nat->Option (List SV)
 |0,_=>none
 |n+1,t=>match nth s t with
  |some (.box cs)=>exVL s (nU s n) cs
  |_=>none
mutual
def tkV (bx:Nat->List Nat):SV->List Nat
 | .agg cs=>tkVL bx cs
 | .tup cs=>tkVL bx cs
 | .own t _=>[t]
 | .pre t _ _ _=>[t]
 | .part t _ _ _ _=>[t]
 | .pa t _ _ _ _=>t::bx t
 | .pb t _ _=>t::bx t
 | .bp t _ _=>t::bx t
 | .rptr cs _=>tkVL bx cs
 | .mp t=>[t]
 | .clo _ a b=>tkVL bx a++tkVL bx b
 |_=>[]
def tkVL (bx:Nat->List Nat):List SV->List Nat
 | []=>[]
 |x::xs=>tkV bx x++tkVL bx xs
end
def EW (s:List SB):Nat->Nat->List Nat
 |0,_=>[]
 |n+1,t=>match nth s t with
  |some (.box cs)=>tkVL (EW s n) cs
  |_=>[]
mutual
def SV.sure:SV->Bool
 | .junk=>false
 | .agg cs=>sureL cs
 | .tup cs=>sureL cs
 | .rptr cs _=>sureL cs
 | .clo _ a b=>sureL a&&sureL b
 |_=>true
def sureL:List SV->Bool
 | []=>true
 |x::xs=>x.sure&&sureL xs
end
mutual
def IM:SV->Bool
 | .int _ _| .bool _| .str _=>true
 | .agg cs=>norefSL cs
 | .tup cs=>norefSL cs
 |_=>false
def norefSL:List SV->Bool
 | []=>true
 |x::xs=>IM x&&norefSL xs
end
mutual
def imV (s:List SB):SV->Option SV
 | .int k n=>some (.int k n)
 | .bool b=>some (.bool b)
 | .str x=>some (.str x)
 | .agg cs=>match imVL s cs with|some l=>some (.agg l)|none=>none
 | .tup cs=>match imVL s cs with|some l=>some (.tup l)|none=>none
 | .sl r l=>some (.sl r l)
 | .nil e _=>some (.nil e false)
 | .own t _=>match nth s t with
  |some (.arr r l)=>some (.sl r l)
  |_=>none
 | .pre t len _ _=>match nth s t with
  |some (.arr r l)=>some (.sl r (l.take len))
  |_=>none
 | .part t off len _ _=>match nth s t with
  |some (.arr r l)=>some (.sl r ((l.drop off).take len))
  |_=>none
 |_=>none
def imVL (s:List SB):List SV->Option (List SV)
 | []=>some []
 |x::xs=>match imV s x,imVL s xs with
  |some y,some ys=>some (y::ys)
  |_,_=>none
end
mutual
def aDP (s:List SB) (z:List Nat):List Nat->SV->Option (SV×List Nat)
 |seen,.int k n=>some (.int k n,seen)
 |seen,.bool b=>some (.bool b,seen)
 |seen,.agg cs=>match imOVL s z seen cs with|some p=>some (.agg p.1,p.2)|none=>none
 |seen,.tup cs=>match imOVL s z seen cs with|some p=>some (.tup p.1,p.2)|none=>none
 |seen,.nil e c=>bif c then some (.nil e false,seen) else none
 |seen,.own t _=>match nth s t with
  |some (.arr r l)=>bif has seen t||has z t then none else some (.sl r l,t::seen)
  |_=>none
 |_,_=>none
def imOVL (s:List SB) (z:List Nat):List Nat->List SV->Option (List SV×List Nat)
 |seen,[]=>some ([],seen)
 |seen,x::xs=>match aDP s z seen x with
  |some p=>match imOVL s z p.2 xs with
   |some q=>some (p.1::q.1,q.2)
   |none=>none
  |none=>none
end
mutual
def FC:Nat->SV->SV×List SB
 |nx,.sl r l=>(.own nx false,[.arr r l])
 |nx,.nil e _=>(.own nx false,[.arr (dm e (.i .i64)) []])
 |nx,.agg cs=>(.agg (ownOfL nx cs).1,(ownOfL nx cs).2)
 |nx,.tup cs=>(.tup (ownOfL nx cs).1,(ownOfL nx cs).2)
 |_,v=>(v,[])
def ownOfL:Nat->List SV->List SV×List SB
 |_,[]=>([],[])
 |nx,x::xs=>((FC nx x).1::(ownOfL (nx+(FC nx x).2.length) xs).1,(FC nx x).2++(ownOfL (nx+(FC nx x).2.length) xs).2)
end
def PE:SB->List Nat
 | .box cs=>tkVL zR cs
 |_=>[]
def GM:SB->Bool
 | .box cs=>sureL cs
 |_=>true
def LW (s:List SB):Nat->List Nat->List Nat->Option (List Nat)
 |_,[],seen=>some seen
 |0,_::_,_=>none
 |n+1,t::ts,seen=>
  bif has seen t then LW s n ts seen
  else match nth s t with
   |some b=>bif GM b then LW s n (PE b++ts) (seen++[t]) else none
   |none=>none
mutual
def vX (m:List Nat):SV->Option SV
 | .agg cs=>match renVL m cs with|some l=>some (.agg l)|none=>none
 | .tup cs=>match renVL m cs with|some l=>some (.tup l)|none=>none
 | .own t ex=>match vO t m with|some u=>some (.own u ex)|none=>none
 | .pre t len cap ex=>match vO t m with|some u=>some (.pre u len cap ex)|none=>none
 | .part t off len cap ex=>match vO t m with|some u=>some (.part u off len cap ex)|none=>none
 | .pa t _ i _ off=>match vO t m with|some u=>some (.pb u i off)|none=>none
 | .pb t i off=>match vO t m with|some u=>some (.pb u i off)|none=>none
 | .bp t n off=>match vO t m with|some u=>some (.bp u n off)|none=>none
 | .rptr cs off=>match renVL m cs with|some l=>some (.rptr l off)|none=>none
 | .mp t=>match vO t m with|some u=>some (.mp u)|none=>none
 | .clo f a b=>match renVL m a,renVL m b with
  |some x,some y=>some (.clo f x y)
  |_,_=>none
 | .junk=>none
 |v=>some v
def renVL (m:List Nat):List SV->Option (List SV)
 | []=>some []
 |x::xs=>match vX m x,renVL m xs with
  |some y,some ys=>some (y::ys)
  |_,_=>none
end
def aFc (m:List Nat):SB->Option SB
 | .box cs=>match renVL m cs with|some l=>some (.box l)|none=>none
 |b=>some b
def SG (s:List SB) (m:List Nat):List Nat->Option (List SB)
 | []=>some []
 |t::ts=>match nth s t with
  |some b=>match aFc m b,SG s m ts with
   |some b',some r=>some (b'::r)
   |_,_=>none
  |none=>none
def EJ (rk:List (Nat×List PT)) (esz:Nat):List PT:=
 match rk with
 | []=>dm esz (.i .i64)
 |(n,r)::q=>bif bu n esz&&bu r.length esz then r else EJ q esz
def U3:Option Nat->SV->SV
 |some _,.own t _=> .own t false
 |some _,.pre t l c _=> .pre t l c false
 |some _,.part t o l c _=> .part t o l c false
 |_,v=>v
def EK (rk:List (Nat×List PT)) (e:SE) (m:List Nat):Nat->List (Nat×Option Nat)->Option (SE×List SB)
 |_,[]=>some ([],[])
 |nx,(s,k)::r=>
  match k,SC s e with
  |some esz,.nil _ true=>match EK rk e m (nx+1) r with
   |some p=>some ((s,.own nx false)::p.1,.arr (EJ rk esz) []::p.2)
   |none=>none
  |_,v=>match vX m v,EK rk e m nx r with
   |some v',some p=>some ((s,U3 k v')::p.1,p.2)
   |_,_=>none
def PF (rk:List (Nat×List PT)) (st:vW) (t c esz:Nat):vW:=
 match nth st.sto t with
 |some (.box cs)=>match nth cs c with
  |some (.nil _ true)=>{st with sto:=st.sto.set t (.box (cs.set c (.own st.sto.length false)))++[.arr (EJ rk esz) []]}
  |_=>st
 |_=>st
def aFd:SV->Option Nat
 | .bp t _ 0=>some t
 |_=>none
def aHq:SV->Option Nat
 | .clo _ _ (x::_)=>aFd x
 |x=>aFd x
def pK (rk:List (Nat×List PT)):List (Nat×Option Nat)->vW->vW
 | [],st=>st
 |(s,k)::r,st=>match k with
  |some n=>bif cz 1000 n then (match aHq (SC s st.env) with
   |some t=>pK rk r (PF rk st t (n / 1000-1) (n%1000))
   |none=>pK rk r st) else pK rk r st
  |none=>pK rk r st
def TB (s:List SB) (v:SV):SV:=
 match v with
 | .own t ex=>match nth s t with
  |some (.arr _ l)=> .pre t l.length l.length ex
  |_=>v
 |_=>v
def aCg (s:List SB) (c:Nat):SE->SE
 | []=>[]
 |(t,v)::r=>bif bu t c then (t,TB s v)::r else (t,v)::aCg s c r
def JV:List (Nat×Option Nat)->vW->vW
 | [],st=>st
 |(t,_)::r,st=>bif cz 1000000 t then JV r {st with env:=aCg st.sto (t-1000000) st.env} else JV r st
def JW (e:SE):List (Nat×Option Nat)->Bool
 | []=>true
 |(s,_)::r=>(SC s e).sure&&JW e r
def PG (e:SE):List (Nat×Option Nat)->List Nat
 | []=>[]
 |(s,_)::r=>tkV zR (SC s e)++PG e r
def aAV:List SB->Nat->List Nat
 |b::r,n+1=>PE b++aAV r n
 |_,_=>[]
def PH:List SB->Nat->Bool
 |b::r,n+1=>GM b&&PH r n
 |_,_=>true
def PI (rk:List (Nat×List PT)) (live:List (Nat×Option Nat)) (st:vW):Option vW:=
 bif JW st.env live&&PH st.sto st.kn then
  match LW st.sto 4096 (aAV st.sto st.kn++PG st.env live) (BW st.kn) with
  |none=>none
  |some m=>match SG st.sto m m,EK rk st.env m m.length live with
   |some s1,some (e1,s2)=>some (JV live (pK rk live {env:=e1,sto:=s1++s2,fz:=E0 st.fz 0 m,kn:=st.kn}))
   |_,_=>none
 else none
def PJ (rk:List (Nat×List PT)) (live:List (Nat×Option Nat)) (st:vW):Option vW:=
 match PI rk live st with
 |some s=>bif live.any fun p=>p.2.isSome then PI rk live s else some s
 |none=>none
inductive AK where
 |i
 |b
 |n
 |l (r:List PT)
 |s
@[reducible] def AK.T : AK -> Type
  | .i => Int
  | .b => Bool
  | .n => Nat
  | .l r => List (RT r)
  | .s => List (List Int)
@[reducible] def mY : List AK -> Type
  | [] => Unit
  | [a] => a.T
  | a :: q :: r => a.T × mY (q :: r)
inductive EX where
 |i (n:Int)
 |b (x:Bool)
 |n (x:Nat)
 |l (r:List PT) (x:List (RT r))
 |s (x:List (List Int))
def EX.k:EX->AK
 | .i _=> .i
 | .b _=> .b
 | .n _=> .n
 | .l r _=> .l r
 | .s _=> .s
def AK.at:(a:AK)->a.T->EX
 | .i,x=> .i x
 | .b,x=> .b x
 | .n,x=> .n x
 | .l r,x=> .l r x
 | .s,x=> .s x
def AK.of:(a:AK)->EX->Option a.T
 | .i,.i x=>some x
 | .b,.b x=>some x
 | .n,.n x=>some x
 | .l r,.l q x=>AD q r x
 | .s,.s x=>some x
 |_,_=>none
def qD:(ks:List AK)->mY ks->List EX
 | [],_=>[]
 | [a],x=>[a.at x]
 |a::q::r,x=>a.at x.1::qD (q::r) x.2
def wX:(ks:List AK)->List EX->Option (mY ks)
 | [],[]=>some ()
 | [a],[x]=>a.of x
 |a::q::r,x::xs=>match a.of x,wX (q::r) xs with
  |some y,some ys=>some (y,ys)
  |_,_=>none
 |_,_=>none
mutual
def LX:SV->List EX
 | .int _ n=>[.i n]
 | .bool b=>[.b b]
 | .agg cs=>atsL cs
 | .tup cs=>atsL cs
 | .sl r l=>[.l r l]
 | .pre _ len cap _=>[.n len,.n cap]
 | .part _ off len cap _=>[.n off,.n len,.n cap]
 | .pb _ i _=>[.i i]
 | .rptr cs _=>atsL cs
 | .clo _ a b=>atsL a++atsL b
 |_=>[]
def atsL:List SV->List EX
 | []=>[]
 |x::xs=>LX x++atsL xs
end
def aFe:SB->List EX
 | .arr r l=>[.l r l]
 | .box cs=>atsL cs
 | .set l=>[.s l]
 | .tab p l=>[.l [.i .i64,p] l]
 | .dead=>[]
def U4:List SB->List EX
 | []=>[]
 |b::r=>aFe b++U4 r
def aDQ:SE->List EX
 | []=>[]
 |(_,v)::r=>LX v++aDQ r
def EL (st:vW):List EX:=aDQ st.env++U4 st.sto
mutual
def EM:SV->SV->Bool
 | .undef,.undef=>true
 | .nul,.nul=>true
 | .nilf,.nilf=>true
 | .int k _,.int l _=>gH k l
 | .bool _,.bool _=>true
 | .agg a,.agg b=>likeL a b
 | .tup a,.tup b=>likeL a b
 | .sl r _,.sl q _=>JU r q
 | .nil e c,.nil f d=>bu e f&&c==d
 | .own t x,.own u y=>bu t u&&x==y
 | .pre t _ _ x,.pre u _ _ y=>bu t u&&x==y
 | .part t _ _ _ x,.part u _ _ _ y=>bu t u&&x==y
 | .pb t _ o,.pb u _ p=>bu t u&&bu o p
 | .bp t n o,.bp u m p=>bu t u&&bu n m&&bu o p
 | .rptr a o,.rptr b p=>likeL a b&&bu o p
 | .clo f a b,.clo g c d=>bu f g&&likeL a c&&likeL b d
 | .mp t,.mp u=>bu t u
 |_,_=>false
def likeL:List SV->List SV->Bool
 | [],[]=>true
 |x::xs,y::ys=>EM x y&&likeL xs ys
 |_,_=>false
end
def aO9:SB->SB->Bool
 | .arr r _,.arr q _=>JU r q
 | .box a,.box b=>likeL a b
 | .set _,.set _=>true
 | .tab p _,.tab q _=>p.same q
 | .dead,.dead=>true
 |_,_=>false
def PK:List SB->List SB->Bool
 | [],[]=>true
 |x::xs,y::ys=>aO9 x y&&PK xs ys
 |_,_=>false
def aCh:SE->SE->Bool
 | [],[]=>true
 |(t,x)::xs,(u,y)::ys=>bu t u&&EM x y&&aCh xs ys
 |_,_=>false
def aCi:List Nat->List Nat->Bool
 | [],[]=>true
 |x::xs,y::ys=>bu x y&&aCi xs ys
 |_,_=>false
def PL (a b:vW):Bool:=aCh a.env b.env&&PK a.sto b.sto&&aCi a.fz b.fz&&bu a.kn b.kn
mutual
def zV:SV->List EX->SV×List EX
 | .int k _,.i n::q=>(.int k n,q)
 | .bool _,.b x::q=>(.bool x,q)
 | .agg cs,q=>(.agg (putL cs q).1,(putL cs q).2)
 | .tup cs,q=>(.tup (putL cs q).1,(putL cs q).2)
 | .sl _ _,.l r l::q=>(.sl r l,q)
 | .pre t _ _ x,.n len:: .n cap::q=>(.pre t len cap x,q)
 | .part t _ _ _ x,.n off:: .n len:: .n cap::q=>(.part t off len cap x,q)
 | .pb t _ o,.i i::q=>(.pb t i o,q)
 | .rptr cs o,q=>(.rptr (putL cs q).1 o,(putL cs q).2)
 | .clo f a b,q=>(.clo f (putL a q).1 (putL b (putL a q).2).1,(putL b (putL a q).2).2)
 |v,q=>(v,q)
def putL:List SV->List EX->List SV×List EX
 | [],q=>([],q)
 |x::xs,q=>((zV x q).1::(putL xs (zV x q).2).1,(putL xs (zV x q).2).2)
end
def aAW:SB->List EX->SB×List EX
 | .arr _ _,.l r l::q=>(.arr r l,q)
 | .box cs,q=>(.box (putL cs q).1,(putL cs q).2)
 | .set _,.s l::q=>(.set l,q)
 | .tab _ _,.l [.i .i64,p] l::q=>(.tab p l,q)
 |b,q=>(b,q)
def IN:List SB->List EX->List SB×List EX
 | [],q=>([],q)
 |b::r,q=>((aAW b q).1::(IN r (aAW b q).2).1,(IN r (aAW b q).2).2)
def X1:SE->List EX->SE×List EX
 | [],q=>([],q)
 |(t,v)::r,q=>((t,(zV v q).1)::(X1 r (zV v q).2).1,(X1 r (zV v q).2).2)
def HJ (st:vW) (q:List EX):vW:={st with env:=(X1 st.env q).1,sto:=(IN st.sto (X1 st.env q).2).1}
def aPx:List EX->List AK
 | []=>[]
 |a::r=>a.k::aPx r
def ptK {β:Type 1} (p:PT) (c:PT->β):β:=
 match p with
 | .i k=>c (.i k)
 | .b=>c .b
def rK {β:Type 1}:List PT->(List PT->β)->β
 | [],c=>c []
 |p::r,c=>ptK p fun p=>rK r fun r=>c (p::r)
def ksK {β:Type 1}:List AK->(List AK->β)->β
 | [],c=>c []
 | .i::r,c=>ksK r fun r=>c (.i::r)
 | .b::r,c=>ksK r fun r=>c (.b::r)
 | .n::r,c=>ksK r fun r=>c (.n::r)
 | .l q::r,c=>rK q fun q=>ksK r fun r=>c (.l q::r)
 | .s::r,c=>ksK r fun r=>c (.s::r)
mutual
def yL:SV->Option PV
 | .int k n=>some (.int k n)
 | .bool b=>some (.bool b)
 | .str x=>some (.str x)
 | .nilf=>some .nilf
 | .agg cs=>match pvL cs with|some l=>some (.agg l)|none=>none
 | .tup cs=>match pvL cs with|some l=>some (.tup l)|none=>none
 | .sl r l=>some (.sl r.length false (l.map (RT.pv r)))
 | .nil e c=>some (.sl e c [])
 | .rptr cs off=>match pvL cs with|some l=>some (.rptr l off)|none=>none
 | .clo f a b=>match pvL a,pvL b with
  |some x,some y=>some (.clo f x y)
  |_,_=>none
 |_=>none
def pvL:List SV->Option (List PV)
 | []=>some []
 |x::xs=>match yL x,pvL xs with
  |some y,some ys=>some (y::ys)
  |_,_=>none
end
structure cP (α:Type) where
 enc:α->List SV
 dec:List SV->Option (α×List SV)
 law: ∀{vs:List SV} {a:α} {rest:List SV} {ps:List PV},dec vs=some (a,rest)->pvL vs=some ps-> ∃p q,ps=p++q/\pvL (enc a)=some p/\pvL rest=some q
structure aJ (α:Type) where
 enc:α->SV
 dec:SV->Option α
 law: ∀{v:SV} {a:α} {p:PV},dec v=some a->yL v=some p->yL (enc a)=some p
structure aD (α:Type) where
 enc:α->List SV
 dec:List SV->Option α
 law: ∀{vs:List SV} {a:α} {ps:List PV},dec vs=some a->pvL vs=some ps->pvL (enc a)=some ps
inductive Kd where
 |pure
 |frz
 |own
structure bO where
 {α β:Type}
 args:aD α
 res:aJ β
 fn:α->Option β
 kd:Kd
 ow:Bool
structure eM where
 ka:List AK
 ta:List SV
 tb:List SB
 ko:List AK
 tv:SV
 to:List SB
 fn:mY ka->Option (mY ko)
def JX:(p:PT)->PV->Option p.T
 | .i k,.int l n=>bif gH l k then some n else none
 | .b,.bool x=>some x
 |_,_=>none
def SH:(r:List PT)->List PV->Option (RT r)
 | [],[]=>some ()
 | [p],[v]=>JX p v
 |p::q::r,v::vs=>match JX p v,SH (q::r) vs with
  |some a,some b=>some (a,b)
  |_,_=>none
 |_,_=>none
def M5 (r:List PT):List (List PV)->Option (List (RT r))
 | []=>some []
 |x::xs=>match SH r x,M5 r xs with
  |some a,some l=>some (a::l)
  |_,_=>none
structure Srt where
 r:List PT
 g:Option FuncId
 fn:List (RT r)->Option (List (RT r))
def aAX:Srt:=⟨[.i .i64],none,U0⟩
def aHr:Option FuncId->List PV->Bool
 |none,[]=>true
 |some g,[.clo h [] []]=>bu h g
 |_,_=>false
def U5 (q:Srt) (args:List PV) (sto:dC) (fz:List Nat):Option (PV×dC×List Nat):=
 match args with
 | .own t e off len _ _::r=>match sto[t]? with
  |some (.arr e1 rows)=>if bu e q.r.length&&bu off 0&&cz len rows.length&&cz len most&&!has fz t&&aHr q.g r then
   (match M5 q.r (rows.take len) with
   |some l=>match q.fn l with
    |some m=>if bu m.length l.length then some (.tup [],sto.set t (.arr e1 (m.map (RT.pv q.r)++rows.drop len)),fz) else none
    |none=>none
   |none=>none) else none
  |_=>none
 |_=>none
inductive Cd where
 |code (x:aM)
 |ins (esz:Nat)
 |srt (q:Srt)
instance:Coe aM Cd:=⟨.code⟩
def Cd.ent:Cd->Ent
 | .code x=> .code x
 | .ins n=> .shp (aEE n)
 | .srt q=> .shp (U5 q)
structure Ctx where
 lp:Option Nat
 con:FuncId->List bO
 fpc:FuncId->List eM
 code:FuncId->Option Cd
 rk:List (Nat×List PT)
inductive XRS where
 |loc (r:iD)
 |shr (v:SV) (s:List SB) (z:List Nat)
def SV.hasPtr:SV->Bool
 | .own .. | .pre .. | .part .. | .pa .. | .pb .. | .bp .. | .mp .. =>true
 |_=>false
def anyPtr:List SV->Bool
 | []=>false
 |x::xs=>x.hasPtr||anyPtr xs
mutual
def dgV (ts:List Nat):SV->SV
 | .pa t r i a off=>bif has ts t then .pb t i off else .pa t r i a off
 | .agg cs=> .agg (dgL ts cs)
 | .tup cs=> .tup (dgL ts cs)
 | .rptr cs off=> .rptr (dgL ts cs) off
 | .clo f a b=> .clo f (dgL ts a) (dgL ts b)
 |v=>v
def dgL (ts:List Nat):List SV->List SV
 | []=>[]
 |x::xs=>dgV ts x::dgL ts xs
end
def dgE (ts:List Nat):SE->SE
 | []=>[]
 |(t,v)::r=>(t,dgV ts v)::dgE ts r
def dgB (ts:List Nat):SB->SB
 | .box cs=> .box (dgL ts cs)
 |b=>b
def LY (ts:List Nat):List SB->List SB
 | []=>[]
 |b::r=>dgB ts b::LY ts r
def aFf:List SB->Nat->SB->List SB
 | [],_,_=>[]
 |_::r,0,b=>b::r
 |x::r,n+1,b=>x::aFf r n b
def wY:List (Nat×SB)->List SB->List SB
 | [],s=>s
 |(t,b)::r,s=>wY r (aFf s t b)
def FD:List (Nat×SB)->List Nat
 | []=>[]
 |(t,_)::r=>t::FD r
def U6 (d:Option Nat) (v:SV) (e:SE):SE:=
 match d with
 |some t=>(t,v)::e
 |none=>e
def apS:List SB->List SB->List SB
 | [],l=>l
 |b::r,l=>b::apS r l
def iD.next (d:Option Nat) (st:vW) (r:iD):vW:=
 match r.wr with
 | []=>{env:=U6 d r.v st.env,sto:=apS st.sto r.news,fz:=r.fr++st.fz,kn:=st.kn}
 |w=>{env:=U6 d r.v (dgE (FD w) st.env),sto:=apS (LY (FD w) (wY w st.sto)) r.news,fz:=r.fr++st.fz,kn:=st.kn}
def iD.ok (z:List Nat) (r:iD):Bool:=(FD r.wr).all fun t=>!has z t
def iD.tr (nx:Nat) (r:iD):Tr:=
 ⟨r.rd++r.fr,FD r.wr,!r.news.isEmpty,false,(r.rd++r.fr).all (dt · nx)&&(FD r.wr).all (dt · nx),nx,nx+r.news.length⟩
def aFg:Tr:=⟨[],[],true,true,true,0,0⟩
def AE {R:Type}:List SB->List SB->jK R->jK R
 | [],_,k=>k
 |x::xs,y::ys,k=>match x with
  | .arr r l=>match y with
   | .arr q m=>bif JU r q then iY (m.length==l.length) (AE xs ys k) aQ else aQ
   | .dead=>AE xs ys k
   |_=>aQ
  | .dead=>match y with
   | .dead=>AE xs ys k
   |_=>aQ
  |_=>AE xs ys k
 |_,_,_=>aQ
abbrev Inl:=FuncId->List SV->List SB->List Nat-> ∀R:Type,(SV->List SB->List Nat->jK R)->jK R
section
variable {R : Type}
def aVN (_:FuncId) (_:List SV):jK R:=aQ
def aYs (_:FuncId) (_:List SV) (_:List SB):jK R:=aQ
def aAY (f:FuncId) (m:Bool) (s:List SB) (tk:List Nat) (vs:List SV) (k:XRS->jK R):List bO->jK R
 | []=>aVN f vs
 |c::r=>match c.args.dec vs with
  |some a=>bif m==c.ow then oO (c.fn a) fun b=>match c.kd with
   | .pure=>k (.loc {v:=c.res.enc b,rd:=tk})
   | .frz=>k (.loc {v:=c.res.enc b,rd:=tk,fr:=tk})
   | .own=>k (.loc {v:=(FC s.length (c.res.enc b)).1,news:=(FC s.length (c.res.enc b)).2,rd:=tk}) else aAY f m s tk vs k r
  |none=>aAY f m s tk vs k r
mutual
def X2 (g:Nat->Nat):SV->SV
 | .agg cs=> .agg (backL g cs)
 | .tup cs=> .tup (backL g cs)
 | .own t ex=> .own (g t) ex
 | .pre t len cap ex=> .pre (g t) len cap ex
 | .part t off len cap ex=> .part (g t) off len cap ex
 | .pa t _ i _ off=> .pb (g t) i off
 | .pb t i off=> .pb (g t) i off
 | .bp t n off=> .bp (g t) n off
 | .rptr cs off=> .rptr (backL g cs) off
 | .mp t=> .mp (g t)
 | .clo f a b=> .clo f (backL g a) (backL g b)
 |v=>v
def backL (g:Nat->Nat):List SV->List SV
 | []=>[]
 |x::xs=>X2 g x::backL g xs
end
def aFh (g:Nat->Nat):SB->SB
 | .box cs=> .box (backL g cs)
 |b=>b
def HK (g:Nat->Nat):List Nat->List SB->List (Nat×SB)
 |t::r,b::s=>(t,aFh g b)::HK g r s
 |_,_=>[]
def aPb (k:Nat) (v:SV) (s:List SB):Bool:=(tkV zR v++s.flatMap PE).all fun t=>dt t k
def fpS (f : FuncId) (n : Nat) (tk : List Nat) (vs : List SV) (s0 : List SB) (k : XRS -> jK R) : List eM -> jK R
  | [] => aYs f vs s0
  | c :: r => bif likeL c.ta vs && PK c.tb s0 then (match wX c.ka (atsL vs ++ U4 s0) with
      | some a => oO (c.fn a) fun b =>
          k (.loc { v := X2 (nF tk n) (zV c.tv (qD c.ko b)).1, wr := HK (nF tk n) tk (IN c.to (zV c.tv (qD c.ko b)).2).1 })
      | none => fpS f n tk vs s0 k r) else fpS f n tk vs s0 k r
def TC (cx:Ctx) (inl:Inl) (e:SE) (s:List SB) (z:List Nat) (op:oH) (k:XRS->jK R):jK R:=
 match op with
 | .call m f args=>match m with
  | .pur=>match exVL s (nU s fS) (mF e args) with
   |some vs=>aAY f false s (tkVL (EW s fS) (mF e args)) vs k (cx.con f)
   |none=>aQ
  | .own=>match exVL s (nU s fS) (mF e args) with
   |some vs=>aAY f true s (tkVL (EW s fS) (mF e args)) vs k (cx.con f)
   |none=>aQ
  | .shr=>inl f (mF e args) s z R fun v s' z'=>k (.shr v s' z')
  | .fp=>match aAT s (nU s fS) (mF e args) with
   |false=>aQ
   |true=>let tk:=tJ (tkVL (EW s fS) (mF e args))
    bif tk.all (fun t=>!has z t) then (match renVL tk (mF e args),SG s tk tk with
     |some vs,some s0=>fpS f s.length tk vs s0 k (cx.fpc f)
     |_,_=>aQ) else aQ
 | .callv x args=>match cK e x with
  | .clo f a b=>bif anyPtr (mF e args++b) then inl f (a++mF e args++b) s z R fun v s' z'=>k (.shr v s' z')
   else match exVL s (nU s fS) (a++mF e args++b) with
   |some vs=>aAY f false s (tkVL (EW s fS) (a++mF e args++b)) vs k (cx.con f)
   |none=>aQ
  |_=>aQ
 |op=>qC e s z op fun r=>k (.loc r)
def goS (d:Option Nat) (st:vW) (tr:List Tr) (k:vW->List Tr->jK R) (x:XRS):jK R:=
 match x with
 | .loc r=>bif r.ok st.fz then aHo r.v fun v=>k ({r with v}.next d st) (r.tr st.sto.length::tr) else aQ
 | .shr v s z=>aHo v fun v=>AE st.sto s (bif st.fz.all (has z) then k {env:=U6 d v (dgE (BW st.sto.length) st.env),sto:=s,fz:=z,kn:=st.kn} (aFg::tr) else aQ)
def tU (cx:Ctx) (inl:Inl):List cE->vW->List Tr->(vW->List Tr->jK R)->jK R
 | [],st,tr,k=>k st tr
 |o::r,st,tr,k=>
  let run:=fun st:vW=>match o.op with
   | .pick (.t c) a b=>match SC c st.env with
    | .bool x=>iY x (goS o.dst {st with env:=setS c (.bool true) st.env} tr (tU cx inl r · · k) (.loc {v:=cK st.env a}))
     (goS o.dst {st with env:=setS c (.bool false) st.env} tr (tU cx inl r · · k) (.loc {v:=cK st.env b}))
    |_=>aQ
   |op=>TC cx inl st.env st.sto st.fz op (goS o.dst st tr (tU cx inl r · · k))
  let skip:=fun st:vW=>tU cx inl r {st with env:=U6 o.dst .nul st.env} (Tr.idle::tr) k
  match o.guard with
  |none=>run st
  |some (s,want)=>match SC s st.env with
   | .bool x=>bif want then iY x (run {st with env:=setS s (.bool true) st.env}) (skip {st with env:=setS s (.bool false) st.env})
    else iY x (skip {st with env:=setS s (.bool true) st.env}) (run {st with env:=setS s (.bool false) st.env})
   | .nul=>skip st
   |_=>aQ
def X3 (e:SE):List Nat->(SE->jK R)->jK R
 | [],k=>k []
 |s::r,k=>aHo (SC s e) fun v=>X3 e r fun e'=>k ((s,v)::e')
noncomputable def JY (cx:Ctx) (inl:Inl):(c:mV)->(R:Type)->vW->(jV->vW->jK R)->jK R
 | .skip,_,st,k=>k .normal st
 | .region d ops keep,_,st,k=>tU cx inl ops st [] fun st' tr=>
  let fin:=X3 st'.env keep fun e=>k .normal {st' with env:=e}
  match d with
  |none=>fin
  |some bf=>match xO 0 (tr.reverse.zip bf) with
   |true=>fin
   |false=>aQ
 | .seq a b,R,st,k=>JY cx inl a R st fun e st'=>match e with
  | .normal=>JY cx inl b R st' k
  |e=>k e st'
 | .cond c a b,R,st,k=>match cK st.env c with
  | .bool x=>iY x (JY cx inl a R st k) (JY cx inl b R st k)
  |_=>aQ
 | .block id b,R,st,k=>JY cx inl b R st fun e st'=>match e with
  | .exit j=>bif bu j id then k .normal st' else k (.exit j) st'
  |e=>k e st'
 | .loop live b,_,st,k=>match PJ cx.rk live st with
  |none=>aQ
  |some st1=>ksK (aPx (EL st1)) fun ks=>match wX ks (EL st1) with
   |none=>aQ
   |some y0=>fun ρ w=>aE5 cx.lp (fun y:mY ks=>JY cx inl b (bT (mY ks) ρ) (HJ st1 (qD ks y)) (fun e st2=>match e with
    | .normal=>match PJ cx.rk live st2 with
     |some st3=>bif PL st1 st3 then (match wX ks (EL st3) with
      |some y'=>S9 (.next y')
      |none=>aQ) else aQ
     |none=>aQ
    |e=>fun ρ' w'=>k e st2 ρ' fun r=>w' (.done (w r))) (bT (mY ks) ρ) fun z=>z) y0
 | .exit id,_,st,k=>k (.exit id) st
 | .ret,_,st,k=>k .ret st
def aAZ (st:vW):RV->Option SV
 | .tmp t=>some (SC t st.env)
 | .cell t agg=>match SC t st.env with
  | .bp t _ off=>match nth st.sto t with
   |some (.box cs)=>HH agg off cs
   |_=>none
  | .rptr cs off=>HH agg off cs
  |_=>none
def GN (st:vW):List RV->Option (List SV)
 | []=>some []
 |r::rs=>match aAZ st r,GN st rs with
  |some v,some vs=>some (v::vs)
  |_,_=>none
def LZ:List SV->SV
 | [v]=>v
 |vs=> .tup vs
def aA0:Nat->List SV->SE
 |_,[]=>[]
 |i,v::r=>(i,v)::aA0 (i+1) r
noncomputable def X4 (cx:Ctx) (inl:Inl) (x:aM) (R:Type) (args:List SV) (s:List SB) (z:List Nat) (k:SV->List SB->List Nat->jK R):jK R:=
 bif bu args.length x.nargs then JY cx inl x.code R {env:=aA0 0 args,sto:=s,fz:=z,kn:=s.length} fun e st=>match e with
  | .exit _=>aQ
  |_=>match GN st x.res with
   |some vs=>k (LZ vs) st.sto st.fz
   |none=>aQ
 else aQ
def iD.stoOf (s:List SB) (r:iD):List SB:=
 match r.wr with
 | []=>apS s r.news
 |w=>apS (LY (FD w) (wY w s)) r.news
def M6:Option FuncId->List SV->Bool
 |none,[]=>true
 |some g,[.clo h [] []]=>bu h g
 |_,_=>false
structure aVO where
 t:Nat
 r:List PT
 l:List (RT r)
 i:Int
 m:List (RT r)
def aHu (esz:Nat) (args:List SV) (s:List SB) (z:List Nat):Option aVO:=
 match args with
 | [.own t _,.int .i64 i,.own u _]=>match nth s t with
  |some (.arr r l)=>match nth s u with
   |some (.arr q m)=>match AD q r m with
    |some m=>bif bu r.length esz&&!Nat.beq t u&&!has z t then some ⟨t,r,l,i,m⟩ else none
    |none=>none
   |_=>none
  |_=>none
 |_=>none
def aPA (esz:Nat) (args:List SV) (s:List SB) (z:List Nat) (k:SV->List SB->List Nat->jK R):jK R:=
 match aHu esz args s z with
 |some a=>oO (UZ a.l a.i a.m) fun l'=>k (.own s.length false) (iD.stoOf s {v:= .own s.length false,news:=[.arr a.r l'],wr:=[(a.t,.dead)]}) z
 |none=>aQ
def aHv (r:List PT) (g:Option FuncId) (args:List SV) (s:List SB) (z:List Nat):Option (Nat×Option Nat×List (RT r)):=
 match args with
 | .own t _::a=>match nth s t with
  |some (.arr q l)=>match AD q r l with
   |some l=>bif !has z t&&M6 g a then some (t,none,l) else none
   |none=>none
  |_=>none
 | .pre t len _ _::a=>match nth s t with
  |some (.arr q l)=>match AD q r l with
   |some l=>bif !has z t&&M6 g a then some (t,some len,l) else none
   |none=>none
  |_=>none
 |_=>none
def aPB (q:Srt) (args:List SV) (s:List SB) (z:List Nat) (k:SV->List SB->List Nat->jK R):jK R:=
 match aHv q.r q.g args s z with
 |some (t,none,l)=>oO (M3 q.fn l) fun m=>k (.tup []) (iD.stoOf s {v:= .tup [],wr:=[(t,.arr q.r m)]}) z
 |some (t,some len,l)=>oO (GL q.fn len l) fun m=>k (.tup []) (iD.stoOf s {v:= .tup [],wr:=[(t,.arr q.r m)]}) z
 |none=>aQ
noncomputable def aFi (cx:Ctx):Nat->Inl
 |0=>fun _ _ _ _ _ _=>aQ
 |n+1=>fun f args s z R k=>match cx.code f with
  |some (.code x)=>X4 cx (aFi cx n) x R args s z k
  |some (.ins e)=>aPA e args s z k
  |some (.srt q)=>aPB q args s z k
  |none=>aQ
def aFj (kd:Kd) {β:Type} (res:aJ β) (v:SV) (s:List SB) (z:List Nat):jK β:=
 match kd with
 | .pure=>bif IM v then oP (res.dec v) S9 else aQ
 | .frz=>bif IM v then aQ else oP (imV s v) fun u=>oP (res.dec u) S9
 | .own=>oP (aDP s z [] v) fun u=>oP (res.dec u.1) S9
noncomputable def aPc (cx:Ctx) (x:aM) {α β:Type} (args:aD α) (res:aJ β) (kd:Kd) (a:α):Option β:=
 X4 cx (aFi cx 8) x β (args.enc a) [] [] (aFj kd res) β fun b=>b
def PM:List SB->Bool
 | []=>true
 |b::r=>GM b&&PM r
def JZ {R:Type}:List SB->List SB->jK R->jK R
 | [],[],k=>k
 |x::xs,y::ys,k=>match x with
  | .arr r l=>match y with
   | .arr q m=>bif JU r q then iY (m.length==l.length) (JZ xs ys k) aQ else aQ
   |_=>aQ
  | .dead=>match y with
   | .dead=>JZ xs ys k
   |_=>aQ
  | .box _=>match y with
   | .box _=>JZ xs ys k
   |_=>aQ
  | .set _=>match y with
   | .set _=>JZ xs ys k
   |_=>aQ
  | .tab _ _=>match y with
   | .tab _ _=>JZ xs ys k
   |_=>aQ
 |_,_,_=>aQ
noncomputable def aYt (wd:Bool) (cx:Ctx) (x:aM) (ka:List AK) (ta:List SV) (tb:List SB) (ko:List AK) (tv:SV) (to:List SB) (a:mY ka):Option (mY ko):=
 X4 cx (aFi cx 8) x (mY ko) (putL ta (qD ka a)).1 (IN tb (putL ta (qD ka a)).2).1 [] (fun v s z=>match z with
  | []=>let u:=bif wd then TB s v else v
   let s1:=s.take tb.length
   bif EM tv u&&PK to s1&&aPb tb.length u s1&&u.sure&&PM s1 then JZ (IN tb (putL ta (qD ka a)).2).1 s1 (oP (wX ko (LX u++U4 s1)) S9) else aQ
  |_=>aQ) (mY ko) fun b=>b
end
end Go.Vm
/- The types of arguments and results, as cells. -/
namespace Go.Vm
theorem yM {r q:List PT} {l:List (RT r)} {m:List (RT q)} (h:AD r q l=some m): ∃e:r=q,m=e▸l:=by
 unfold AD at h;split at h
 · rename_i hs
   injection h with h;exact ⟨B9 hs,h.symm⟩
 cases h
theorem J0 {r q:List PT} {l:List (RT r)} {m:List (RT q)} (h:AD r q l=some m):r=q/\m.map (RT.pv q)=l.map (RT.pv r)/\m.length=l.length:=by
 obtain ⟨rfl,rfl⟩:=yM h;exact ⟨rfl,rfl,rfl⟩
theorem fR {x:SV} {xs:List SV} {ps:List PV}:pvL (x::xs)=some ps↔ ∃p qs,ps=p::qs/\yL x=some p/\pvL xs=some qs:=by
 simp only [pvL];constructor
 · intro h
   split at h
   · rename_i y ys h1 h2
     injection h with h;exact ⟨y,ys,h.symm,h1,h2⟩
   cases h
 rintro ⟨p,qs,rfl,h1,h2⟩
 rw [h1,h2]
theorem IP: ∀{xs ys:List SV} {p q:List PV},pvL xs=some p->pvL ys=some q->pvL (xs++ys)=some (p++q)
 | [],ys,p,q,h,k=>by simp only [pvL,bn] at h;subst h;exact k
 |x::xs,ys,p,q,h,k=>by
  obtain ⟨a,as,rfl,h1,h2⟩:=fR.1 h;exact fR.2 ⟨a,as++q,rfl,h1,IP h2 k⟩
theorem PT.of_some: ∀{p:PT} {v:SV} {a:p.T},p.of v=some a->v=p.sv a
 | .i k,.int l n,a,h=>by
  simp only [PT.of] at h;cases hk:gH l k with
  |false=>rw [hk] at h;cases h
  |true=>
   rw [hk] at h;injection h with h;subst h;rw [gA.1 hk];rfl
 | .b,.bool x,a,h=>by injection h with h;subst h;rfl
 | .i k,.bool _,a,h=>by cases h
 | .b,.int _ _,a,h=>by cases h
 | .i _,.junk,a,h| .i _,.undef,a,h| .i _,.nul,a,h| .i _,.nilf,a,h| .i _,.str _,a,h| .i _,.agg _,a,h| .i _,.tup _,a,h| .i _,.sl _ _,a,h| .i _,.nil _ _,a,h| .i _,.own _ _,a,h| .i _,.pre _ _ _ _,a,h| .i _,.part _ _ _ _ _,a,h| .i _,.pa _ _ _ _ _,a,h| .i _,.pb _ _ _,a,h| .i _,.bp _ _ _,a,h| .i _,.rptr _ _,a,h| .i _,.clo _ _ _,a,h| .i _,.mp _,a,h=>by cases h
 | .b,.junk,a,h| .b,.undef,a,h| .b,.nul,a,h| .b,.nilf,a,h| .b,.str _,a,h| .b,.agg _,a,h| .b,.tup _,a,h| .b,.sl _ _,a,h| .b,.nil _ _,a,h| .b,.own _ _,a,h| .b,.pre _ _ _ _,a,h| .b,.part _ _ _ _ _,a,h| .b,.pa _ _ _ _ _,a,h| .b,.pb _ _ _,a,h| .b,.bp _ _ _,a,h| .b,.rptr _ _,a,h| .b,.clo _ _ _,a,h| .b,.mp _,a,h=>by cases h
theorem RT.of_some: ∀{r:List PT} {vs:List SV} {a:RT r},RT.of r vs=some a->vs=RT.sv r a
 | [],[],a,_=>rfl
 | [p],[v],a,h=>by
  have:=PT.of_some (p:=p) h
  rw [this];rfl
 |p::q::r,v::vs,a,h=>by
  simp only [RT.of] at h;split at h
  · rename_i x y h1 h2
    injection h with h;subst h;rw [PT.of_some h1,RT.of_some h2];rfl
  cases h
 | [],_::_,a,h=>by simp [RT.of] at h
 | [p],[],a,h=>by simp [RT.of] at h
 | [p],_::_::_,a,h=>by simp [RT.of] at h
 |_::_::_,[],a,h=>by simp [RT.of] at h
theorem PT.pv_sv (p:PT) (a:p.T):yL (p.sv a)=some (p.pv a):=by cases p<;>rfl
theorem RT.pv_sv: ∀(r:List PT) (a:RT r),pvL (RT.sv r a)=some (RT.pv r a)
 | [],_=>rfl
 | [p],a=>fR.2 ⟨_,_,rfl,PT.pv_sv p a,rfl⟩
 |p::q::r,a=>fR.2 ⟨_,_,rfl,PT.pv_sv p a.1,RT.pv_sv (q::r) a.2⟩
theorem RT.pv_len: ∀(r:List PT) (a:RT r),(RT.pv r a).length=r.length
 | [],_=>rfl
 | [p],a=>rfl
 |p::q::r,a=>by simp [RT.pv,RT.pv_len (q::r) a.2]
theorem RT.sv_len: ∀(r:List PT) (a:RT r),(RT.sv r a).length=r.length
 | [],_=>rfl
 | [p],a=>rfl
 |p::q::r,a=>by simp [RT.sv,RT.sv_len (q::r) a.2]
theorem TD: ∀(n:Nat) {vs:List SV} {ps:List PV},pvL vs=some ps-> ∃p q,ps=p++q/\pvL (vs.take n)=some p/\pvL (vs.drop n)=some q
 |0,vs,ps,h=>⟨[],ps,rfl,by simp [pvL],by simpa using h⟩
 |n+1,[],ps,h=>⟨[],ps,rfl,by simp [pvL],by simpa using h⟩
 |n+1,v::vs,ps,h=>by
  obtain ⟨p,qs,rfl,h1,h2⟩:=fR.1 h;obtain ⟨a,b,rfl,h3,h4⟩:=TD n h2;exact ⟨p::a,b,rfl,by rw [fh];exact fR.2 ⟨p,a,rfl,h1,h3⟩,by simpa using h4⟩
def cP.int (k:IntKind):cP Int where
 enc n:=[.int k n]
 dec vs:=match vs with
  | .int l n::r=>bif gH l k then some (n,r) else none
  |_=>none
 law:=fun {vs a rest ps} h hp=>by
  split at h
  · rename_i l n r
    cases hk:gH l k with
    |false=>rw [hk] at h;cases h
    |true=>
     rw [hk] at h;simp only [cond_true,bn,bv] at h;obtain ⟨rfl,rfl⟩:=h;obtain ⟨p,qs,rfl,h1,h2⟩:=fR.1 hp;rw [gA.1 hk] at h1;exact ⟨[p],qs,rfl,fR.2 ⟨p,[],rfl,h1,rfl⟩,h2⟩
  cases h
def cP.bool:cP Bool where
 enc n:=[.bool n]
 dec vs:=match vs with
  | .bool n::r=>some (n,r)
  |_=>none
 law:=fun {vs a rest ps} h hp=>by
  split at h
  · simp only [bn,bv] at h
    obtain ⟨rfl,rfl⟩:=h;obtain ⟨p,qs,rfl,h1,h2⟩:=fR.1 hp;exact ⟨[p],qs,rfl,fR.2 ⟨p,[],rfl,h1,rfl⟩,h2⟩
  cases h
def aCk (r:List PT):SV->Option (List (RT r))
 | .sl q l=>AD q r l
 | .nil e c=>bif bu e r.length&&!c then some [] else none
 |_=>none
theorem TE {r:List PT} {v:SV} {l:List (RT r)} {p:PV} (h:aCk r v=some l) (hp:yL v=some p):yL (.sl r l)=some p:=by
 cases v with
 |sl q m=>
  obtain ⟨rfl,h2,_⟩:=J0 h;rw [<- hp];simp only [yL,h2]
 |nil e c=>
  simp only [aCk] at h;cases hc:(bu e r.length&&!c) with
  |false=>rw [hc] at h;cases h
  |true=>
   rw [hc] at h;injection h with h;subst h;simp only [bq,ga,cj] at hc;obtain ⟨rfl,rfl⟩:=hc;rw [<- hp];rfl
 |_=>cases h
def cP.sl (r:List PT):cP (List (RT r)) where
 enc l:=[.sl r l]
 dec vs:=match vs with
  |v::rest=>match aCk r v with
   |some l=>some (l,rest)
   |none=>none
  | []=>none
 law:=fun {vs a rest ps} h hp=>by
  split at h
  · split at h
    · rename_i v r' x l hl
      simp only [bn,bv] at h;obtain ⟨rfl,rfl⟩:=h;obtain ⟨p,qs,rfl,h1,h2⟩:=fR.1 hp;exact ⟨[p],qs,rfl,fR.2 ⟨p,[],rfl,TE hl h1,rfl⟩,h2⟩
    cases h
  cases h
def cP.row (r:List PT):cP (RT r) where
 enc:=RT.sv r
 dec vs:=match RT.of r (vs.take r.length) with
  |some a=>some (a,vs.drop r.length)
  |none=>none
 law:=fun {vs a rest ps} h hp=>by
  split at h
  · rename_i x hx
    simp only [bn,bv] at h;obtain ⟨rfl,rfl⟩:=h;obtain ⟨p,q,rfl,h1,h2⟩:=TD r.length hp;rw [RT.of_some hx] at h1;exact ⟨p,q,rfl,h1,h2⟩
  cases h
def cP.prod {α β:Type} (A:cP α) (B:cP β):cP (α×β) where
 enc p:=A.enc p.1++B.enc p.2
 dec vs:=match A.dec vs with
  |some p=>match B.dec p.2 with
   |some q=>some ((p.1,q.1),q.2)
   |none=>none
  |none=>none
 law:=fun {vs a rest ps} h hp=>by
  split at h
  · rename_i p hA
    split at h
    · rename_i q hB
      simp only [bn,bv] at h;obtain ⟨rfl,rfl⟩:=h;obtain ⟨p1,p2,rfl,h1,h2⟩:=A.law (a:=p.1) (rest:=p.2) hA hp;obtain ⟨q1,q2,rfl,h3,h4⟩:=B.law (a:=q.1) (rest:=q.2) hB h2;exact ⟨p1++q1,q2,by simp,IP h1 h3,h4⟩
    cases h
  cases h
def cP.iso {α β:Type} (A:cP α) (f:α->β) (g:β->α) (h: ∀a,g (f a)=a):cP β where
 enc b:=A.enc (g b)
 dec vs:=match A.dec vs with
  |some p=>some (f p.1,p.2)
  |none=>none
 law:=fun {vs a rest ps} hd hp=>by
  split at hd
  · rename_i p hA
    simp only [bn,bv] at hd;obtain ⟨rfl,rfl⟩:=hd;rw [h];exact A.law hA hp
  cases hd
def aJ.int (k:IntKind):aJ Int where
 enc n:= .int k n
 dec v:=match v with
  | .int l n=>bif gH l k then some n else none
  |_=>none
 law:=fun {v a p} h hp=>by
  split at h
  · rename_i l n
    cases hk:gH l k with
    |false=>rw [hk] at h;cases h
    |true=>rw [hk] at h;injection h with h;subst h;rw [gA.1 hk] at hp;exact hp
  cases h
def aJ.bool:aJ Bool where
 enc n:= .bool n
 dec v:=match v with
  | .bool n=>some n
  |_=>none
 law:=fun {v a p} h hp=>by
  split at h
  · injection h with h;subst h;exact hp
  cases h
def aJ.sl (r:List PT):aJ (List (RT r)) where
 enc l:= .sl r l
 dec:=aCk r
 law:=TE
def aJ.agg {α:Type} (A:cP α):aJ α where
 enc a:= .agg (A.enc a)
 dec v:=match v with
  | .agg cs=>match A.dec cs with
   |some p=>match p.2 with
    | []=>some p.1
    |_=>none
   |none=>none
  |_=>none
 law:=fun {v a p} h hp=>by
  split at h
  · rename_i cs
    split at h
    · rename_i q hA
      obtain ⟨x,rest⟩:=q;dsimp only at h;cases rest with
      |cons _ _=>cases h
      |nil=>
       injection h with h;subst h;simp only [yL] at hp;cases hc:pvL cs with
       |none=>rw [hc] at hp;cases hp
       |some l=>
        rw [hc] at hp;injection hp with hp;subst hp;obtain ⟨p1,p2,rfl,h1,h2⟩:=A.law hA hc;simp only [pvL,bn] at h2;subst h2;simp only [yL,h1,eh]
    cases h
  cases h
def aJ.ref {α:Type} (A:cP α):aJ α where
 enc a:= .rptr (A.enc a) 0
 dec v:=match v with
  | .rptr cs 0=>match A.dec cs with
   |some p=>match p.2 with
    | []=>some p.1
    |_=>none
   |none=>none
  |_=>none
 law:=fun {v a p} h hp=>by
  split at h
  · rename_i cs
    split at h
    · rename_i q hA
      obtain ⟨x,rest⟩:=q;dsimp only at h;cases rest with
      |cons _ _=>cases h
      |nil=>
       injection h with h;subst h;simp only [yL] at hp;cases hc:pvL cs with
       |none=>rw [hc] at hp;cases hp
       |some l=>
        rw [hc] at hp;injection hp with hp;subst hp;obtain ⟨p1,p2,rfl,h1,h2⟩:=A.law hA hc;simp only [pvL,bn] at h2;subst h2;simp only [yL,h1,eh]
    cases h
  cases h
def aD.nil:aD Unit where
 enc _:=[]
 dec vs:=match vs with
  | []=>some ()
  |_=>none
 law:=fun {vs a ps} h hp=>by
  split at h
  · exact hp
  cases h
def aD.one {α:Type} (A:aJ α):aD α where
 enc a:=[A.enc a]
 dec vs:=match vs with
  | [v]=>A.dec v
  |_=>none
 law:=fun {vs a ps} h hp=>by
  split at h
  · obtain ⟨p,qs,rfl,h1,h2⟩:=fR.1 hp
    exact fR.2 ⟨p,qs,rfl,A.law h h1,h2⟩
  cases h
def aD.cons {α β:Type} (A:aJ α) (B:aD β):aD (α×β) where
 enc a:=A.enc a.1::B.enc a.2
 dec vs:=match vs with
  |v::r=>match A.dec v with
   |some x=>match B.dec r with
    |some y=>some (x,y)
    |none=>none
   |none=>none
  | []=>none
 law:=fun {vs a ps} h hp=>by
  split at h
  · split at h
    · rename_i x hx
      split at h
      · rename_i y hy
        injection h with h;subst h;obtain ⟨p,qs,rfl,h1,h2⟩:=fR.1 hp;exact fR.2 ⟨p,qs,rfl,A.law hx h1,B.law hy h2⟩
      cases h
    cases h
  cases h
def aJ.tup {α:Type} (A:aD α):aJ α where
 enc a:= .tup (A.enc a)
 dec v:=match v with
  | .tup vs=>A.dec vs
  |_=>none
 law:=fun {v a p} h hp=>by
  split at h
  · rename_i vs
    simp only [yL] at hp;cases hc:pvL vs with
    |none=>rw [hc] at hp;cases hp
    |some l=>
     rw [hc] at hp;injection hp with hp;subst hp;simp only [yL,A.law h hc]
  cases h
def aJ.clo {α:Type} (f:FuncId) (A:aD α):aJ α where
 enc a:= .clo f [] (A.enc a)
 dec v:=match v with
  | .clo g [] b=>bif bu g f then A.dec b else none
  |_=>none
 law:=fun {v a p} h hp=>by
  split at h
  · rename_i g b
    cases hg:bu g f with
    |false=>rw [hg] at h;cases h
    |true=>
     rw [hg] at h
     have:=Nat.eq_of_beq_eq_true hg
     subst this;simp only [yL,pvL] at hp ⊢;cases hc:pvL b with
     |none=>rw [hc] at hp;cases hp
     |some l=>
      rw [hc] at hp;rw [A.law h hc];exact hp
  cases h
def bO.clone (r:List PT):bO:=⟨.one (.sl r),.sl r,cC,.own,false⟩
def tV (a b c:Int):Option (Int×Int):=bif decide (0<=a)&&decide (0<=b)&&decide (0<=c)&&decide (c<=1) then some ((a+b+c)%18446744073709551616,(a+b+c) / 18446744073709551616) else none
def bO.add64:bO:=⟨.cons (.int .u64) (.cons (.int .u64) (.one (.int .u64))),.tup (.cons (.int .u64) (.one (.int .u64))),fun a=>tV a.1 a.2.1 a.2.2,.pure,false⟩
def X5:List (Nat×bO)->FuncId->List bO
 | [],_=>[]
 |(g,c)::r,f=>bif bu g f then c::X5 r f else X5 r f
def X6:List (Nat×eM)->FuncId->List eM
 | [],_=>[]
 |(g,c)::r,f=>bif bu g f then c::X6 r f else X6 r f
def U7:List (Nat×Cd)->FuncId->Option Cd
 | [],_=>none
 |(g,c)::r,f=>bif bu g f then some c else U7 r f
def lT (lp:Option Nat) (c:List (Nat×bO)) (p:List (Nat×eM)) (x:List (Nat×Cd)) (rk:List (Nat×List PT)):Ctx:=⟨lp,X5 c,X6 p,U7 x,rk⟩
end Go.Vm
