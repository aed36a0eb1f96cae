/- The logical machine, part 2: VmCall3, VmFp, VmRun, VmInv, VmStep, VmShr, VmOp, VmReg, VmReg2, VmNorm, VmNorm2, VmCode, VmSound, VmPrim, VmIns, VmCat, VmTab, VmComp, VmLaw, VmSym, SvBase, SvDef. -/
import Derived.Test.YtogihpogmfjoiaaGreatPVm1
import Derived.Orders
import Derived.Laws.Sem
import Derived.Laws.Externs
import Derived.Lib.SliceRun
import Derived.Laws.CopyRow
import Derived.ProofKit
import Derived.Carry
import Derived.OpenShut
import Derived.Deep.Slices
import Derived.Deep.Grids
open Bool renaming and_eq_true->bn,false_eq_true->cj,not_eq_true'->ck,or_eq_true->ek
open List renaming getElem?_eq_getElem->bo,getElem?_eq_some_iff->bv,getElem?_append_left->bw,getElem?_append_right->cf,mem_append->cu,all_eq_true->c6,mem_singleton->c9,length_append->db,take_of_length_le->dd,append_assoc->di,replicate->dj,mem_cons->dp,mem_cons_of_mem->dv,flatMap_append->dy,getD_eq_getElem?_getD->d6,pairwise_iff_getElem->d7,flatMap_cons->eb,getElem?_take_of_lt->ec,length_drop->eg,length_take->eh,drop_of_length_le->ei,mem_append_right->eu,getElem?_set_ne->ew,mem_append_left->ez,mem_of_mem_take->ff,mem_of_mem_drop->fg,nodup_append->ft,getElem?_set->fu,any_eq_true->fw,length_set->fy,drop_zero->gb
open Option.some renaming injEq->bq,inj->ej
open Nat renaming beq->bu,le_refl->cd,lt_trichotomy->cm,lt_or_ge->cp,le_trans->cq,ble->cz,zero_le->c7,eq_or_lt_of_le->c8,lt_of_lt_of_le->dh,ble_eq->dm,blt->dt,le_of_lt->dz,add_mul->fb,mul_le_mul_right->fh,lt_or_gt_of_ne->fk,beq_eq->fo,le_total->fq,zero_add->gd
open Option renaming map_eq_some_iff->bz
open Prod.mk renaming injEq->ce
open Array renaming getElem?_eq_some_iff->ci,getElem?_setIfInBounds->cw,getD_eq_getD_getElem?->cy,getElem?_setIfInBounds_self_of_lt->de,replicate->df,getElem?_eq_getElem->d8,size_replicate->fa,size_append->fv,ext'->ga
open Int renaming ofNat_eq_natCast->dw,ofNat->fj
open Go.Sem renaming run_bind->d5,run_pure->gc
open Go.Result renaming andThen_ok->d9
open Go.World renaming cell?->fx
/- A pure call, whole. -/
namespace Go.Vm
structure BD (im:Im) (loc:dN) (sto:cV) (w:World) (v:PV) (sto':cV) (fz':List Nat) (im':Im) (loc':dN) (w':World) (u:Value):Prop where
 imle:rX im im'
 locle:pK loc loc'
 vr:VR im' loc' v u
 sr:SR im' loc' sto' fz' w'
 os:w'.os=w.os
 tape:w'.tape=w.tape
 output:w'.output=w.output
 size:w.heap.size<=w'.heap.size
 frame: ∀b,b<w.heap.size->(∀t li k,loc t=some li->sto[t]? =some k->k.solid=true->li.blk≠b)->w'.heap[b]? =w.heap[b]?
 imnew: ∀b o,im' b=some o->im b=some o\/w.heap.size<=b\/ ∃t li k,loc t=some li/\sto[t]? =some k/\k.solid=true/\li.blk=b
 locs: ∀t li,loc' t=some li->loc t=some li\/sto.length<=t
 own: ∀t li k,loc' t=some li->sto'[t]? =some k->k.solid=true->(w.heap.size<=li.blk\/ ∃u lu ku,loc u=some lu/\sto[u]? =some ku/\ku.solid=true/\lu.blk=li.blk)
def AO (P:Program) (f:FuncId) (us:Array Value) (w:World) (R:Value->World->Prop):Prop:=
 (∃v w',(callFunc f us).run P w= .ok (.value v) w'/\R v w')\/
 ((callFunc f us).run P w= .ok (.enter f us) w/\Calls P f us w fun e w'=> ∃v,e= .returned v/\R v w')
theorem AO.mono {P:Program} {f:FuncId} {us:Array Value} {w:World} {R R':Value->World->Prop} (h:AO P f us w R) (hr: ∀v w',R v w'->R' v w'):AO P f us w R':=by
 rcases h with ⟨v,w',h1,h2⟩|⟨h1,h2⟩
 · exact .inl ⟨v,w',h1,hr _ _ h2⟩
 exact .inr ⟨h1,h2.mono fun e w' ⟨v,he,hv⟩=>⟨v,he,hr _ _ hv⟩⟩
def KK (P : Program) (rec : mI -> Option zG) : Prop :=
  ∀ (f : FuncId) (args : List PV) (sto : cV) (fz : List Nat) (v : PV) (sto' : cV) (fz' : List Nat), rec (.func f args sto fz) = some (.func v sto' fz') ->
    ∀ (im : Im) (loc : dN) (w : World) (us : List Value), SR im loc sto fz w -> VRL im loc args us ->
      AO P f ⟨us⟩ w fun u w' => ∃ im' loc', BD im loc sto w v sto' fz' im' loc' w' u
def TJ (P : Program) (f : FuncId) (p : List PV -> Option (PV × cV)) : Prop :=
  ∀ (args : List PV) (v : PV) (news : cV), p args = some (v, news) -> ∀ (im : Im) (w : World) (us : List Value), SR im iD [] [] w -> VRL im iD args us ->
    AO P f ⟨us⟩ w fun u w' => ∃ im' loc', BD im iD [] w v news [] im' loc' w' u
def IT (P : Program) (f : FuncId) (p : List PV -> cV -> List Nat -> Option (PV × cV × List Nat)) : Prop :=
  ∃ fn c, P.funcs[f]? = some fn /\ (fn.name == "runtime.NumGoroutine") = false /\ fn.body = some c /\
    ∀ (args : List PV) (sto : cV) (fz : List Nat) (v : PV) (sto' : cV) (fz' : List Nat), p args sto fz = some (v, sto', fz') ->
      ∀ (im : Im) (loc : dN) (w : World) (us : List Value), SR im loc sto fz w -> VRL im loc args us ->
        AO P f ⟨us⟩ w fun u w' => ∃ im' loc', BD im loc sto w v sto' fz' im' loc' w' u
def FO (P:Program) (F:qK):Prop:=(∀f k p,F f=some (.prim k p)->k=false/\TJ P f p)/\ ∀f p,F f=some (.shp p)->IT P f p
section
variable {P : Program} {F : qK} {rec : mI -> Option zG} {im : Im} {loc : dN} {sto : cV} {w : World}
theorem SR.empty (h: ∀b o,im b=some o->w.heap[b]? =some o):SR im iD [] [] w where
 im_ok:=h
 blk:=fun t li h=>by cases h
 excl:=fun t u li lj k k' h=>by cases h
 free:=fun t li k h=>by cases h
theorem aCO {r:rT} {v:PV} {u:Value} {sto1:cV} {fz1:List Nat} {im0 im1:Im} {loc1:dN} {w1:World} (hk:lI im loc sto w r) (hr:r.v=v) (hn:r.news=[]) (hw:r.wr=[]) (hno:v.noref=true)
 (hp:BD im0 iD [] w v sto1 fz1 im1 loc1 w1 u): ∃im' loc',VR im' loc' r.v u/\zL im loc sto w r im' loc' w1:=by
 refine ⟨im,loc,by rw [hr];exact V3 hno hp.vr,?_⟩
 have hfr: ∀b,b<w.heap.size->w1.heap[b]? =w.heap[b]?:=fun b hb=>hp.frame b hb fun t li k h=>by cases h
 exact {
  imle:= .refl _,locle:= .refl _
  im_ok:=fun b o h=>by
   have h1:=hk.im_ok b o h;have hlt:b<w.heap.size:=(ci.1 h1).1;rw [hfr b hlt];exact h1
  imnew:=fun _ _ h=> .inl h
  os:=hp.os,tape:=hp.tape,output:=hp.output,size:=hp.size
  frame:=fun b hb _=>hfr b hb
  wrs:=fun t k h=>by rw [hw] at h;cases h
  wr:=fun t k li h=>by rw [hw] at h;cases h
  locnew:=fun _ _ h=> .inl h
  news:=fun j k li h=>by rw [hn] at h;simp at h
  distinct:=fun i j ki kj li lj h=>by rw [hn] at h;simp at h}
theorem aDX {r:rT} {v v':PV} {u:Value} {sto1:cV} {fz1 tk:List Nat} {im1:Im} {loc1:dN} {w1:World} (hr:r.v=v') (hn:r.news=[]) (hw:r.wr=[]) (hf:r.fr=tk)
 (hp:BD (grow im w (HF loc sto tk)) iD [] w v sto1 fz1 im1 loc1 w1 u) (hi:FJ sto1 v=some v'): ∃im' loc',VR im' loc' r.v u/\zL im loc sto w r im' loc' w1:=by
 have hfr: ∀b,b<w.heap.size->w1.heap[b]? =w.heap[b]?:=fun b hb=>hp.frame b hb fun t li k h=>by cases h
 let im2:Im:=fun b=>match im1 b with
  |some o=>some o
  |none=>if (HF loc1 sto1 (lB zF v)).contains b&&cz w.heap.size b then w1.heap[b]? else none
 have hle:rX im1 im2:=fun b o h=>by simp only [im2,h]
 have hok: ∀b o,im2 b=some o->w1.heap[b]? =some o:=by
  intro b o h;simp only [im2] at h;split at h
  · rename_i o' ho;injection h with h;subst h;exact hp.sr.im_ok b _ ho
  split at h
  · exact h
  cases h
 have hover: ∀t,t∈lB zF v->NT im1 im2 loc1 sto1 w1 t:=by
  intro t ht li hl;obtain ⟨k,hk1,hbr⟩:=hp.sr.blk t li hl;refine ⟨k,hk1,hbr,fun hs=>?_⟩
  have hge:w.heap.size<=li.blk:=by
   rcases hp.own t li k hl hk1 hs with h|⟨u,lu,ku,h,_⟩
   · exact h
   cases h
  simp only [im2];split
  · rename_i o ho;exact (hp.sr.im_ok _ _ ho).symm
  rw [if_pos]
  simp only [bn,dm];exact ⟨by simpa using HG.2 ⟨t,li,k,ht,hl,hk1,hs,rfl⟩,hge⟩
 refine ⟨im2,loc,by rw [hr];exact aDV hle hover hp.vr hi,?_⟩
 exact {
  imle:=(TI im w _).trans (hp.imle.trans hle),locle:= .refl _
  im_ok:=hok
  imnew:=fun b o h=>by
   simp only [im2] at h;split at h
   · rename_i o' ho
     injection h with h;subst h;rcases hp.imnew b _ ho with h1|h1|⟨t,li,k,h1,_⟩
     · rcases aDU h1 with h2|h2
       · exact .inl h2
       obtain ⟨t,li,k,ht,hl,hkk,hs,hb⟩:=HG.1 h2
       exact .inr (.inr ⟨t,li,k,by rw [hf];exact uH.2 ht,hl,hkk,hs,hb⟩)
     · exact .inr (.inl h1)
     cases h1
   split at h
   · rename_i hc
     simp only [bn,dm] at hc;exact .inr (.inl hc.2)
   cases h
  os:=hp.os,tape:=hp.tape,output:=hp.output,size:=hp.size
  frame:=fun b hb _=>hfr b hb
  wrs:=fun t k h=>by rw [hw] at h;cases h
  wr:=fun t k li h=>by rw [hw] at h;cases h
  locnew:=fun _ _ h=> .inl h
  news:=fun j k li h=>by rw [hn] at h;simp at h
  distinct:=fun i j ki kj li lj h=>by rw [hn] at h;simp at h}
theorem aBf {r:rT} {v v':PV} {u:Value} {sto1:cV} {fz1 seen':List Nat} {im0 im1:Im} {loc1:dN} {w1:World} {news:cV} (hk:lI im loc sto w r) (hr:r.v=v') (hn:r.news=news) (hw:r.wr=[])
 (hp:BD im0 iD [] w v sto1 fz1 im1 loc1 w1 u) (hi:GJ sto1 fz1 sto.length [] v=some (v',news,seen')): ∃im' loc',VR im' loc' r.v u/\zL im loc sto w r im' loc' w1:=by
 have hfr: ∀b,b<w.heap.size->w1.heap[b]? =w.heap[b]?:=fun b hb=>hp.frame b hb fun t li k h=>by cases h
 obtain ⟨lis,ts,h1,h2⟩:=aDW (fun t li hl=>hp.sr.blk t li hl) hp.vr hi
 let loc2:dN:=fun t=>if t<sto.length then loc t else match lis[t-sto.length]? with
  |some li=>some li
  |none=>loc t
 have hnew: ∀(j:Nat) (li:LI),lis[j]? =some li->loc2 (sto.length+j)=some li:=by
  intro j li hj;simp only [loc2];rw [if_neg (by omega),show sto.length+j-sto.length=j by omega,hj]
 have hle:pK loc loc2:=by
  intro t li hl;simp only [loc2];split
  · exact hl
  rename_i hlt
  split
  · rename_i l2 hl2
    have hj:=(bv.1 hl2).1
    have:=hk.fresh (t-sto.length) (by rw [hn,<- h1.len1];exact hj)
    rw [show sto.length+(t-sto.length)=t by omega,hl] at this
    cases this
  exact hl
 have hli: ∀(j:Nat) (k:mK),news[j]? =some k-> ∃li,lis[j]? =some li:=by
  intro j k hj
  have:=(bv.1 hj).1
  exact ⟨_,bo (by rw [h1.len1];exact this)⟩
 have hts: ∀(j:Nat) (k:mK),news[j]? =some k->k.solid=true-> ∃t,ts[j]? =some (some t):=by
  intro j k hj hs;have hlt:=(bv.1 hj).1;cases hg:ts[j]? with
  |none=>have:=List.getElem?_eq_none_iff.1 hg;have:=h1.len2;omega
  |some x=>
   cases x with
   |some t=>exact ⟨t,rfl⟩
   |none=>rw [h1.dum j k hj hg] at hs;cases hs
 refine ⟨im,loc2,by rw [hr];exact h2 im loc2 hnew,?_⟩
 exact {
  imle:= .refl _,locle:=hle
  im_ok:=fun b o h=>by
   have h1:=hk.im_ok b o h;have hlt:b<w.heap.size:=(ci.1 h1).1;rw [hfr b hlt];exact h1
  imnew:=fun _ _ h=> .inl h
  os:=hp.os,tape:=hp.tape,output:=hp.output,size:=hp.size
  frame:=fun b hb _=>hfr b hb
  wrs:=fun t k h=>by rw [hw] at h;cases h
  wr:=fun t k li h=>by rw [hw] at h;cases h
  locnew:=fun t li h=>by
   simp only [loc2] at h;split at h
   · exact .inl h
   rename_i hlt
   split at h
   · rename_i l2 hl2
     have hj:=(bv.1 hl2).1;exact .inr ⟨by omega,by rw [hn,<- h1.len1];omega⟩
   exact .inl h
  news:=KG fun j k hj=>by
   rw [hn] at hj;obtain ⟨li,hl⟩:=hli j k hj;obtain ⟨⟨e,rows,rfl⟩,hbr⟩:=h1.br j k li hj hl;refine ⟨li,hnew j li hl,hbr,fun hs=>?_⟩
   obtain ⟨t,ht⟩:=hts j _ hj hs;obtain ⟨a1,a2,a3,_,_⟩:=h1.own j _ li t hj hl ht;have hge:w.heap.size<=li.blk:=by
    rcases hp.own t li _ a1 a2 hs with h|⟨u,lu,ku,h,_⟩
    · exact h
    cases h
   refine ⟨?_,.inl hge⟩;cases hb:im li.blk with
   |none=>rfl
   |some o=>
    have:=(ci.1 (hk.im_ok _ _ hb)).1
    omega
  distinct:=fun i j ki kj li lj hi' hj' hsi hsj hli' hlj' hbb=>by
   rw [hn] at hi' hj';obtain ⟨l1,hl1⟩:=hli i ki hi';obtain ⟨l2,hl2⟩:=hli j kj hj';have e1:=hnew i l1 hl1;have e2:=hnew j l2 hl2;rw [hli'] at e1;rw [hlj'] at e2;injection e1 with e1;injection e2 with e2;subst e1 e2;obtain ⟨t1,ht1⟩:=hts i ki hi' hsi;obtain ⟨t2,ht2⟩:=hts j kj hj' hsj;obtain ⟨a1,a2,_⟩:=h1.own i ki li t1 hi' hl1 ht1;obtain ⟨b1,b2,_⟩:=h1.own j kj lj t2 hj' hl2 ht2
   have:=hp.sr.excl t1 t2 li lj ki kj a1 b1 a2 b2 hsi hsj hbb
   subst this;exact h1.inj i j t1 ht1 ht2}
theorem HH {own:Bool} {f:FuncId} {args':List PV} {tk:List Nat} {r:rT}
 (h:(match rec (.func f args' [] []) with
  |some (.func v s1 z1)=>
   if own then match GJ s1 z1 sto.length [] v with
    |some (v',n2,_)=>some {v:=v',news:=n2,rd:=tk}
    |none=>none
   else if v.noref then some {v,rd:=tk}
   else match FJ s1 v with
    |some v'=>some {v:=v',rd:=tk,fr:=tk}
    |none=>none
  |_=>none)=some r):r.rd=tk:=by
 split at h
 · split at h
   · split at h
     · injection h with h;subst h;rfl
     cases h
   split at h
   · injection h with h;subst h;rfl
   split at h
   · injection h with h;subst h;rfl
   cases h
 cases h
theorem ED (hrec:KK P rec) {own:Bool} {f:FuncId} {args':List PV} {tk:List Nat} {r:rT} {us:List Value}
 (h:(match rec (.func f args' [] []) with
  |some (.func v s1 z1)=>
   if own then match GJ s1 z1 sto.length [] v with
    |some (v',n2,_)=>some {v:=v',news:=n2,rd:=tk}
    |none=>none
   else if v.noref then some {v,rd:=tk}
   else match FJ s1 v with
    |some v'=>some {v:=v',rd:=tk,fr:=tk}
    |none=>none
  |_=>none)=some r) (ha:VRL (grow im w (HF loc sto tk)) iD args' us) (hk:lI im loc sto w r):
 AO P f ⟨us⟩ w fun u w'=> ∃im' loc',VR im' loc' r.v u/\zL im loc sto w r im' loc' w':=by
 cases hr:rec (.func f args' [] []) with
 |none=>rw [hr] at h;cases h
 |some o=>
  rw [hr] at h;cases o with
  |code e st=>cases h
  |func v s1 z1=>
   dsimp only at h;refine (hrec f args' [] [] v s1 z1 hr _ iD w us (SR.empty (aBd hk.im_ok)) ha).mono fun u w' hq=>?_
   obtain ⟨im1,loc1,hp⟩:=hq;split at h
   · cases hio:GJ s1 z1 sto.length [] v with
     |none=>rw [hio] at h;cases h
     |some q2=>
      obtain ⟨v',n2,s2⟩:=q2;rw [hio] at h;simp only [bq] at h;subst h;exact aBf hk rfl rfl rfl hp hio
   split at h
   · rename_i hno
     simp only [bq] at h;subst h;exact aCO hk rfl rfl rfl hno hp
   cases hif:FJ s1 v with
   |none=>rw [hif] at h;cases h
   |some v'=>
    rw [hif] at h;simp only [bq] at h;subst h;exact aDX rfl rfl rfl rfl hp hif
theorem TK (hrec:KK P rec) (hprim:FO P F) {own:Bool} {f:FuncId} {args:List PV} {fz:List Nat} {r:rT} {us:List Value}
 (h:callPure F rec own f args sto fz=some r) (ha:VRL im loc args us) (hk:lI im loc sto w r):
 AO P f ⟨us⟩ w fun u w'=> ∃im' loc',VR im' loc' r.v u/\zL im loc sto w r im' loc' w':=by
 have imok: ∀(rd:List Nat),(∀b o,im b=some o->w.heap[b]? =some o)-> ∀b o,grow im w (HF loc sto rd) b=some o->w.heap[b]? =some o:=fun rd h=>aBd h
 have hexp: ∀(args':List PV),exL sto (D3 sto fH) args=some args'->(∀t,t∈toksL (dQ sto fH) args-> ∀li,loc t=some li-> ∃k,sto[t]? =some k/\BR im loc w li k)->(∀b o,im b=some o->w.heap[b]? =some o)->
  VRL (grow im w (HF loc sto (toksL (dQ sto fH) args))) iD args' us:=by
  intro args' hx htok hok;refine exL_ok (w:=w) (TI _ _ _) (fun t=>aBe (TI _ _ _) fH t) (fun t ht li hl=>?_) ha hx
  obtain ⟨k,hk1,hbr⟩:=htok t ht li hl;exact ⟨k,hk1,hbr,fun hs=>aGf hok (HG.2 ⟨t,li,k,ht,hl,hk1,hs,rfl⟩)⟩
 unfold callPure at h;cases hx:exL sto (D3 sto fH) args with
 |none=>rw [hx] at h;cases h
 |some args'=>
  rw [hx] at h;dsimp only at h;cases hF:F f with
  |none=>
   rw [hF] at h;dsimp only at h;have hrd:r.rd=toksL (dQ sto fH) args:=HH h;exact ED hrec h (hexp args' hx (fun t ht=>hk.tok t (.inl (by rw [hrd];exact ht))) hk.im_ok) hk
  |some en=>
   rw [hF] at h;cases en with
   |prim kills p=>
    dsimp only at h;obtain ⟨rfl,hpo⟩:=hprim.1 f kills p hF;cases hpa:p args' with
    |none=>rw [hpa] at h;cases h
    |some q=>
     obtain ⟨v,news⟩:=q;rw [hpa] at h;dsimp only at h;cases hio:GJ news [] sto.length [] v with
     |none=>rw [hio] at h;cases h
     |some q2=>
      obtain ⟨v',n2,s2⟩:=q2;rw [hio] at h;simp only [cj,if_false,bq] at h;subst h;refine (hpo args' v news hpa _ w us (SR.empty (imok _ hk.im_ok)) (hexp args' hx (fun t ht=>hk.tok t (.inl ht)) hk.im_ok)).mono fun u w' hq=>?_
      obtain ⟨im1,loc1,hp⟩:=hq;exact aBf hk rfl rfl rfl hp hio
   |code x=>
    dsimp only at h;have hrd:r.rd=toksL (dQ sto fH) args:=HH h;exact ED hrec h (hexp args' hx (fun t ht=>hk.tok t (.inl (by rw [hrd];exact ht))) hk.im_ok) hk
   |shp x=>
    dsimp only at h;have hrd:r.rd=toksL (dQ sto fH) args:=HH h;exact ED hrec h (hexp args' hx (fun t ht=>hk.tok t (.inl (by rw [hrd];exact ht))) hk.im_ok) hk
end
end Go.Vm
/- A call that works on the blocks that its arguments lead to, numbered anew: what it does to the memory. -/
namespace Go.Vm
theorem iT {α:Type} {l:List α} {i:Nat} {x:α} (h:l[i]? =some x):i<l.length:=(bv.1 h).1
theorem KL: ∀{l:List Nat} {t:Nat},t∈tF l↔t∈l
 | [],t=>by simp [tF]
 |a::r,t=>by
  rw [tF];split
  · rename_i h
    rw [KL]
    have:=uH.1 h
    constructor
    · exact fun h=>by simp [h]
    intro h
    rcases dp.1 h with h|h
    · subst h;exact this
    exact h
  simp [KL]
theorem zP: ∀{l:List Nat},(tF l).Nodup
 | []=>by simp [tF]
 |a::r=>by
  rw [tF];split
  · exact zP
  rename_i h
  rw [List.nodup_cons];exact ⟨fun hm=>h (uH.2 (KL.1 hm)),zP⟩
theorem NU: ∀{a b:cV},B0 a b=true-> ∀(i:Nat) (x:mK),a[i]? =some x-> ∃y,b[i]? =some y/\x.solid=y.solid
 | [],_,_,i,x,h=>by simp at h
 |c::r,d::q,hf,i,x,h=>by
  simp only [B0,bn] at hf;cases i with
  |zero=>
   simp at h;subst h;refine ⟨d,rfl,?_⟩
   have:=hf.1
   split at this<;>first|(rename_i h1 h2;rw [h1,h2])|cases this
  |succ i=>simpa using NU hf.2 i x (by simpa using h)
 |_::_,[],hf,_,_,_=>by cases hf
theorem NV {g:Nat->Nat}: ∀{tk:List Nat} {s:cV} {t:Nat} {k:mK},(t,k)∈tJ g tk s↔ ∃(i:Nat) (b:mK),tk[i]? =some t/\s[i]? =some b/\k=GK g b
 | [],s,t,k=>by simp [tJ]
 |a::r,[],t,k=>by simp [tJ]
 |a::r,b::s,t,k=>by
  simp only [tJ,dp,ce,NV];constructor
  · rintro (⟨rfl,rfl⟩|⟨i,c,h1,h2,h3⟩)
    · exact ⟨0,b,rfl,rfl,rfl⟩
    exact ⟨i+1,c,by simpa using h1,by simpa using h2,h3⟩
  rintro ⟨i,c,h1,h2,h3⟩
  cases i with
  |zero=>simp at h1 h2;subst h1;subst h2;exact .inl ⟨rfl,h3⟩
  |succ i=>exact .inr ⟨i,c,by simpa using h1,by simpa using h2,h3⟩
theorem RH {g:Nat->Nat}: ∀(s:cV) (i:Nat),(IN g s)[i]? =(s[i]?).map (GK g)
 | [],i=>by simp [IN]
 |b::r,0=>by simp [IN]
 |b::r,i+1=>by simpa [IN] using RH r i
theorem IU {g:Nat->Nat}: ∀(s:cV),(IN g s).length=s.length
 | []=>rfl
 |b::r=>by simp [IN,IU r]
section
variable {P : Program} {F : qK} {rec : mI -> Option zG} {im : Im} {loc : dN} {sto : cV} {w : World} {tk : List Nat} {g : Nat -> Nat} {l1 l2 : dN}
mutual
theorem VR.renFA: ∀{x:PV} {v:Value},VR im l1 x v->(∀u,u∈lB zF x-> ∀li,l1 u=some li->l2 (g u)=some li)->VR im l2 (renF g x) v
 |_,_,.undef v,_=> .undef v
 |_,_,.nul,_=> .nul
 |_,_,.int k n,_=> .int k n
 |_,_,.bool b,_=> .bool b
 |_,_,.str s,_=> .str s
 |_,_,.agg cs vs h,hg=> .agg _ vs (VRL.renFA h (fun u hu=>hg u (by simpa [lB] using hu)))
 |_,_,.tup cs vs h,hg=> .tup _ vs (VRL.renFA h (fun u hu=>hg u (by simpa [lB] using hu)))
 |_,_,.sl esz clip rows a cap hc hk h,_=> .sl esz clip rows a cap hc hk h
 |_,_,.own t esz off len cap ex li a cap' h1 h2 h3 h4 h5 h6 h7,hg=> .own _ esz off len cap ex li a cap' (hg _ (by simp [lB]) _ h1) h2 h3 h4 h5 h6 h7
 |_,_,.ptr t esz row off li h1 h2 h3,hg=> .ptr _ esz row off li (hg _ (by simp [lB]) _ h1) h2 h3
 |_,_,.rptr cs off b o vs h hv,hg=> .rptr _ off b o vs (VRL.renFA h (fun u hu=>hg u (by simpa [lB] using hu))) hv
 |_,_,.mp t li h,hg=> .mp _ li (hg _ (by simp [lB]) _ h)
 |_,_,.clo fn a b as bs ha hb,hg=> .clo fn _ _ as bs (VRL.renFA ha (fun u hu=>hg u (by simp [lB,hu]))) (VRL.renFA hb (fun u hu=>hg u (by simp [lB,hu])))
 |_,_,.nilf,_=> .nilf
theorem VRL.renFA: ∀{x:List PV} {v:List Value},VRL im l1 x v->(∀u,u∈toksL zF x-> ∀li,l1 u=some li->l2 (g u)=some li)->VRL im l2 (renFL g x) v
 |_,_,.nil,_=> .nil
 |_,_,.cons x v xs vs h hs,hg=> .cons _ v _ vs (VR.renFA h (fun u hu=>hg u (by simp [toksL,hu]))) (VRL.renFA hs (fun u hu=>hg u (by simp [toksL,hu])))
end
theorem VR.renF {x:PV} {v:Value} (hg: ∀u,u∈lB zF x-> ∀li,l1 u=some li->l2 (g u)=some li) (h:VR im l1 x v):VR im l2 (Vm.renF g x) v:=h.renFA hg
theorem VRL.renF {x:List PV} {v:List Value} (hg: ∀u,u∈toksL zF x-> ∀li,l1 u=some li->l2 (g u)=some li) (h:VRL im l1 x v):VRL im l2 (renFL g x) v:=h.renFA hg
theorem IV: ∀(x:List PV),(renFL g x).length=x.length
 | []=>rfl
 |x::xs=>by simp [renFL,IV xs]
theorem BR.renF {li:LI} {k:mK} (hg: ∀u,u∈wX k-> ∀li,l1 u=some li->l2 (g u)=some li) (h:BR im l1 w li k):BR im l2 w li (GK g k):=by
 cases k with
 |arr e rows=>exact h
 |box cs=>
  obtain ⟨a1,a2,a3,vs,el,a4,a5,a6⟩:=h;exact ⟨by rw [IV];exact a1,a2,a3,vs,el,a4,a5,a6.renF hg⟩
 |map es=>exact h
 |dead=>trivial
theorem EE (k:mK):(GK g k).solid=k.solid:=by cases k<;>rfl
theorem ZN (hrec:KK P rec) {f:FuncId} {args:List PV} {fz:List Nat} {r:rT} {us:List Value}
 (h:AJ rec f args sto fz=some r) (ha:VRL im loc args us) (hk:lI im loc sto w r):
 AO P f ⟨us⟩ w fun u w'=> ∃im' loc',VR im' loc' r.v u/\zL im loc sto w r im' loc' w':=by
 unfold AJ at h;have hnd:(tF (toksL (dQ sto fH) args)).Nodup:=zP;generalize htk:tF (toksL (dQ sto fH) args)=tk at h hnd;split at h
 · cases h
 rename_i a s0 hlend;unfold aGd at hlend;split at hlend
 case isFalse=>cases hlend
 rename_i hnfz;simp only [c6,ck] at hnfz;split at hlend
 case h_2=>cases hlend
 rename_i a' s0' hra hrs;simp only [bq,ce] at hlend;obtain ⟨rfl,rfl⟩:=hlend;split at h
 case h_2=>cases h
 rename_i v s hr;unfold NH at h;split at h
 case isFalse=>cases h
 rename_i hfirm;injection h with h;obtain ⟨hl0,hget⟩:=KD hrs;have hf0:=NU hfirm;have hle:tk.length<=s.length:=by
  rcases Nat.eq_zero_or_pos tk.length with h0|h0
  · omega
  obtain ⟨y,hy,_⟩:=hf0 (tk.length-1) (s0'[tk.length-1]'(by omega)) (bo _)
  have:=iT hy;omega
 let locC:dN:=fun u=>match tk[u]? with|some t=>loc t|none=>none
 have hren:Ren tk loc locC:=fun u t hu=>by simp only [locC,hu]
 have hC: ∀u li,locC u=some li-> ∃t,tk[u]? =some t/\loc t=some li:=by
  intro u li hl;simp only [locC] at hl;split at hl
  · rename_i t ht;exact ⟨t,ht,hl⟩
  cases hl
 have hwrm: ∀t k,(t,k)∈r.wr↔ ∃(i:Nat) (b:mK),tk[i]? =some t/\s[i]? =some b/\k=GK (mT tk sto.length) b:=fun t k=>by rw [<- h];exact NV
 have hwrt: ∀u t,tk[u]? =some t->(t∈r.rd\/ ∃b,(t,b)∈r.wr):=fun u t ht=>by
  have:=iT ht
  exact .inr ⟨_,(hwrm t _).2 ⟨u,_,ht,bo (by omega),rfl⟩⟩
 have hold: ∀(u t:Nat) (k:mK),tk[u]? =some t->s0'[u]? =some k-> ∃k0:mK,sto[t]? =some k0/\k.solid=k0.solid:=fun u t k ht hs=>by
  obtain ⟨k0,k',g1,g2,g3⟩:=hget u t ht;rw [hs] at g3;injection g3 with g3;subst g3;exact ⟨k0,g1,IQ g2⟩
 have hSR:SR im locC s0' [] w:={
  im_ok:=hk.im_ok
  blk:=fun u li hl=>by
   obtain ⟨t,h1,h2⟩:=hC u li hl;obtain ⟨k,hk1,hbr⟩:=hk.tok t (hwrt u t h1) li h2;obtain ⟨k0,k',g1,g2,g3⟩:=hget u t h1;rw [hk1] at g1;injection g1 with g1;subst g1;exact ⟨k',g3,RE hren g2 hbr⟩
  excl:=fun t u li lj k k' hl hl' hs hs' hso hso' hb=>by
   obtain ⟨a1,h1,h2⟩:=hC t li hl;obtain ⟨a2,h3,h4⟩:=hC u lj hl';obtain ⟨k0,g1,g2⟩:=hold t a1 k h1 hs;obtain ⟨k0',g1',g2'⟩:=hold u a2 k' h3 hs'
   have:=hk.excl a1 a2 li lj k0 k0' (hwrt t a1 h1) (hwrt u a2 h3) h2 h4 g1 g1' (by rw [<- g2];exact hso) (by rw [<- g2'];exact hso') hb
   subst this;have pw:=d7.1 hnd;obtain ⟨l1,e1⟩:=bv.1 h1;obtain ⟨l2,e2⟩:=bv.1 h3;rcases cm t u with h|h|h
   · exact absurd (e1.trans e2.symm) (pw t u l1 l2 h)
   · exact h
   exact absurd (e2.trans e1.symm) (pw u t l2 l1 h)
  free:=fun t li k hl hs hso _=>by
   obtain ⟨a1,h1,h2⟩:=hC t li hl;obtain ⟨k0,g1,g2⟩:=hold t a1 k h1 hs;have hlt:=iT h1;exact hk.free a1 _ ((hwrm a1 _).2 ⟨t,_,h1,bo (by omega),rfl⟩) li k0 h2 g1 (by rw [<- g2];exact hso)}
 refine (hrec f a' s0' [] v s [] hr im locC w us hSR (renL_ok hren ha hra)).mono fun u w' ⟨im',locM,hf⟩=>?_
 let loc':dN:=fun t=>match loc t with
  |some li=>some li
  |none=>if sto.length<=t/\t-sto.length<r.news.length then locM (t-sto.length+tk.length) else none
 have hLle:pK loc loc':=fun t li hl=>by simp only [loc',hl]
 have hnl:(jW tk.length v s=true/\r.news=[])\/(jW tk.length v s=false/\r.news=IN (mT tk sto.length) (s.drop tk.length)):=by
  rw [<- h];cases hko:jW tk.length v s with
  |true=>exact .inl ⟨rfl,by simp⟩
  |false=>exact .inr ⟨rfl,by simp⟩
 have hnlen:jW tk.length v s=false->r.news.length=s.length-tk.length:=fun h1=>by
  rcases hnl with ⟨h2,_⟩|⟨_,h2⟩
  · rw [h1] at h2;cases h2
  rw [h2];simp [IU]
 have hMlt: ∀u li,locM u=some li->u<s.length:=fun u li hl=>let ⟨k,hk1,_⟩:=hf.sr.blk u li hl;iT hk1
 have hnewl: ∀j li,loc' (sto.length+j)=some li->j<r.news.length->locM (tk.length+j)=some li:=fun j li hl hj=>by
  simp only [loc',hk.fresh j hj] at hl;rw [if_pos ⟨by omega,by omega⟩] at hl
  rw [show sto.length+j-sto.length+tk.length=tk.length+j by omega] at hl
  exact hl
 have hg: ∀u,(u<tk.length\/jW tk.length v s=false)-> ∀li,locM u=some li->loc' (mT tk sto.length u)=some li:=by
  intro u hu0 li hl;unfold mT;split
  · rename_i t ht
    rcases hf.locs u li hl with h1|h1
    · obtain ⟨t',h2,h3⟩:=hC u li h1
      rw [ht] at h2;injection h2 with h2;subst h2;exact hLle _ _ h3
    have:=iT ht;omega
  rename_i hn
  have hu:tk.length<=u:=by simpa using hn
  rcases hu0 with hu0|hu0
  · omega
  have hlt:=hMlt u li hl;have hnl:=hnlen hu0;simp only [loc',hk.fresh (u-tk.length) (by omega)]
  rw [if_pos ⟨by omega,by omega⟩,show sto.length+(u-tk.length) -sto.length+tk.length=u by omega]
  exact hl
 have hko: ∀u,jW tk.length v s=true->(u∈lB zF v\/ ∃i b,i<tk.length/\s[i]? =some b/\u∈wX b)->u<tk.length:=fun u h1 h2=>by
  unfold jW at h1;have h3:=c6.1 h1 u (by
   rcases h2 with h2|⟨i,b,g1,g2,g3⟩
   · simp [h2]
   refine cu.2 (.inr (List.mem_flatMap.2 ⟨b,?_,g3⟩))
   exact List.mem_of_getElem? (i:=i) (by rw [List.getElem?_take];simp [g1,g2]))
  simpa using h3
 have hgv: ∀u,u∈lB zF v-> ∀li,locM u=some li->loc' (mT tk sto.length u)=some li:=fun u hu=>hg u (by
  cases hq:jW tk.length v s with
  |true=>exact .inl (hko u hq (.inl hu))
  |false=>exact .inr rfl)
 have hgb: ∀i b,i<tk.length->s[i]? =some b-> ∀u,u∈wX b-> ∀li,locM u=some li->loc' (mT tk sto.length u)=some li:=fun i b hi hb u hu=>hg u (by
  cases hq:jW tk.length v s with
  |true=>exact .inl (hko u hq (.inr ⟨i,b,hi,hb,hu⟩))
  |false=>exact .inr rfl)
 have hMC: ∀u t li,tk[u]? =some t->loc t=some li->locM u=some li:=fun u t li ht hl=>hf.locle u li (by simp only [locC,ht];exact hl)
 refine ⟨im',loc',by rw [<- h];exact hf.vr.renF hgv,?_⟩
 have hnews: ∀(j:Nat) (k:mK),r.news[j]? =some k-> ∃b,s[tk.length+j]? =some b/\k=GK (mT tk sto.length) b:=fun j k hj=>by
  rcases hnl with ⟨_,h0⟩|⟨_,h0⟩
  · rw [h0] at hj;simp at hj
  rw [h0] at hj;simp only [RH,List.getElem?_drop,bz] at hj;obtain ⟨b,h1,h2⟩:=hj;exact ⟨b,h1,h2.symm⟩
 have hnewloc: ∀t li,locM t=some li->tk.length<=t-> ∀k,s[t]? =some k->k.solid=true->w.heap.size<=li.blk:=by
  intro t li hl ht k hs hso;rcases hf.own t li k hl hs hso with h1|⟨u,lu,ku,h1,h2,h3,h4⟩
  · exact h1
  exfalso
  obtain ⟨a1,g1,g2⟩:=hC u lu h1;obtain ⟨y,y1,y2⟩:=hf0 u ku h2
  have:=hf.sr.excl u t lu li y k (hMC u a1 lu g1 g2) hl y1 hs (by rw [<- y2];exact h3) hso h4
  subst this
  have:=iT g1;omega
 exact {
  imle:=hf.imle,locle:=hLle
  im_ok:=hf.sr.im_ok
  imnew:=fun b o hb=>by
   rcases hf.imnew b o hb with h1|h1|⟨t,li,k,h1,h2,h3,h4⟩
   · exact .inl h1
   · exact .inr (.inl h1)
   exfalso
   obtain ⟨a1,g1,g2⟩:=hC t li h1;obtain ⟨y,y1,y2⟩:=hf0 t k h2
   have:=hf.sr.free t li y (hMC t a1 li g1 g2) y1 (by rw [<- y2];exact h3) rfl
   rw [h4,hb] at this;cases this
  os:=hf.os,tape:=hf.tape,output:=hf.output,size:=hf.size
  frame:=fun b hb hh=>hf.frame b hb fun t li k hl hs hso=>by
   obtain ⟨a1,g1,g2⟩:=hC t li hl;obtain ⟨k0,e1,e2⟩:=hold t a1 k g1 hs;have hlt:=iT g1;exact hh a1 _ li k0 ((hwrm a1 _).2 ⟨t,_,g1,bo (by omega),rfl⟩) g2 e1 (by rw [<- e2];exact hso)
  wrs:=fun t k hm hso=>by
   obtain ⟨i,b,g1,g2,rfl⟩:=(hwrm t k).1 hm;rw [EE] at hso;have hlt:=iT g1;have e:=bo (l:=s0') (i:=i) (by omega)
   obtain ⟨y,y1,y2⟩:=hf0 i _ e;rw [g2] at y1;injection y1 with y1;subst y1;obtain ⟨k0,e1,e2⟩:=hold i t _ g1 e;exact ⟨k0,e1,by rw [<- e2,y2];exact hso⟩
  wr:=fun t k li hm hl=>by
   obtain ⟨i,b,g1,g2,rfl⟩:=(hwrm t k).1 hm;obtain ⟨k',hk1,hbr⟩:=hf.sr.blk i li (hMC i t li g1 hl);rw [g2] at hk1;injection hk1 with hk1;subst hk1;exact hbr.renF (hgb i b (iT g1) g2)
  locnew:=fun t li hl=>by
   simp only [loc'] at hl;cases hl0:loc t with
   |some lj=>rw [hl0] at hl;exact .inl hl
   |none=>
    rw [hl0] at hl;dsimp only at hl;split at hl
    · rename_i hn
      exact .inr ⟨hn.1,by omega⟩
    cases hl
  news:=fun j k li hj hl=>by
   have hjl:j<r.news.length:=iT hj;obtain ⟨b,hb,rfl⟩:=hnews j k hj;have hl0:=hnewl j li hl hjl;obtain ⟨k',hk1,hbr⟩:=hf.sr.blk _ li hl0;rw [hb] at hk1;injection hk1 with hk1;subst hk1;have hq:jW tk.length v s=false:=by
    rcases hnl with ⟨_,h0⟩|⟨h0,_⟩
    · rw [h0] at hjl;simp at hjl
    exact h0
   refine ⟨hbr.renF (fun u _=>hg u (.inr hq)),fun hso=>?_⟩
   rw [EE] at hso;exact ⟨hf.sr.free _ li b hl0 hb hso rfl,.inl (hnewloc _ li hl0 (by omega) b hb hso)⟩
  distinct:=fun i j ki kj li lj hi hj hsi hsj hli hlj hb=>by
   obtain ⟨b1,e1,rfl⟩:=hnews i ki hi;obtain ⟨b2,e2,rfl⟩:=hnews j kj hj;rw [EE] at hsi hsj;have h1:=hnewl i li hli (iT hi);have h2:=hnewl j lj hlj (iT hj)
   have:=hf.sr.excl _ _ li lj b1 b2 h1 h2 e1 e2 hsi hsj hb
   omega}
end
end Go.Vm
/- A region's run in the order of the text, step by step; what a block holds when some of its operations are done. -/
namespace Go.Vm
structure EF (F:qK) (rec:mI->Option zG) (ops:List bX) (S:Nat->St) (X:Nat->Option XR):Prop where
 steps: ∀(i:Nat) (o:bX),ops[i]? =some o->
  (wanted o.guard (S i).env=some true/\ ∃x,DL F rec (S i).env (S i).sto (S i).fz o.op=some x/\x.ok (S i).fz=true/\X i=some x/\S (i+1)=x.next o.dst (S i))\/
  (wanted o.guard (S i).env=some false/\X i=none/\S (i+1)={S i with env:=kM o.dst .nul (S i).env})
def GH (x:Option XR) (s:St):Tr:=
 match x with
 |some x=>x.tr s.sto.length
 |none=>Tr.idle
def GM (S:Nat->St) (X:Nat->Option XR) (n:Nat):List Tr:=(List.range n).map fun i=>GH (X i) (S i)
theorem ZO (S:Nat->St) (X:Nat->Option XR) (n:Nat):GM S X (n+1)=GH (X 0) (S 0)::GM (fun i=>S (i+1)) (fun i=>X (i+1)) n:=by
 unfold GM;rw [List.range_succ_eq_map];simp [List.map_map,Function.comp_def]
theorem KM {F:qK} {rec:mI->Option zG}: ∀(ops:List bX) (st:St) (tr:List Tr) (st':St) (tr':List Tr),pN F rec ops st tr=some (st',tr')->
 ∃S X,S 0=st/\S ops.length=st'/\EF F rec ops S X/\tr'=(GM S X ops.length).reverse++tr
 | [],st,tr,st',tr',h=>by
  simp only [pN,bq,ce] at h;obtain ⟨rfl,rfl⟩:=h;exact ⟨fun _=>st,fun _=>none,rfl,rfl,⟨fun i o h=>by simp at h⟩,by simp [GM]⟩
 |o::l,st,tr,st',tr',h=>by
  simp only [pN] at h;have mk: ∀(s1:St) (x:Option XR) (t1:Tr),GH x st=t1->pN F rec l s1 (t1::tr)=some (st',tr')->
   ((wanted o.guard st.env=some true/\ ∃y,DL F rec st.env st.sto st.fz o.op=some y/\y.ok st.fz=true/\x=some y/\s1=y.next o.dst st)\/
    (wanted o.guard st.env=some false/\x=none/\s1={st with env:=kM o.dst .nul st.env}))->
   ∃S X,S 0=st/\S (o::l).length=st'/\EF F rec (o::l) S X/\tr'=(GM S X (o::l).length).reverse++tr:=by
   intro s1 x t1 ht he hs;obtain ⟨S,X,h0,hn,hrun,htr⟩:=KM l s1 (t1::tr) st' tr' he;refine ⟨fun i=>match i with|0=>st|i+1=>S i,fun i=>match i with|0=>x|i+1=>X i,rfl,hn,⟨fun i o' ho=>?_⟩,?_⟩
   · cases i with
     |zero=>
      simp at ho;subst ho;rcases hs with ⟨a,y,b,c,d,e⟩|⟨a,b,c⟩
      · exact .inl ⟨a,y,b,c,d,by rw [<- e];exact h0⟩
      exact .inr ⟨a,b,by rw [<- c];exact h0⟩
     |succ i=>exact hrun.steps i o' (by simpa using ho)
   rw [List.length_cons,ZO,htr]
   simp [ht]
  cases hw:wanted o.guard st.env with
  |none=>rw [hw] at h;cases h
  |some b=>
   rw [hw] at h;cases b with
   |false=>exact mk _ none _ rfl h (.inr ⟨hw,rfl,rfl⟩)
   |true=>
    dsimp only at h;cases hx:DL F rec st.env st.sto st.fz o.op with
    |none=>rw [hx] at h;cases h
    |some x=>
     rw [hx] at h;dsimp only at h;split at h
     · rename_i hok
       exact mk _ (some x) _ rfl h (.inl ⟨hw,x,hx,hok,rfl,rfl⟩)
     cases h
theorem gL: ∀(wr:List (Nat×mK)) (s:cV),(hZ wr s).length=s.length
 | [],s=>rfl
 |(t,b)::r,s=>by rw [hZ,gL r];simp
theorem AP: ∀(wr:List (Nat×mK)) (s:cV) (t:Nat),(∀k,(t,k)∉wr)->(hZ wr s)[t]? =s[t]?
 | [],s,t,_=>rfl
 |(u,b)::r,s,t,h=>by
  rw [hZ,AP r _ t (fun k hk=>h k (by simp [hk]))]
  have:u≠t:=fun e=>h b (by rw [e];simp)
  rw [ew this]
theorem NW: ∀(wr:List (Nat×mK)) (s:cV),B1 wr=true-> ∀{t:Nat} {k:mK},(t,k)∈wr->t<s.length->(hZ wr s)[t]? =some k
 |(u,b)::r,s,hn,t,k,hm,hlt=>by
  simp only [B1,bn,c6,ck] at hn;rw [hZ];rcases dp.1 hm with h|h
  · injection h with h1 h2
    subst h1 h2;rw [AP r _ t fun k' hk=>by simpa using hn.1 (t,k') hk]
    simp [hlt]
  exact NW r _ hn.2 h (by simpa using hlt)
section
variable {F : qK} {rec : mI -> Option zG} {ops : List bX} {S : Nat -> St} {X : Nat -> Option XR}
def W (X:Nat->Option XR) (i t:Nat):Prop:=
 match X i with
 |some (.loc r)=> ∃k,(t,k)∈r.wr
 |some (.shr ..)=>True
 |none=>False
def FR (X:Nat->Option XR) (i t:Nat):Prop:=
 match X i with
 |some (.loc r)=>t∈r.fr
 |some (.shr _ _ z)=>t∈z
 |none=>False
def IW (S:Nat->St) (X:Nat->Option XR) (n:Nat) (done:Nat->Prop) (t:Nat) (k:mK):Prop:=
 ∃m,m<=n/\(∀i,i<n->W X i t->(done i↔i<m))/\(∀c,c<n->(S c).sto.length<=t->t<(S (c+1)).sto.length->c<m)/\(S m).sto[t]? =some k
theorem aBg {e:zE} {sto:cV} {fz:List Nat} {op:nX} {v:PV} {s:cV} {z:List Nat} (h:DL F rec e sto fz op=some (.shr v s z)):sto.length<=s.length/\ ∀t,t∈fz->t∈z:=by
 have key: ∀{f:FuncId} {args:List PV},gY rec f args sto fz=some (.shr v s z)->sto.length<=s.length/\ ∀t,t∈fz->t∈z:=by
  intro f args h;unfold gY at h;split at h
  · split at h
    · rename_i hc
      simp only [bn,dm,c6] at hc;simp only [bq,XR.shr.injEq] at h;obtain ⟨rfl,rfl,rfl⟩:=h;exact ⟨hc.1,fun t ht=>uH.1 (hc.2 t ht)⟩
    cases h
  cases h
 cases op with
 |call m f args=>
  cases m with
  |pur=>simp [DL] at h
  |own=>simp [DL] at h
  |shr=>exact key h
  |fp=>simp [DL] at h
 |callv x args=>
  simp only [DL] at h;split at h
  · split at h
    · exact key h
    simp at h
  cases h
 |_=>simp [DL] at h
theorem EF.len_le (hr:EF F rec ops S X) {i:Nat} (hi:i<ops.length):(S i).sto.length<=(S (i+1)).sto.length:=by
 rcases hr.steps i _ (bo hi) with ⟨_,x,hx,_,_,hn⟩|⟨_,_,hn⟩
 · rw [hn]
   cases x with
   |loc r=>simp [XR.next,xA,gL]
   |shr v s z=>exact (aBg hx).1
 rw [hn];exact cd _
theorem EF.len_mono (hr : EF F rec ops S X) {i j : Nat} (hij : i <= j) (hj : j <= ops.length) : (S i).sto.length <= (S j).sto.length := by
  induction j with
  | zero => have : i = 0 := by omega
            subst this; exact cd _
  | succ j ih =>
    rcases c8 hij with h | h
    · subst h; exact cd _
    exact cq (ih (by omega) (by omega)) (hr.len_le (by omega))
theorem EF.same (hr:EF F rec ops S X) {i t:Nat} (hi:i<ops.length) (hw: ¬W X i t) (ht:t<(S i).sto.length):(S (i+1)).sto[t]? =(S i).sto[t]?:=by
 rcases hr.steps i _ (bo hi) with ⟨_,x,hx,_,hX,hn⟩|⟨_,_,hn⟩
 · rw [hn]
   cases x with
   |loc r=>
    simp only [XR.next,xA]
    rw [bw (by rw [gL];exact ht)]
    exact AP _ _ _ fun k hk=>hw (by unfold W;rw [hX];exact ⟨k,hk⟩)
   |shr v s z=>exact absurd (by unfold W;rw [hX];trivial) hw
 rw [hn]
theorem EF.same_to (hr : EF F rec ops S X) {m m' t : Nat} (hm : m <= m') (hm' : m' <= ops.length) (hw : ∀ i, m <= i -> i < m' -> ¬ W X i t) (ht : t < (S m).sto.length) : (S m').sto[t]? = (S m).sto[t]? := by
  induction m' with
  | zero => have : m = 0 := by omega
            subst this; rfl
  | succ j ih =>
    rcases c8 hm with h | h
    · subst h; rfl
    rw [hr.same (by omega) (hw j (by omega) (by omega)) (dh ht (hr.len_mono (by omega) (by omega)))]
    exact ih (by omega) (by omega) fun i h1 h2 => hw i h1 (by omega)
theorem cY {α:Type} {l:List α} {i:Nat} {x:α} (h:l[i]? =some x):i<l.length:=(bv.1 h).1
theorem IW.unique (hr:EF F rec ops S X) {done:Nat->Prop} {t:Nat} {k k':mK} (h:IW S X ops.length done t k) (h':IW S X ops.length done t k'):k=k':=by
 obtain ⟨m,hm,hw,hc,hs⟩:=h;obtain ⟨m',hm',hw',hc',hs'⟩:=h';rcases fq m m' with h|h
 · have:=hr.same_to h hm' (fun i h1 h2 hW=>by
    have a:=hw i (by omega) hW
    have b:=hw' i (by omega) hW
    have:=a.1 (b.2 h2);omega) (cY hs)
   rw [hs,hs'] at this;exact (ej this).symm
 have:=hr.same_to h hm (fun i h1 h2 hW=>by
  have a:=hw i (by omega) hW
  have b:=hw' i (by omega) hW
  have:=b.1 (a.2 h2);omega) (cY hs')
 rw [hs,hs'] at this;exact ej this
theorem EF.env_same (hr:EF F rec ops S X) {i t:Nat} (hi:i<ops.length) (hd:(ops[i]).dst≠some t):lk t (S (i+1)).env=lk t (S i).env:=by
 have key: ∀(d:Option Nat) (v:PV) (e:zE),d≠some t->lk t (kM d v e)=lk t e:=by
  intro d v e h;cases d with
  |none=>rfl
  |some s=>
   simp only [kM];rw [xC,if_neg (fun e=>h (by rw [e]))]
 rcases hr.steps i _ (bo hi) with ⟨_,x,hx,_,hX,hn⟩|⟨_,_,hn⟩
 · rw [hn]
   cases x with
   |loc r=>exact key _ _ _ hd
   |shr v s z=>exact key _ _ _ hd
 rw [hn];exact key _ _ _ hd
theorem EF.env_to (hr : EF F rec ops S X) {m m' t : Nat} (hm : m <= m') (hm' : m' <= ops.length) (hd : ∀ i (hi : i < ops.length), m <= i -> i < m' -> (ops[i]).dst ≠ some t) : lk t (S m').env = lk t (S m).env := by
  induction m' with
  | zero => have : m = 0 := by omega
            subst this; rfl
  | succ j ih =>
    rcases c8 hm with h | h
    · subst h; rfl
    rw [hr.env_same (by omega) (hd j (by omega) (by omega) (by omega))]
    exact ih (by omega) (by omega) fun i hi h1 h2 => hd i hi h1 (by omega)
end
end Go.Vm
/- A region: what holds while some of its operations are done, and that one more keeps it. -/
namespace Go.Vm
def uses (x:bX):List Nat:=(x.op.opds.filterMap fun| .t n=>some n| .c _=>none)++(match x.guard with|some (s,_)=>[s]|none=>[])
def BE (ops:Array Oper):Option (Nat×Bool)->Option (Nat×Bool)->Bool
 |none,none=>true
 |some (s,b),some (j,c)=>b==c&&((ops[j]?).bind (·.dst))==some s
 |_,_=>false
def xD (P:Program) (prims:FuncId->Bool) (nt:Nat) (ops:Array Oper) (x:bX) (o:Oper):Bool:=
 x.dst==o.dst&&(match x.dst with|some d=>dt d nt|none=>true)&&BE ops x.guard o.guard&&DN P prims o.type x.op o.op
def wW (X:Nat->Option XR) (i:Nat):Prop:= ∃v s z,X i=some (.shr v s z)
def touches (X:Nat->Option XR) (i:Nat):Prop:=
 match X i with
 |some (.loc r)=>r.rd≠[]\/r.fr≠[]\/r.wr≠[]\/r.news≠[]
 |some (.shr ..)=>True
 |none=>False
def A (X:Nat->Option XR) (i t:Nat):Prop:=
 match X i with
 |some (.loc r)=>t∈r.rd\/t∈r.fr
 |_=>False
structure IL (ops:List bX) (S:Nat->St) (X:Nat->Option XR) (bef:Nat->Nat->Prop):Prop where
 slot1: ∀(i j t:Nat) (x y:bX),i<j->ops[i]? =some x->ops[j]? =some y->x.dst=some t->(t∈uses y\/y.dst=some t)->bef i j
 slot2: ∀(i j t:Nat) (x y:bX),i<j->ops[i]? =some x->ops[j]? =some y->y.dst=some t->t∈uses x->bef i j
 tok1: ∀i j t,i<j->j<ops.length->W X i t->(A X j t\/W X j t)->bef i j
 tok2: ∀i j t,i<j->j<ops.length->A X i t->W X j t->bef i j
 tok3: ∀i j t,i<j->j<ops.length-> ¬wW X i->(S i).sto.length<=t->t<(S (i+1)).sto.length-> ¬wW X j->W X j t->bef i j
 bar: ∀i j,i<j->j<ops.length->(wW X i/\touches X j\/touches X i/\wW X j)->bef i j
 cl: ∀i t,i<ops.length-> ¬wW X i->(A X i t\/W X i t)->t<(S i).sto.length\/ ∀c,i<c->c<ops.length->bef i c
structure BZ (ops:List bX) (S:Nat->St) (X:Nat->Option XR) (im0:Im) (loc0:dN) (w0:World) (nt:Nat) (done:Nat->Prop) (im:Im) (loc:dN) (a:Act) (w:World):Prop where
 tm: ∀t,∃m,m<=ops.length/\(∀i x,ops[i]? =some x->x.dst=some t->(done i↔i<m))/\VR im loc (lk t (S m).env) (a.tmps.getD t Go.undef)
 im_ok: ∀b o,im b=some o->w.heap[b]? =some o
 tok: ∀t li,loc t=some li-> ∃k,IW S X ops.length done t k/\BR im loc w li k
 excl: ∀t u li lj k k',loc t=some li->loc u=some lj->IW S X ops.length done t k->IW S X ops.length done u k'->k.solid=true->k'.solid=true->li.blk=lj.blk->t=u
 free: ∀t li k,loc t=some li->IW S X ops.length done t k->k.solid=true->t∉(S 0).fz->(∀i,i<ops.length->done i-> ¬FR X i t)->im li.blk=none
 fresh: ∀i,i<ops.length-> ¬done i-> ∀t,(S i).sto.length<=t->t<(S (i+1)).sto.length->loc t=none
 imle:rX im0 im
 locle:pK loc0 loc
 os:w.os=w0.os
 tape:w.tape=w0.tape
 output:w.output=w0.output
 size:w0.heap.size<=w.heap.size
 frame: ∀b,b<w0.heap.size->(∀t li k,loc0 t=some li->(S 0).sto[t]? =some k->k.solid=true->li.blk≠b)->w.heap[b]? =w0.heap[b]?
 imnew: ∀b o,im b=some o->im0 b=some o\/w0.heap.size<=b\/ ∃t li k,loc0 t=some li/\(S 0).sto[t]? =some k/\k.solid=true/\li.blk=b
 locs: ∀t li,loc t=some li->loc0 t=some li\/(S 0).sto.length<=t
 own: ∀t li k,loc t=some li->IW S X ops.length done t k->k.solid=true->(w0.heap.size<=li.blk\/ ∃u lu ku,loc0 u=some lu/\(S 0).sto[u]? =some ku/\ku.solid=true/\lu.blk=li.blk)
 defers:a.defers=[]
 nts:a.tmps.size=nt
def B8 (done:Nat->Prop) (i:Nat):Nat->Prop:=fun j=>done j\/j=i
section
variable {F : qK} {rec : mI -> Option zG} {ops : List bX} {S : Nat -> St} {X : Nat -> Option XR} {bef : Nat -> Nat -> Prop} {im0 : Im} {loc0 : dN} {w0 : World} {nt : Nat}
  {done : Nat -> Prop} {im : Im} {loc : dN} {a : Act} {w : World} {i : Nat}
structure DQ (ops:List bX) (bef:Nat->Nat->Prop) (done:Nat->Prop) (i:Nat):Prop where
 lt:i<ops.length
 nd: ¬done i
 pre: ∀j,j<ops.length->bef j i->done j
 clo: ∀k,k<ops.length->done k-> ∀j,j<ops.length->bef j k->done j
theorem DQ.later (hp:DQ ops bef done i) {k:Nat} (hk:k<ops.length) (h:bef i k): ¬done k:=fun hd=>hp.nd (hp.clo k hk hd i hp.lt h)
theorem BZ.slot (hr:EF F rec ops S X) (ho:IL ops S X bef) (hv:BZ ops S X im0 loc0 w0 nt done im loc a w) (hp:DQ ops bef done i) {x:bX} (hx:ops[i]? =some x) {t:Nat} (ht:t∈uses x):
 VR im loc (lk t (S i).env) (a.tmps.getD t Go.undef):=by
 obtain ⟨m,hm,hd,hvr⟩:=hv.tm t;have hwr: ∀j y,ops[j]? =some y->y.dst=some t->(done j↔j<i):=by
  intro j y hy hyd;rcases cm j i with h|h|h
  · exact ⟨fun _=>h,fun _=>hp.pre j (cY hy) (ho.slot1 j i t y x h hy hx hyd (.inl ht))⟩
  · subst h;exact ⟨fun hd=>absurd hd hp.nd,fun h=>by omega⟩
  exact ⟨fun hdj=>absurd hdj (hp.later (cY hy) (ho.slot2 i j t x y h hx hy hyd ht)),fun h'=>by omega⟩
 have same:lk t (S i).env=lk t (S m).env:=by
  rcases fq m i with h|h
  · refine hr.env_to h (dz hp.lt) fun j hj h1 h2 hdst=>?_
    have a1:=hd j _ (bo hj) hdst;have a2:=hwr j _ (bo hj) hdst
    have:=a1.1 (a2.2 h2);omega
  refine (hr.env_to h hm fun j hj h1 h2 hdst=>?_).symm
  have a1:=hd j _ (bo hj) hdst;have a2:=hwr j _ (bo hj) hdst
  have:=a2.1 (a1.2 h2);omega
 rw [same];exact hvr
theorem BZ.cur (hr:EF F rec ops S X) (ho:IL ops S X bef) (hv:BZ ops S X im0 loc0 w0 nt done im loc a w) (hp:DQ ops bef done i) {t:Nat} {li:LI} (hl:loc t=some li)
 (ht:(A X i t\/W X i t)) {k:mK} (hc:IW S X ops.length done t k):(S i).sto[t]? =some k:=by
 obtain ⟨m,hm,hw,hcr,hs⟩:=hc;have hlen:t<(S i).sto.length:=by
  rcases cp t (S i).sto.length with h|h
  · exact h
  exfalso
  have hmi:i<m:=by
   rcases cp i m with h'|h'
   · exact h'
   have:=hr.len_mono h' (dz hp.lt);have:=cY hs;omega
  have: ∃c,i<=c/\c<m/\(S c).sto.length<=t/\t<(S (c+1)).sto.length:=by
   have hex: ∀d,i+d<=m->t<(S (i+d)).sto.length-> ∃c,i<=c/\c<i+d/\(S c).sto.length<=t/\t<(S (c+1)).sto.length:=by
    intro d
    induction d with
    |zero=>intro _ h2;exact absurd h2 (by simpa using h)
    |succ d ih=>
     intro h1 h2;rcases cp t (S (i+d)).sto.length with h3|h3
     · obtain ⟨c,c1,c2,c3,c4⟩:=ih (by omega) h3
       exact ⟨c,c1,by omega,c3,c4⟩
     exact ⟨i+d,by omega,by omega,h3,h2⟩
   obtain ⟨c,c1,c2,c3,c4⟩:=hex (m-i) (by omega) (by rw [show i+(m-i)=m by omega];exact cY hs)
   exact ⟨c,c1,by omega,c3,c4⟩
  obtain ⟨c,c1,c2,c3,c4⟩:=this;have hcn:c<ops.length:=by omega
  have hndc: ¬done c:=by
   intro hdc;rcases c8 c1 with e|e
   · subst e;exact hp.nd hdc
   by_cases hsh:wW X i
   · refine hp.later hcn (ho.bar i c e hcn (.inl ⟨hsh,?_⟩)) hdc
     rcases hr.steps c _ (bo hcn) with ⟨_,x,hx,_,hX,hn⟩|⟨_,_,hn⟩
     · unfold touches;rw [hX]
       cases x with
       |loc r=>
        refine .inr (.inr (.inr fun hnil=>?_))
        rw [hn] at c4;simp [XR.next,xA,gL,hnil] at c4
        omega
       |shr v s z=>trivial
     rw [hn] at c4;simp at c4;omega
   rcases ho.cl i t hp.lt hsh ht with h'|h'
   · omega
   exact hp.later hcn (h' c e hcn) hdc
  have:=hv.fresh c hcn hndc t c3 c4
  rw [hl] at this;cases this
 have hwr: ∀j,j<ops.length->W X j t->(done j↔j<i):=by
  intro j hj hW;rcases cm j i with h|h|h
  · exact ⟨fun _=>h,fun _=>hp.pre j hj (ho.tok1 j i t h hp.lt hW ht)⟩
  · subst h;exact ⟨fun hd=>absurd hd hp.nd,fun h=>by omega⟩
  refine ⟨fun hdj=>absurd hdj (hp.later hj ?_),fun h'=>by omega⟩
  rcases ht with ht|ht
  · exact ho.tok2 i j t h hj ht hW
  exact ho.tok1 i j t h hj ht (.inr hW)
 rcases fq m i with h|h
 · rw [hr.same_to h (dz hp.lt) (fun j h1 h2 hW=>by
    have a1:=hw j (by have:=hp.lt;omega) hW
    have a2:=hwr j (by have:=hp.lt;omega) hW
    have:=a1.1 (a2.2 h2);omega) (cY hs)]
   exact hs
 rw [<- hr.same_to h hm (fun j h1 h2 hW=>by
  have a1:=hw j (by omega) hW
  have a2:=hwr j (by omega) hW
  have:=a2.1 (a1.2 h2);omega) hlen]
 exact hs
end
end Go.Vm
/- A region: one more operation keeps what holds. -/
namespace Go.Vm
theorem BR.mono' {im im':Im} {loc loc':dN} {w w':World} {li:LI} {k:mK} (h:BR im loc w li k) (hi:rX im im') (hl:pK loc loc')
 (hw:k.solid=true->w'.heap[li.blk]? =w.heap[li.blk]?):BR im' loc' w' li k:=by
 cases hs:k.solid with
 |true=>exact h.mono hi hl (hw hs)
 |false=>
  cases k with
  |arr e rows=>
   cases rows with
   |nil=>exact ⟨h.1,h.2.1,fun hne=>absurd rfl hne⟩
   |cons _ _=>cases hs
  |box _=>cases hs
  |map _=>cases hs
  |dead=>trivial
section
variable {F : qK} {rec : mI -> Option zG} {ops : List bX} {S : Nat -> St} {X : Nat -> Option XR} {bef : Nat -> Nat -> Prop} {im0 : Im} {loc0 : dN} {w0 : World} {nt : Nat}
  {done : Nat -> Prop} {im : Im} {loc : dN} {a : Act} {w : World} {i : Nat}
theorem EF.fz_le (hr:EF F rec ops S X) {j:Nat} (hj:j<ops.length): ∀t,t∈(S j).fz->t∈(S (j+1)).fz:=by
 intro t ht;rcases hr.steps j _ (bo hj) with ⟨_,x,hx,_,_,hn⟩|⟨_,_,hn⟩
 · rw [hn]
   cases x with
   |loc r=>simp only [XR.next];exact eu _ ht
   |shr v s z=>exact (aBg hx).2 t ht
 rw [hn];exact ht
theorem EF.fz_mono (hr : EF F rec ops S X) {m m' : Nat} (h : m <= m') (hm : m' <= ops.length) : ∀ t, t ∈ (S m).fz -> t ∈ (S m').fz := by
  induction m' with
  | zero => have : m = 0 := by omega
            subst this; exact fun _ h => h
  | succ j ih =>
    rcases c8 h with e | e
    · subst e; exact fun _ h => h
    exact fun t ht => hr.fz_le (by omega) t (ih (by omega) (by omega) t ht)
theorem EF.fr_fz (hr:EF F rec ops S X) {j:Nat} (hj:j<ops.length) {t:Nat} (h:FR X j t):t∈(S (j+1)).fz:=by
 rcases hr.steps j _ (bo hj) with ⟨_,x,hx,_,hX,hn⟩|⟨_,hX,_⟩
 · rw [hn]
   unfold FR at h;rw [hX] at h;cases x with
   |loc r=>exact ez _ h
   |shr v s z=>exact h
 unfold FR at h;rw [hX] at h;exact h.elim
theorem aUD {j t:Nat} (h:FR X j t):A X j t\/W X j t:=by
 unfold FR at h;unfold A W;cases hX:X j with
 |none=>rw [hX] at h;exact h.elim
 |some x=>
  rw [hX] at h;cases x with
  |loc r=>exact .inl (.inr h)
  |shr v s z=>exact .inr trivial
theorem BZ.not_frozen (hr:EF F rec ops S X) (ho:IL ops S X bef) (hp:DQ ops bef done i) {t:Nat} (hW:W X i t) (hz:t∉(S i).fz):
 t∉(S 0).fz/\ ∀j,j<ops.length->done j-> ¬FR X j t:=by
 refine ⟨fun h=>hz (hr.fz_mono (c7 _) (dz hp.lt) t h),fun j hj hd hf=>?_⟩
 rcases cm j i with h|h|h
 · exact hz (hr.fz_mono h (dz hp.lt) t (hr.fr_fz hj hf))
 · subst h;exact hp.nd hd
 exact hp.later hj (ho.tok1 i j t h hj hW (aUD hf)) hd
theorem BZ.known (hr:EF F rec ops S X) (ho:IL ops S X bef) (hv:BZ ops S X im0 loc0 w0 nt done im loc a w) (hp:DQ ops bef done i) {r:rT} (hX:X i=some (.loc r)) (hok:(XR.loc r).ok (S i).fz=true)
 (hn:(S (i+1)).sto.length=(S i).sto.length+r.news.length):lI im loc (S i).sto w r where
 im_ok:=hv.im_ok
 tok:=fun t ht li hl=>by
  obtain ⟨k,hc,hbr⟩:=hv.tok t li hl;refine ⟨k,hv.cur hr ho hp hl ?_ hc,hbr⟩;rcases ht with ht|ht
  · exact .inl (by unfold A;rw [hX];exact .inl ht)
  exact .inr (by unfold W;rw [hX];exact ht)
 free:=fun t k hm li k' hl hs hsol=>by
  have hW:W X i t:=by unfold W;rw [hX];exact ⟨k,hm⟩
  simp only [XR.ok,bn,c6,ck] at hok;have hz:t∉(S i).fz:=lU.1 (hok.1 (t,k) hm);obtain ⟨h0,h1⟩:=BZ.not_frozen hr ho hp hW hz;obtain ⟨k2,hc,_⟩:=hv.tok t li hl
  have:=hv.cur hr ho hp hl (.inr hW) hc
  rw [hs] at this;injection this with this;subst this;exact hv.free t li k' hl hc hsol h0 h1
 fresh:=fun j hj=>hv.fresh i hp.lt hp.nd _ (by omega) (by omega)
 excl:=fun t u li lj k k' ht hu hl hl' hs hs' hsol hsol' hb=>by
  have aw: ∀t,(t∈r.rd\/ ∃b,(t,b)∈r.wr)->A X i t\/W X i t:=fun t h=>by
   rcases h with h|h
   · exact .inl (by unfold A;rw [hX];exact .inl h)
   exact .inr (by unfold W;rw [hX];exact h)
  obtain ⟨k1,hc1,_⟩:=hv.tok t li hl;obtain ⟨k2,hc2,_⟩:=hv.tok u lj hl';have e1:=hv.cur hr ho hp hl (aw t ht) hc1;have e2:=hv.cur hr ho hp hl' (aw u hu) hc2;rw [hs] at e1;injection e1 with e1;subst e1;rw [hs'] at e2;injection e2 with e2;subst e2;exact hv.excl t u li lj _ _ hl hl' hc1 hc2 hsol hsol' hb
theorem BZ.step_loc (hr:EF F rec ops S X) (ho:IL ops S X bef) (hv:BZ ops S X im0 loc0 w0 nt done im loc a w) (hp:DQ ops bef done i) {x:bX} (hx:ops[i]? =some x) {r:rT} (hX:X i=some (.loc r))
 (hok:(XR.loc r).ok (S i).fz=true) (hS:S (i+1)=(XR.loc r).next x.dst (S i)) {v':Value} {im':Im} {loc':dN} {w':World} (hvr:VR im' loc' r.v v') (he:zL im loc (S i).sto w r im' loc' w')
 (hdst: ∀d,x.dst=some d->d<nt):BZ ops S X im0 loc0 w0 nt (B8 done i) im' loc' (a.put x.dst v') w':=by
 have hlen:(S (i+1)).sto.length=(S i).sto.length+r.news.length:=by rw [hS];simp [XR.next,xA,gL]
 have hin:=hp.lt;have hone:B1 r.wr=true:=by simp only [XR.ok,bn] at hok;exact hok.2
 have hsto:(S (i+1)).sto=hZ r.wr (S i).sto++r.news:=by rw [hS];exact xA _ _
 have wr_at: ∀t k,(t,k)∈r.wr->t<(S i).sto.length->(S (i+1)).sto[t]? =some k:=by
  intro t k hm hlt;rw [hsto,bw (by rw [gL];exact hlt)]
  exact NW _ _ hone hm hlt
 have new_at: ∀j k,r.news[j]? =some k->(S (i+1)).sto[(S i).sto.length+j]? =some k:=by
  intro j k hj;rw [hsto,cf (by rw [gL];omega),gL,show (S i).sto.length+j- (S i).sto.length=j by omega]
  exact hj
 have wlt: ∀t li,loc t=some li->W X i t->t<(S i).sto.length:=by
  intro t li hl hW;obtain ⟨k,hc,_⟩:=hv.tok t li hl;exact cY (hv.cur hr ho hp hl (.inr hW) hc)
 have cur_wr: ∀t k li,(t,k)∈r.wr->loc t=some li->IW S X ops.length (B8 done i) t k:=by
  intro t k li hm hl;have hW:W X i t:=by unfold W;rw [hX];exact ⟨k,hm⟩
  have hlt:=wlt t li hl hW;refine ⟨i+1,hin,fun j hj hWj=>?_,fun c hc h1 h2=>?_,wr_at t k hm hlt⟩
  · rcases cm j i with h|h|h
    · exact ⟨fun _=>by omega,fun _=> .inl (hp.pre j hj (ho.tok1 j i t h hin hWj (.inr hW)))⟩
    · subst h;exact ⟨fun _=>by omega,fun _=> .inr rfl⟩
    refine ⟨fun hd=>?_,fun h'=>by omega⟩
    rcases hd with hd|hd
    · exact absurd hd (hp.later hj (ho.tok1 i j t h hj hW (.inr hWj)))
    omega
  rcases cp c (i+1) with h|h
  · exact h
  have:=hr.len_mono (show i<=c by omega) (by omega);omega
 have cur_new: ∀j k,r.news[j]? =some k->IW S X ops.length (B8 done i) ((S i).sto.length+j) k:=by
  intro j k hj;have hjl:=cY hj;refine ⟨i+1,hin,fun q hq hWq=>?_,fun c hc h1 h2=>?_,new_at j k hj⟩
  · rcases cm q i with h|h|h
    · refine ⟨fun _=>by omega,fun _=> .inl ?_⟩
      by_cases hs:wW X q
      ·
       refine hp.pre q hq (ho.bar q i h hin (.inl ⟨hs,?_⟩));unfold touches;rw [hX];exact .inr (.inr (.inr (by intro e;rw [e] at hj;simp at hj)))
      rcases ho.cl q _ hq hs (.inr hWq) with h'|h'
      · have:=hr.len_mono (show q<=i by omega) (by omega);omega
      exact hp.pre q hq (h' i h hin)
    · subst h;exact ⟨fun _=>by omega,fun _=> .inr rfl⟩
    refine ⟨fun hd=>?_,fun h'=>by omega⟩
    rcases hd with hd|hd
    · exfalso
      by_cases hs:wW X q
      · refine hp.later hq (ho.bar i q h hq (.inr ⟨?_,hs⟩)) hd
        unfold touches;rw [hX];exact .inr (.inr (.inr (by intro e;rw [e] at hj;simp at hj)))
      exact hp.later hq (ho.tok3 i q _ h hq (by rintro ⟨v,s,z,e⟩;rw [hX] at e;cases e) (by omega) (by omega) hs hWq) hd
    omega
  rcases cp c (i+1) with h|h
  · exact h
  have:=hr.len_mono (show i+1<=c by omega) (by omega);omega
 have cur_old: ∀t k,¬W X i t->IW S X ops.length done t k->IW S X ops.length (B8 done i) t k:=by
  intro t k hW hc;obtain ⟨m,hm,h1,h2,h3⟩:=hc;refine ⟨m,hm,fun j hj hWj=>?_,h2,h3⟩
  have hne:j≠i:=fun e=>hW (e▸hWj)
  have:=h1 j hj hWj
  exact ⟨fun hd=>this.1 (hd.resolve_right hne),fun h=> .inl (this.2 h)⟩
 have not_shr: ¬wW X i:=by rintro ⟨v,s,z,e⟩;rw [hX] at e;cases e
 have cases_t: ∀t li,loc' t=some li->(∃j k,t=(S i).sto.length+j/\r.news[j]? =some k/\loc t=none)\/loc t=some li:=by
  intro t li hl;rcases he.locnew t li hl with h|⟨h1,h2⟩
  · exact .inr h
  refine .inl ⟨t- (S i).sto.length,r.news[t- (S i).sto.length],by omega,bo (by omega),?_⟩
  exact hv.fresh i hin hp.nd t h1 (by omega)
 have old: ∀t li k,loc t=some li->IW S X ops.length (B8 done i) t k->k.solid=true-> ∃k0,IW S X ops.length done t k0/\k0.solid=true/\BR im loc w li k0/\(¬W X i t->k0=k)/\(W X i t->(t,k)∈r.wr):=by
  intro t li k hl hc hs;obtain ⟨k0,hc0,hbr⟩:=hv.tok t li hl
  by_cases hW:W X i t
  · have hW2:=hW
    unfold W at hW2;rw [hX] at hW2;obtain ⟨k2,hm⟩:=hW2;have e:=(cur_wr t k2 li hm hl).unique hr hc;subst e;obtain ⟨k3,h3,h4⟩:=he.wrs t k2 hm hs
    have:=hv.cur hr ho hp hl (.inr hW) hc0
    rw [h3] at this;injection this with this;subst this;exact ⟨k3,hc0,h4,hbr,fun h=>absurd hW h,fun _=>hm⟩
  have e:=(cur_old t k0 hW hc0).unique hr hc
  subst e;exact ⟨k0,hc0,hs,hbr,fun _=>rfl,fun h=>absurd h hW⟩
 have wr_cur: ∀t k li k0,(t,k)∈r.wr->loc t=some li->(S i).sto[t]? =some k0->IW S X ops.length done t k0:=by
  intro t k li k0 hm hl hs;obtain ⟨k1,hc1,_⟩:=hv.tok t li hl
  have:=hv.cur hr ho hp hl (.inr (by unfold W;rw [hX];exact ⟨k,hm⟩)) hc1
  rw [hs] at this;injection this with this;subst this;exact hc1
 have fr_cur: ∀t li k0,t∈r.fr->loc t=some li->(S i).sto[t]? =some k0->IW S X ops.length done t k0:=by
  intro t li k0 hm hl hs;obtain ⟨k1,hc1,_⟩:=hv.tok t li hl
  have:=hv.cur hr ho hp hl (.inl (by unfold A;rw [hX];exact .inr hm)) hc1
  rw [hs] at this;injection this with this;subst this;exact hc1
 refine {
  tm:=fun t=>?_
  im_ok:=he.im_ok
  tok:=fun t li hl=>?_
  excl:=fun t u li lj k k' hl hl' hc hc' hs hs' hb=>?_
  free:=fun t li k hl hc hs h0 hf=>?_
  fresh:=fun j hj hnd t h1 h2=>?_
  imle:=hv.imle.trans he.imle
  locle:=hv.locle.trans he.locle
  os:=he.os.trans hv.os
  tape:=he.tape.trans hv.tape
  output:=he.output.trans hv.output
  size:=cq hv.size he.size
  frame:=fun b hb hh=>?_
  imnew:=fun b o hb=>?_
  locs:=fun t li hl=>?_
  own:=fun t li k hl hc hs=>?_
  defers:=by
   cases hd:x.dst<;>simp [Act.put,hv.defers]
  nts:=by
   cases hd:x.dst<;>simp [Act.put,hv.nts]}
 ·
  by_cases hd:x.dst=some t
  · refine ⟨i+1,hin,fun j y hy hyd=>?_,?_⟩
    · rcases cm j i with h|h|h
      · exact ⟨fun _=>by omega,fun _=> .inl (hp.pre j (cY hy) (ho.slot1 j i t y x h hy hx hyd (.inr hd)))⟩
      · subst h;exact ⟨fun _=>by omega,fun _=> .inr rfl⟩
      refine ⟨fun hdj=>?_,fun h'=>by omega⟩
      rcases hdj with hdj|hdj
      · exact absurd hdj (hp.later (cY hy) (ho.slot1 i j t x y h hx hy hd (.inr hyd)))
      omega
    rw [hS]
    simp only [XR.next,hd,kM,xC,if_true,Act.put]
    have:=hdst t hd
    simp [hv.nts,this,hvr]
  obtain ⟨m,hm,h1,h2⟩:=hv.tm t
  refine ⟨m,hm,fun j y hy hyd=>?_,?_⟩
  · have hne:j≠i:=by intro e;subst e;rw [hx] at hy;injection hy with hy;subst hy;exact hd hyd
    have:=h1 j y hy hyd
    exact ⟨fun hdj=>this.1 (hdj.resolve_right hne),fun h=> .inl (this.2 h)⟩
  have:=h2.mono he.imle he.locle
  cases hxd:x.dst with
  |none=>simpa [Act.put] using this
  |some d=>
   have hne:d≠t:=fun e=>hd (by rw [hxd,e])
   simpa [Act.put,cw,hne] using this
 ·
  rcases cases_t t li hl with ⟨j,k,rfl,hj,_⟩|hlo
  · obtain ⟨h2,_⟩:=he.news j k li hj hl
    exact ⟨k,cur_new j k hj,h2⟩
  obtain ⟨k0,hc0,hbr⟩:=hv.tok t li hlo
  by_cases hW:W X i t
  · have hW2:=hW
    unfold W at hW2;rw [hX] at hW2;obtain ⟨k2,hm⟩:=hW2;exact ⟨k2,cur_wr t k2 li hm hlo,he.wr t k2 li hm hlo⟩
  refine ⟨k0,cur_old t k0 hW hc0,hbr.mono' he.imle he.locle fun hs=>?_⟩
  refine he.frame _ (hbr.lt hs) fun t2 k2 l2 k3 hm hl2 hs3 hsol hbb=>?_
  have:=hv.excl t2 t l2 li k3 k0 hl2 hlo (wr_cur t2 k2 l2 k3 hm hl2 hs3) hc0 hsol hs hbb
  subst this;exact hW (by unfold W;rw [hX];exact ⟨k2,hm⟩)
 ·
  have newold: ∀t u li lj k k',(∃j k,t=(S i).sto.length+j/\r.news[j]? =some k/\loc t=none)->loc u=some lj->loc' t=some li->IW S X ops.length (B8 done i) t k->IW S X ops.length (B8 done i) u k'->
   k.solid=true->k'.solid=true->li.blk=lj.blk->False:=by
   intro t u li lj k k' hj hlu hl hc hc' hs hs' hb;obtain ⟨j,k1,rfl,hj,_⟩:=hj;have e:=(cur_new j k1 hj).unique hr hc;subst e;obtain ⟨h2,h3⟩:=he.news j k1 li hj hl;obtain ⟨k0,hc0,hs0,hbr0,hk0,hw0⟩:=old u lj k' hlu hc' hs';have hlt:=hbr0.lt hs0;rcases (h3 hs).2 with h|⟨td,lt,kd,hm,hld,hsd,hsold,hbd⟩
   · omega
   have:=hv.excl td u lt lj kd k0 hld hlu (wr_cur td _ lt kd hm hld hsd) hc0 hsold hs0 (by rw [hbd,hb])
   subst this;have hm2:=hw0 (by unfold W;rw [hX];exact ⟨_,hm⟩)
   have e2:=(cur_wr td _ lj hm hlu).unique hr (cur_wr td _ lj hm2 hlu);subst e2;cases hs'
  rcases cases_t t li hl with h1|h1
  · rcases cases_t u lj hl' with h2|h2
    · obtain ⟨j1,k1,rfl,hj1,_⟩:=h1
      obtain ⟨j2,k2,rfl,hj2,_⟩:=h2;have e1:=(cur_new j1 k1 hj1).unique hr hc;have e2:=(cur_new j2 k2 hj2).unique hr hc';subst e1 e2;rw [he.distinct j1 j2 k1 k2 li lj hj1 hj2 hs hs' hl hl' hb]
    exact (newold t u li lj k k' h1 h2 hl hc hc' hs hs' hb).elim
  rcases cases_t u lj hl' with h2|h2
  · exact (newold u t lj li k' k h2 h1 hl' hc' hc hs' hs hb.symm).elim
  obtain ⟨k0,hc0,hs0,_⟩:=old t li k h1 hc hs
  obtain ⟨k1,hc1,hs1,_⟩:=old u lj k' h2 hc' hs';exact hv.excl t u li lj k0 k1 h1 h2 hc0 hc1 hs0 hs1 hb
 ·
  rcases cases_t t li hl with ⟨j,k1,rfl,hj,_⟩|hlo
  · have e:=(cur_new j k1 hj).unique hr hc
    subst e;obtain ⟨h2,h3⟩:=he.news j k1 li hj hl;exact (h3 hs).1
  obtain ⟨k0,hc0,hs0,hbr0,_,_⟩:=old t li k hlo hc hs
  have hn:=hv.free t li k0 hlo hc0 hs0 h0 (fun j hj hd=>hf j hj (.inl hd))
  cases hb:im' li.blk with
  |none=>rfl
  |some o=>
   rcases he.imnew _ _ hb with h|h|⟨t2,l2,k2,h1,h2,h3,h4,h5⟩
   · rw [hn] at h;cases h
   · have:=hbr0.lt hs0;omega
   have hm:=uH.1 h1
   have:=hv.excl t2 t l2 li k2 k0 h2 hlo (fr_cur t2 l2 k2 hm h2 h3) hc0 h4 hs0 h5
   subst this;exact absurd (by unfold FR;rw [hX];exact hm) (hf i hin (.inr rfl))
 ·
  have hji:j≠i:=fun e=>hnd (.inr e)
  have hndj: ¬done j:=fun h=>hnd (.inl h)
  cases hl:loc' t with
  |none=>rfl
  |some li=>
   exfalso;rcases he.locnew t li hl with h|⟨h3,h4⟩
   · rw [hv.fresh j hj hndj t h1 h2] at h;cases h
   rcases fk hji with h|h
   · have:=hr.len_mono (show j+1<=i by omega) (by omega);omega
   have:=hr.len_mono (show i+1<=j by omega) (by omega);omega
 ·
  have hb2:b<w.heap.size:=dh hb hv.size;rw [he.frame b hb2 (fun t k li k0 hm hl hs hsol hbb=>?_)]
  · exact hv.frame b hb hh
  rcases hv.own t li k0 hl (wr_cur t k li k0 hm hl hs) hsol with h|⟨u,lu,ku,h1,h2,h3,h4⟩
  · omega
  exact hh u lu ku h1 h2 h3 (by omega)
 · rcases he.imnew b o hb with h|h|⟨t,li,k,h1,h2,h3,h4,h5⟩
   · exact hv.imnew b o h
   · exact .inr (.inl (cq hv.size h))
   rcases hv.own t li k h2 (fr_cur t li k (uH.1 h1) h2 h3) h4 with h|⟨u,lu,ku,g1,g2,g3,g4⟩
   · exact .inr (.inl (by omega))
   exact .inr (.inr ⟨u,lu,ku,g1,g2,g3,by omega⟩)
 · rcases he.locnew t li hl with h|⟨h,_⟩
   · exact hv.locs t li h
   exact .inr (cq (hr.len_mono (c7 _) (by omega)) h)
 rcases cases_t t li hl with ⟨j,k1,rfl,hj,_⟩|hlo
 · have e:=(cur_new j k1 hj).unique hr hc
   subst e;obtain ⟨h2,h3⟩:=he.news j k1 li hj hl;rcases (h3 hs).2 with h|⟨td,lt,kd,hm,hld,hsd,hsold,hbd⟩
   · exact .inl (cq hv.size h)
   rcases hv.own td lt kd hld (wr_cur td _ lt kd hm hld hsd) hsold with h|⟨u,lu,ku,g1,g2,g3,g4⟩
   · exact .inl (by omega)
   exact .inr ⟨u,lu,ku,g1,g2,g3,by omega⟩
 obtain ⟨k0,hc0,hs0,_⟩:=old t li k hlo hc hs
 exact hv.own t li k0 hlo hc0 hs0
end
end Go.Vm
/- A region: a call that works on the blocks themselves, and a skipped operation. -/
namespace Go.Vm
section
variable {F : qK} {rec : mI -> Option zG} {ops : List bX} {S : Nat -> St} {X : Nat -> Option XR} {bef : Nat -> Nat -> Prop} {im0 : Im} {loc0 : dN} {w0 : World} {nt : Nat}
  {done : Nat -> Prop} {im : Im} {loc : dN} {a : Act} {w : World} {i : Nat}
theorem RI {v:PV} {s:cV} {z:List Nat} (hX:X i=some (.shr v s z)) (t:Nat):W X i t:=by unfold W;rw [hX];trivial
theorem B9 {j t:Nat} (h:W X j t):touches X j:=by
 unfold W at h;unfold touches;cases hX:X j with
 |none=>rw [hX] at h;exact h.elim
 |some x=>
  rw [hX] at h;cases x with
  |loc r=>
   obtain ⟨k,hk⟩:=h;exact .inr (.inr (.inl (by intro e;rw [e] at hk;cases hk)))
  |shr v s z=>trivial
theorem BZ.sr (hr:EF F rec ops S X) (ho:IL ops S X bef) (hv:BZ ops S X im0 loc0 w0 nt done im loc a w) (hp:DQ ops bef done i) {v:PV} {s:cV} {z:List Nat} (hX:X i=some (.shr v s z)):
 SR im loc (S i).sto (S i).fz w where
 im_ok:=hv.im_ok
 blk:=fun t li hl=>by
  obtain ⟨k,hc,hb⟩:=hv.tok t li hl;exact ⟨k,hv.cur hr ho hp hl (.inr (RI hX t)) hc,hb⟩
 excl:=fun t u li lj k k' hl hl' hs hs' h h' hb=>by
  obtain ⟨k1,hc1,_⟩:=hv.tok t li hl;obtain ⟨k2,hc2,_⟩:=hv.tok u lj hl';have e1:=hv.cur hr ho hp hl (.inr (RI hX t)) hc1;have e2:=hv.cur hr ho hp hl' (.inr (RI hX u)) hc2;rw [hs] at e1;injection e1 with e1;subst e1;rw [hs'] at e2;injection e2 with e2;subst e2;exact hv.excl t u li lj _ _ hl hl' hc1 hc2 h h' hb
 free:=fun t li k hl hs h hz=>by
  obtain ⟨k1,hc1,_⟩:=hv.tok t li hl;have e1:=hv.cur hr ho hp hl (.inr (RI hX t)) hc1;rw [hs] at e1;injection e1 with e1;subst e1;obtain ⟨h0,h1⟩:=BZ.not_frozen hr ho hp (RI hX t) (lU.1 hz);exact hv.free t li _ hl hc1 h h0 h1
theorem BZ.put_tm {S:Nat->St} (ho:IL ops S X bef) (hp:DQ ops bef done i) {x:bX} (hx:ops[i]? =some x) {v:PV} {v':Value} {im':Im} {loc':dN}
 (hv:BZ ops S X im0 loc0 w0 nt done im loc a w) (hi:rX im im') (hl:pK loc loc') (hS:(S (i+1)).env=kM x.dst v (S i).env) (hvr:VR im' loc' v v') (hdst: ∀d,x.dst=some d->d<nt):
 ∀t,∃m,m<=ops.length/\(∀j y,ops[j]? =some y->y.dst=some t->(B8 done i j↔j<m))/\VR im' loc' (lk t (S m).env) ((a.put x.dst v').tmps.getD t Go.undef):=by
 intro t;have hin:=hp.lt
 by_cases hd:x.dst=some t
 · refine ⟨i+1,hin,fun j y hy hyd=>?_,?_⟩
   · rcases cm j i with h|h|h
     · exact ⟨fun _=>by omega,fun _=> .inl (hp.pre j (cY hy) (ho.slot1 j i t y x h hy hx hyd (.inr hd)))⟩
     · subst h;exact ⟨fun _=>by omega,fun _=> .inr rfl⟩
     refine ⟨fun hdj=>?_,fun h'=>by omega⟩
     rcases hdj with hdj|hdj
     · exact absurd hdj (hp.later (cY hy) (ho.slot1 i j t x y h hx hy hd (.inr hyd)))
     omega
   rw [hS]
   simp only [hd,kM,xC,if_true,Act.put]
   have:=hdst t hd
   simp [hv.nts,this,hvr]
 obtain ⟨m,hm,h1,h2⟩:=hv.tm t
 refine ⟨m,hm,fun j y hy hyd=>?_,?_⟩
 · have hne:j≠i:=by intro e;subst e;rw [hx] at hy;injection hy with hy;subst hy;exact hd hyd
   have:=h1 j y hy hyd
   exact ⟨fun hdj=>this.1 (hdj.resolve_right hne),fun h=> .inl (this.2 h)⟩
 have:=h2.mono hi hl
 cases hxd:x.dst with
 |none=>simpa [Act.put] using this
 |some d=>
  have hne:d≠t:=fun e=>hd (by rw [hxd,e])
  simpa [Act.put,cw,hne] using this
theorem NX (a:Act) (d:Option Nat) (v:Value):(a.put d v).defers=a.defers:=by cases d<;>rfl
theorem V4 (a:Act) (d:Option Nat) (v:Value):(a.put d v).tmps.size=a.tmps.size:=by cases d<;>simp [Act.put]
theorem BZ.step_shr (hr:EF F rec ops S X) (ho:IL ops S X bef) (hv:BZ ops S X im0 loc0 w0 nt done im loc a w) (hp:DQ ops bef done i) {x:bX} (hx:ops[i]? =some x) {v:PV} {s:cV} {z:List Nat}
 (hX:X i=some (.shr v s z)) (hS:S (i+1)=(XR.shr v s z).next x.dst (S i)) {v':Value} {im':Im} {loc':dN} {w':World} (hf:BD im loc (S i).sto w v s z im' loc' w' v')
 (hdst: ∀d,x.dst=some d->d<nt):BZ ops S X im0 loc0 w0 nt (B8 done i) im' loc' (a.put x.dst v') w':=by
 have hin:=hp.lt;have hsto:(S (i+1)).sto=s:=by rw [hS];rfl
 have cur0: ∀t li,loc t=some li-> ∀k,(S i).sto[t]? =some k->IW S X ops.length done t k:=by
  intro t li hl k hs;obtain ⟨k1,hc1,_⟩:=hv.tok t li hl;have e1:=hv.cur hr ho hp hl (.inr (RI hX t)) hc1;rw [hs] at e1;injection e1 with e1;subst e1;exact hc1
 have cur1: ∀t k,s[t]? =some k->IW S X ops.length (B8 done i) t k:=by
  intro t k hs;refine ⟨i+1,hin,fun j hj hWj=>?_,fun c hc h1 h2=>?_,by rw [hsto];exact hs⟩
  · rcases cm j i with h|h|h
    · exact ⟨fun _=>by omega,fun _=> .inl (hp.pre j hj (ho.bar j i h hin (.inr ⟨B9 hWj,⟨v,s,z,hX⟩⟩)))⟩
    · subst h;exact ⟨fun _=>by omega,fun _=> .inr rfl⟩
    refine ⟨fun hd=>?_,fun h'=>by omega⟩
    rcases hd with hd|hd
    · exact absurd hd (hp.later hj (ho.bar i j h hj (.inl ⟨⟨v,s,z,hX⟩,B9 hWj⟩)))
    omega
  rcases cp c (i+1) with h|h
  · exact h
  have:=hr.len_mono (show i+1<=c by omega) (by omega)
  have:=cY hs
  rw [hsto] at*;omega
 have cur2: ∀t li,loc' t=some li-> ∀k,IW S X ops.length (B8 done i) t k->s[t]? =some k:=by
  intro t li hl k hc;obtain ⟨k1,h1,_⟩:=hf.sr.blk t li hl
  have:=hc.unique hr (cur1 t k1 h1)
  subst this;exact h1
 refine {
  tm:=BZ.put_tm ho hp hx hv hf.imle hf.locle (by rw [hS];rfl) hf.vr hdst
  im_ok:=hf.sr.im_ok
  tok:=fun t li hl=>by
   obtain ⟨k,h1,h2⟩:=hf.sr.blk t li hl;exact ⟨k,cur1 t k h1,h2⟩
  excl:=fun t u li lj k k' hl hl' hc hc' hs hs' hb=>hf.sr.excl t u li lj k k' hl hl' (cur2 t li hl k hc) (cur2 u lj hl' k' hc') hs hs' hb
  free:=fun t li k hl hc hs h0 hfr=>by
   refine hf.sr.free t li k hl (cur2 t li hl k hc) hs (lU.2 ?_)
   have:=hfr i hin (.inr rfl)
   unfold FR at this;rw [hX] at this;exact this
  fresh:=fun j hj hnd t h1 h2=>?_
  imle:=hv.imle.trans hf.imle
  locle:=hv.locle.trans hf.locle
  os:=hf.os.trans hv.os
  tape:=hf.tape.trans hv.tape
  output:=hf.output.trans hv.output
  size:=cq hv.size hf.size
  frame:=fun b hb hh=>?_
  imnew:=fun b o hb=>?_
  locs:=fun t li hl=>?_
  own:=fun t li k hl hc hs=>?_
  defers:=by rw [NX];exact hv.defers
  nts:=by rw [V4];exact hv.nts}
 · have hji:j≠i:=fun e=>hnd (.inr e)
   have hndj: ¬done j:=fun h=>hnd (.inl h)
   cases hl:loc' t with
   |none=>rfl
   |some li=>
    exfalso;obtain ⟨k,hk,_⟩:=hf.sr.blk t li hl;have hlt:=cY hk;rcases hf.locs t li hl with h|h
    · rw [hv.fresh j hj hndj t h1 h2] at h;cases h
    rcases fk hji with h'|h'
    · have:=hr.len_mono (show j+1<=i by omega) (by omega);omega
    have:=hr.len_mono (show i+1<=j by omega) (by omega)
    rw [hsto] at this;omega
 · rw [hf.frame b (dh hb hv.size) fun t li k hl hs hsol hbb=>?_]
   · exact hv.frame b hb hh
   rcases hv.own t li k hl (cur0 t li hl k hs) hsol with h|⟨u,lu,ku,g1,g2,g3,g4⟩
   · omega
   exact hh u lu ku g1 g2 g3 (by omega)
 · rcases hf.imnew b o hb with h|h|⟨t,li,k,h1,h2,h3,h4⟩
   · exact hv.imnew b o h
   · exact .inr (.inl (cq hv.size h))
   rcases hv.own t li k h1 (cur0 t li h1 k h2) h3 with h|⟨u,lu,ku,g1,g2,g3,g4⟩
   · exact .inr (.inl (by omega))
   exact .inr (.inr ⟨u,lu,ku,g1,g2,g3,by omega⟩)
 · rcases hf.locs t li hl with h|h
   · exact hv.locs t li h
   exact .inr (cq (hr.len_mono (c7 _) (by omega)) h)
 rcases hf.own t li k hl (cur2 t li hl k hc) hs with h|⟨u,lu,ku,h1,h2,h3,h4⟩
 · exact .inl (cq hv.size h)
 rcases hv.own u lu ku h1 (cur0 u lu h1 ku h2) h3 with h|⟨u',lu',ku',g1,g2,g3,g4⟩
 · exact .inl (by omega)
 exact .inr ⟨u',lu',ku',g1,g2,g3,by omega⟩
theorem BZ.step_skip (_hr:EF F rec ops S X) (ho:IL ops S X bef) (hv:BZ ops S X im0 loc0 w0 nt done im loc a w) (hp:DQ ops bef done i) {x:bX} (hx:ops[i]? =some x)
 (hX:X i=none) (hS:S (i+1)={S i with env:=kM x.dst .nul (S i).env}) (hdst: ∀d,x.dst=some d->d<nt):BZ ops S X im0 loc0 w0 nt (B8 done i) im loc (a.put x.dst Go.undef) w:=by
 have hin:=hp.lt;have hnW: ∀t,¬W X i t:=fun t h=>by unfold W at h;rw [hX] at h;exact h
 have hsto:(S (i+1)).sto=(S i).sto:=by rw [hS]
 have cur1: ∀t k,IW S X ops.length done t k->IW S X ops.length (B8 done i) t k:=by
  intro t k ⟨m,hm,h1,h2,h3⟩;refine ⟨m,hm,fun j hj hWj=>?_,h2,h3⟩
  have hne:j≠i:=fun e=>hnW t (e▸hWj)
  have:=h1 j hj hWj
  exact ⟨fun hd=>this.1 (hd.resolve_right hne),fun h=> .inl (this.2 h)⟩
 have cur2: ∀t k,IW S X ops.length (B8 done i) t k->IW S X ops.length done t k:=by
  intro t k ⟨m,hm,h1,h2,h3⟩;refine ⟨m,hm,fun j hj hWj=>?_,h2,h3⟩
  have hne:j≠i:=fun e=>hnW t (e▸hWj)
  have:=h1 j hj hWj
  exact ⟨fun hd=>this.1 (.inl hd),fun h=>(this.2 h).resolve_right hne⟩
 refine {
  tm:=BZ.put_tm ho hp hx hv (.refl _) (.refl _) (by rw [hS]) .nul hdst
  im_ok:=hv.im_ok
  tok:=fun t li hl=>let ⟨k,h1,h2⟩:=hv.tok t li hl;⟨k,cur1 t k h1,h2⟩
  excl:=fun t u li lj k k' hl hl' hc hc' hs hs' hb=>hv.excl t u li lj k k' hl hl' (cur2 t k hc) (cur2 u k' hc') hs hs' hb
  free:=fun t li k hl hc hs h0 hfr=>hv.free t li k hl (cur2 t k hc) hs h0 fun j hj hd=>hfr j hj (.inl hd)
  fresh:=fun j hj hnd t h1 h2=>hv.fresh j hj (fun h=>hnd (.inl h)) t h1 h2
  imle:=hv.imle
  locle:=hv.locle
  os:=hv.os
  tape:=hv.tape
  output:=hv.output
  size:=hv.size
  frame:=hv.frame
  imnew:=hv.imnew
  locs:=hv.locs
  own:=fun t li k hl hc hs=>hv.own t li k hl (cur2 t k hc) hs
  defers:=by rw [NX];exact hv.defers
  nts:=by rw [V4];exact hv.nts}
theorem BZ.start {st:St} (h0:S 0=st) (hsr:SR im0 loc0 st.sto st.fz w0) (her:ER im0 loc0 st.env a.tmps) (hd:a.defers=[]) (hn:a.tmps.size=nt) (hr:EF F rec ops S X):
 BZ ops S X im0 loc0 w0 nt (fun _=>False) im0 loc0 a w0:=by
 subst h0;have hlt: ∀t li,loc0 t=some li->t<(S 0).sto.length:=fun t li hl=>let ⟨k,h,_⟩:=hsr.blk t li hl;cY h
 have cur: ∀t li k,loc0 t=some li->IW S X ops.length (fun _=>False) t k->(S 0).sto[t]? =some k:=by
  intro t li k hl ⟨m,hm,h1,h2,h3⟩;rw [<- hr.same_to (c7 m) hm (fun j _ hj hW=>(h1 j (by omega) hW).2 hj) (hlt t li hl)]
  exact h3
 exact {
  tm:=fun t=>⟨0,c7 _,fun j y _ _=>⟨fun h=>h.elim,fun h=>by omega⟩,her t⟩
  im_ok:=hsr.im_ok
  tok:=fun t li hl=>by
   obtain ⟨k,h1,h2⟩:=hsr.blk t li hl;refine ⟨k,⟨0,c7 _,fun j _ _=>⟨fun h=>h.elim,fun h=>by omega⟩,fun c hc h3 h4=>?_,h1⟩,h2⟩
   have:=hlt t li hl
   have:=hr.len_mono (c7 c) (by omega)
   omega
  excl:=fun t u li lj k k' hl hl' hc hc'=>hsr.excl t u li lj k k' hl hl' (cur t li k hl hc) (cur u lj k' hl' hc')
  free:=fun t li k hl hc hs hz _=>hsr.free t li k hl (cur t li k hl hc) hs (lU.2 hz)
  fresh:=fun j hj _ t h1 h2=>by
   cases hl:loc0 t with
   |none=>rfl
   |some li=>
    have:=hlt t li hl
    have:=hr.len_mono (c7 j) (by omega)
    omega
  imle:= .refl _
  locle:= .refl _
  os:=rfl
  tape:=rfl
  output:=rfl
  size:=cd _
  frame:=fun _ _ _=>rfl
  imnew:=fun _ _ h=> .inl h
  locs:=fun _ _ h=> .inl h
  own:=fun t li k hl hc hs=> .inr ⟨t,li,k,hl,cur t li k hl hc,hs,rfl⟩
  defers:=hd
  nts:=hn}
structure QV (im0:Im) (loc0:dN) (sto0:cV) (w0:World) (st:St) (im:Im) (loc:dN) (w:World):Prop where
 sr:SR im loc st.sto st.fz w
 imle:rX im0 im
 locle:pK loc0 loc
 os:w.os=w0.os
 tape:w.tape=w0.tape
 output:w.output=w0.output
 size:w0.heap.size<=w.heap.size
 frame: ∀b,b<w0.heap.size->(∀t li k,loc0 t=some li->sto0[t]? =some k->k.solid=true->li.blk≠b)->w.heap[b]? =w0.heap[b]?
 imnew: ∀b o,im b=some o->im0 b=some o\/w0.heap.size<=b\/ ∃t li k,loc0 t=some li/\sto0[t]? =some k/\k.solid=true/\li.blk=b
 locs: ∀t li,loc t=some li->loc0 t=some li\/sto0.length<=t
 own: ∀t li k,loc t=some li->st.sto[t]? =some k->k.solid=true->(w0.heap.size<=li.blk\/ ∃u lu ku,loc0 u=some lu/\sto0[u]? =some ku/\ku.solid=true/\lu.blk=li.blk)
theorem BZ.finish (hr : EF F rec ops S X) (hv : BZ ops S X im0 loc0 w0 nt done im loc a w) (hd : ∀ j, j < ops.length -> done j) :
    QV im0 loc0 (S 0).sto w0 (S ops.length) im loc w /\ ER im loc (S ops.length).env a.tmps /\ a.defers = [] /\ a.tmps.size = nt := by
  have cur : ∀ t k, IW S X ops.length done t k -> (S ops.length).sto[t]? = some k := by
    intro t k ⟨m, hm, h1, h2, h3⟩
    rw [hr.same_to hm (cd _) (fun j h4 h5 hW => by have := (h1 j h5 hW).1 (hd j h5); omega) (cY h3)]
    exact h3
  have cur' : ∀ t li k, loc t = some li -> (S ops.length).sto[t]? = some k -> IW S X ops.length done t k := by
    intro t li k hl hs
    obtain ⟨k1, hc, _⟩ := hv.tok t li hl
    have := cur t k1 hc
    rw [hs] at this; injection this with this; subst this; exact hc
  refine ⟨{
    sr := { im_ok := hv.im_ok
            blk := fun t li hl => let ⟨k, h1, h2⟩ := hv.tok t li hl; ⟨k, cur t k h1, h2⟩
            excl := fun t u li lj k k' hl hl' hs hs' => hv.excl t u li lj k k' hl hl' (cur' t li k hl hs) (cur' u lj k' hl' hs')
            free := fun t li k hl hs hsol hz => by
              have hz := lU.1 hz
              refine hv.free t li k hl (cur' t li k hl hs) hsol (fun h => hz (hr.fz_mono (c7 _) (cd _) t h)) fun j hj _ hf => ?_
              exact hz (hr.fz_mono (show j + 1 <= ops.length from hj) (cd _) t (hr.fr_fz hj hf)) }
    imle := hv.imle, locle := hv.locle, os := hv.os, tape := hv.tape, output := hv.output, size := hv.size, frame := hv.frame, imnew := hv.imnew, locs := hv.locs
    own := fun t li k hl hs => hv.own t li k hl (cur' t li k hl hs) }, fun t => ?_, hv.defers, hv.nts⟩
  obtain ⟨m, hm, h1, h2⟩ := hv.tm t
  rw [hr.env_to hm (cd _) fun j hj h3 h4 hdst => ?_]
  · exact h2
  have := (h1 j _ (bo hj) hdst).1 (hd j hj); omega
end
end Go.Vm
/- One operation of a region, in the model. -/
namespace Go.Vm
theorem KN {P:Program} {o:Oper} {a:Act} {w:World} {f:FuncId} {us:Array Value} {R:Value->World->Prop} {next:Act->World->Prop} {Q:Exit->Act->World->Prop}
 (h:(execOp a.eval o).run P w=(callFunc f us).run P w) (hc:AO P f us w R) (hR: ∀v w',R v w'->next (a.put o.dst v) w'):o.wp P a w next Q:=by
 unfold Oper.wp;rw [h];rcases hc with ⟨v,w',h1,h2⟩|⟨h1,h2⟩
 · rw [h1,Oper.upon_value];exact hR v w' h2
 rw [h1,Oper.upon_enter]
 refine h2.mono fun e w' ⟨v,he,hv⟩=>?_
 subst he;exact hR v w' hv
theorem ZP {im:Im} {loc:dN} {e:zE} {a:Act} (x:gH) (h: ∀t,x= .t t->VR im loc (lk t e) (a.tmps.getD t Go.undef)) (o:Operand) (hc:bK x o=true):VR im loc (x.ev e) (a.eval o):=by
 unfold bK at hc;split at hc
 · rename_i n m
   have:n=m:=by simpa using hc
   subst this;exact h n rfl
 · exact TE hc
 · rename_i f g
   have:f=g:=by simpa using hc
   subst this;exact .clo f [] [] [] [] .nil .nil
 · exact .undef _
 cases hc
section
variable {P : Program} {F : qK} {rec : mI -> Option zG} {ops : List bX} {S : Nat -> St} {X : Nat -> Option XR} {bef : Nat -> Nat -> Prop} {im0 : Im} {loc0 : dN} {w0 : World} {nt : Nat}
  {done : Nat -> Prop} {im : Im} {loc : dN} {a : Act} {w : World} {i : Nat} {prims : FuncId -> Bool} {mops : Array Oper}
theorem VR.nul_inv {v:Value} (h:VR im loc .nul v):v=Go.undef:=by
 cases h;rfl
theorem CA {r:rT} {d:Option Nat} {st:St}:((XR.loc r).next d st).sto.length=st.sto.length+r.news.length:=by simp [XR.next,xA,gL]
theorem RJ {x:bX} {o:Oper} {e:zE} {b:Bool} (hc:BE mops x.guard o.guard=true) (hs: ∀s c,x.guard=some (s,c)->VR im loc (lk s e) (a.tmps.getD s Go.undef)) (h:wanted x.guard e=some b):
 Region.wanted o (yielded mops a.tmps)=b:=by
 unfold Region.wanted;cases hg:x.guard with
 |none=>
  rw [hg] at hc h;cases ho:o.guard with
  |none=>simp [wanted] at h;subst h;rfl
  |some q=>rw [ho] at hc;simp [BE] at hc
 |some q=>
  obtain ⟨s,c⟩:=q;rw [hg] at hc h;cases ho:o.guard with
  |none=>rw [ho] at hc;simp [BE] at hc
  |some q'=>
   obtain ⟨j,c'⟩:=q';rw [ho] at hc;simp only [BE,bn,beq_iff_eq] at hc;obtain ⟨rfl,hd⟩:=hc;have hv:=hs s c hg;dsimp only;unfold yielded;rw [hd];simp only [wanted] at h;simp only [Option.bind_some];split at h
   · rename_i b' hl
     rw [hl] at hv
     have:=hv.bool_inv
     have ht:a.tmps[s]? =some (.bool b'):=by
      simp only [cy] at this;cases hq:a.tmps[s]? with
      |none=>rw [hq] at this;simp [Go.undef] at this
      |some u=>rw [hq] at this;exact congrArg some this
     rw [ht];rw [bq] at h;rw [<- h];cases b'<;>cases c<;>rfl
   · rename_i hl
     rw [hl] at hv
     have:a.tmps.getD s Go.undef=Go.undef:=hv.nul_inv
     injection h with h;subst h;have ht: ∀b',a.tmps[s]?≠some (.bool b'):=by
      intro b' hq;simp only [cy,hq,Option.getD_some,Go.undef] at this;cases this
     split
     · rename_i b' hq
       exact absurd hq (ht b')
     rfl
   cases h
structure TL (P:Program) (F:qK) (rec:mI->Option zG):Prop where
 func:KK P rec
 prim:FO P F
theorem BZ.wpOp (hE:TL P F rec) (hr:EF F rec ops S X) (ho:IL ops S X bef) (hv:BZ ops S X im0 loc0 w0 nt done im loc a w) (hp:DQ ops bef done i) {x:bX} {o:Oper} (hx:ops[i]? =some x) (hmo:mops[i]? =some o)
 (hc:xD P prims nt mops x o=true) {Q:Exit->Act->World->Prop} {K:Act->World->Prop}
 (hK: ∀im' loc' a' w',BZ ops S X im0 loc0 w0 nt (B8 done i) im' loc' a' w'->K a' w'):Go.wpOp P mops Q i K a w:=by
 unfold xD at hc;simp only [bn,beq_iff_eq] at hc;obtain ⟨⟨⟨hdst,hnt⟩,hg⟩,hop⟩:=hc;have hd: ∀d,x.dst=some d->d<nt:=by
  intro d h;rw [h] at hnt;simpa using hnt
 have hslot: ∀t,t∈uses x->VR im loc (lk t (S i).env) (a.tmps.getD t Go.undef):=fun t ht=>hv.slot hr ho hp hx ht
 have hopd: ∀y∈x.op.opds,∀o',bK y o'=true->VR im loc (y.ev (S i).env) (a.eval o'):=by
  intro y hy o' hco;refine ZP y (fun t ht=>hslot t ?_) o' hco
  subst ht;exact ez _ (List.mem_filterMap.2 ⟨.t t,hy,rfl⟩)
 have hgs: ∀s c,x.guard=some (s,c)->VR im loc (lk s (S i).env) (a.tmps.getD s Go.undef):=by
  intro s c h;refine hslot s (eu _ ?_);rw [h];simp
 unfold Go.wpOp;simp only [hmo];rcases hr.steps i x hx with ⟨hw,xr,hev,hok,hX,hS⟩|⟨hw,hX,hS⟩
 · rw [RJ hg hgs hw]
   simp only [if_true];left;have loc_call: ∀{own:Bool} {f:FuncId} {args:List PV} {us:List Value} {r:rT},xr= .loc r->callPure F rec own f args (S i).sto (S i).fz=some r->VRL im loc args us->
    (execOp a.eval o).run P w=(callFunc f ⟨us⟩).run P w->o.wp P a w K Q:=by
    intro own f args us r hxr hcp hus hrun;subst hxr;have hk:=hv.known hr ho hp hX hok (by rw [hS];exact CA)
    refine KN hrun (TK hE.func hE.prim hcp hus hk) fun v' w' ⟨im',loc',hvr,heff⟩=>?_
    exact hK _ _ _ _ (hdst▸hv.step_loc hr ho hp hx hX hok hS hvr heff hd)
   have shr_call: ∀{f:FuncId} {args:List PV} {us:List Value},gY rec f args (S i).sto (S i).fz=some xr->VRL im loc args us->
    (execOp a.eval o).run P w=(callFunc f ⟨us⟩).run P w->o.wp P a w K Q:=by
    intro f args us hcs hus hrun;unfold gY at hcs;split at hcs
    · rename_i v s z hrec
      split at hcs
      · injection hcs with hcs;subst hcs
        refine KN hrun (hE.func f args _ _ v s z hrec im loc w us (hv.sr hr ho hp hX) hus) fun v' w' ⟨im',loc',hf⟩=>?_
        exact hK _ _ _ _ (hdst▸hv.step_shr hr ho hp hx hX hS hf hd)
      cases hcs
    cases hcs
   have loc_op: ∀{r:rT},xr= .loc r->bM (S i).env (S i).sto (S i).fz x.op=some r->o.wp P a w K Q:=by
    intro r hxr he;subst hxr;have hk:=hv.known hr ho hp hX hok (by rw [hS];exact CA)
    obtain ⟨nx,w',loc',hrun,hnx,heff⟩:=aDT hop hopd he hk;unfold Oper.wp;rw [hrun];rcases hnx with ⟨rfl,hu⟩|⟨v,rfl,hvr⟩
    · rw [Oper.upon_skip]
      exact hK _ _ _ _ (hdst▸hv.step_loc hr ho hp hx hX hok hS (by rw [hu];exact .undef _) heff hd)
    rw [Oper.upon_value]
    exact hK _ _ _ _ (hdst▸hv.step_loc hr ho hp hx hX hok hS hvr heff hd)
   cases hxo:x.op with
   |call m f args=>
    rw [hxo] at hev hop hopd;have hcall: ∃as ats,o.op= .call {callee:= .value (.func f),args:=as,argTypes:=ats}/\fS args as.toList=true:=by
     cases hoo:o.op with
     |call c=>
      obtain ⟨callee,as,ats⟩:=c;rw [hoo] at hop;cases callee with
      |value g=>
       cases g with
       |func g=>
        simp only [DN,bn,beq_iff_eq] at hop;obtain ⟨⟨rfl,_⟩,h⟩:=hop;exact ⟨as,ats,rfl,h⟩
       |_=>simp [DN] at hop
      |_=>simp [DN] at hop
     |_=>rw [hoo] at hop;simp [DN] at hop
    obtain ⟨as,ats,hoo,hco⟩:=hcall;have hrel:VRL im loc (ND (S i).env args) (as.toList.map a.eval):=qU (fun y hy=>hopd y (by simpa [nX.opds] using hy)) hco
    have hrun:(execOp a.eval o).run P w=(callFunc f ⟨as.toList.map a.eval⟩).run P w:=by
     have:(⟨as.toList.map a.eval⟩:Array Value)=as.map a.eval:=by apply ga;simp
     rw [this];simp [execOp,hoo,resolve,Act.eval,Deferred.ofValue,invoke]
    cases m with
    |pur=>
     simp only [DL,bz] at hev;obtain ⟨r,hr1,hr2⟩:=hev;exact loc_call hr2.symm hr1 hrel hrun
    |own=>
     simp only [DL,bz] at hev;obtain ⟨r,hr1,hr2⟩:=hev;exact loc_call hr2.symm hr1 hrel hrun
    |shr=>exact shr_call hev hrel hrun
    |fp=>
     simp only [DL,bz] at hev;obtain ⟨r,hr1,hr2⟩:=hev;subst hr2;have hk:=hv.known hr ho hp hX hok (by rw [hS];exact CA)
     refine KN hrun (ZN hE.func hr1 hrel hk) fun v' w' ⟨im',loc',hvr,heff⟩=>?_
     exact hK _ _ _ _ (hdst▸hv.step_loc hr ho hp hx hX hok hS hvr heff hd)
   |callv y args=>
    rw [hxo] at hev hop hopd;have hcall: ∃t as ats,o.op= .call {callee:= .value (.tmp t),args:=as,argTypes:=ats}/\bK y (.tmp t)=true/\fS args as.toList=true:=by
     cases hoo:o.op with
     |call c=>
      obtain ⟨callee,as,ats⟩:=c;rw [hoo] at hop;cases callee with
      |value g=>
       cases g with
       |tmp g=>
        simp only [DN,bn] at hop;exact ⟨g,as,ats,rfl,hop.1,hop.2⟩
       |_=>simp [DN] at hop
      |_=>simp [DN] at hop
     |_=>rw [hoo] at hop;simp [DN] at hop
    obtain ⟨t,as,ats,hoo,hcy,hco⟩:=hcall;have hrel:VRL im loc (ND (S i).env args) (as.toList.map a.eval):=qU (fun y hy=>hopd y (by simp [nX.opds,hy])) hco
    have hy:=hopd y (by simp [nX.opds]) (.tmp t) hcy
    simp only [DL] at hev;split at hev
    · rename_i f p q hyv
      rw [hyv] at hy;generalize hgv:a.eval (.tmp t)=gv at hy;cases hy with
      |clo _ _ _ us vs h1 h2=>
      have hargs:=(h1.append hrel).append h2;have hrun:(execOp a.eval o).run P w=(callFunc f ⟨us++as.toList.map a.eval++vs⟩).run P w:=by
       have:(⟨us++as.toList.map a.eval++vs⟩:Array Value)=(⟨us⟩++as.map a.eval)++⟨vs⟩:=by apply ga;simp
       rw [this];simp [execOp,hoo,resolve,hgv,Deferred.ofValue,invoke]
      split at hev
      · exact shr_call hev hargs hrun
      rw [bz] at hev
      obtain ⟨r,hr1,hr2⟩:=hev;exact loc_call hr2.symm hr1 hargs hrun
    cases hev
   |_=>
    rw [hxo] at hev;simp only [DL,bz] at hev;obtain ⟨r,hr1,hr2⟩:=hev;exact loc_op hr2.symm (by rw [hxo];exact hr1)
 rw [RJ hg hgs hw]
 simp only [cj,if_false];exact hK _ _ _ _ (hdst▸hv.step_skip hr ho hp hx hX hS hd)
end
end Go.Vm
/- A region, in the order of the text or in a drawn one. -/
namespace Go.Vm
def BF (P:Program) (prims:FuncId->Bool) (nt:Nat) (mops:Array Oper):List bX->List Oper->Bool
 | [],[]=>true
 |x::xs,o::os=>xD P prims nt mops x o&&BF P prims nt mops xs os
 |_,_=>false
theorem IX {P:Program} {prims:FuncId->Bool} {nt:Nat} {mops:Array Oper}: ∀{xs:List bX} {os:List Oper},BF P prims nt mops xs os=true->
 xs.length=os.length/\ ∀(i:Nat) (x:bX) (o:Oper),xs[i]? =some x->os[i]? =some o->xD P prims nt mops x o=true
 | [],[],_=>⟨rfl,fun i x o h=>by simp at h⟩
 |x::xs,o::os,h=>by
  simp only [BF,bn] at h;obtain ⟨h1,h2⟩:=IX h.2;refine ⟨by simp [h1],fun i y p hy hp=>?_⟩
  cases i with
  |zero=>simp at hy hp;subst hy hp;exact h.1
  |succ i=>exact h2 i y p (by simpa using hy) (by simpa using hp)
 | [],_::_,h=>by simp [BF] at h
 |_::_,[],h=>by simp [BF] at h
def bit (m i:Nat):Bool:=Nat.testBit m i
def qW (masks:List Nat) (j:Nat):List Edge->Option Nat
 | []=>some 0
 |e::es=>match qW masks j es with
  |some m=>if Region.binds .any e then (if dt e.on j then some (m|||((masks.getD e.on 0)|||(1<<<e.on))) else none) else some m
  |none=>none
def BG (masks:List Nat):Nat->List Nat->List Oper->Bool
 |_,[],[]=>true
 |j,m::ms,o::os=>(match qW masks j o.after.toList with|some m'=>m==m'|none=>false)&&BG masks (j+1) ms os
 |_,_,_=>false
def BH (i : Nat) (x : bX) (ux : List Nat) : List bX -> List Nat -> Bool
  | [], _ => true
  | y :: ys, m :: ms => (bit m i || ((match x.dst with
      | some d => !has (uses y) d && (match y.dst with | some d' => !(bu d d') | none => true)
      | none => true) && (match y.dst with | some d => !has ux d | none => true))) && BH i x ux ys ms
  | _ :: _, [] => false
def BI:Nat->List bX->List Nat->Bool
 |_,[],_=>true
 |i,x::xs,_::ms=>BH i x (uses x) xs ms&&BI (i+1) xs ms
 |_,_::_,[]=>false
def KO (P:Program) (prims:FuncId->Bool) (nt:Nat) (draw:Option (List Nat)) (xops:List bX) (mops:Array Oper) (flag:Bool):Bool:=
 BF P prims nt mops xops mops.toList&&match draw with
 |none=>!flag
 |some bf=>flag&&bu bf.length xops.length&&BG bf 0 bf mops.toList&&BI 0 xops bf
section
variable {P : Program} {F : qK} {rec : mI -> Option zG} {ops : List bX} {S : Nat -> St} {X : Nat -> Option XR} {bef : Nat -> Nat -> Prop} {im0 : Im} {loc0 : dN} {w0 : World} {nt : Nat}
  {done : Nat -> Prop} {im : Im} {loc : dN} {a : Act} {w : World} {i : Nat} {prims : FuncId -> Bool} {mops : Array Oper}
theorem IL.text:IL ops S X (· < ·) where
 slot1:=fun _ _ _ _ _ h _ _ _ _=>h
 slot2:=fun _ _ _ _ _ h _ _ _ _=>h
 tok1:=fun _ _ _ h _ _ _=>h
 tok2:=fun _ _ _ h _ _ _=>h
 tok3:=fun _ _ _ h _ _ _ _ _ _=>h
 bar:=fun _ _ h _ _=>h
 cl:=fun _ _ _ _ _=> .inr fun _ h _=>h
theorem NY (hE:TL P F rec) (hr:EF F rec ops S X) (hc: ∀(i:Nat) (x:bX) (o:Oper),ops[i]? =some x->mops[i]? =some o->xD P prims nt mops x o=true) (hlen:ops.length=mops.size)
 {Q:Exit->Act->World->Prop} (hQ: ∀im loc a w,BZ ops S X im0 loc0 w0 nt (fun i=>i<ops.length) im loc a w->Q .normal a w):
 ∀(d n:Nat) (im:Im) (loc:dN) (a:Act) (w:World),n+d=ops.length->BZ ops S X im0 loc0 w0 nt (fun i=>i<n) im loc a w->wpOps P mops Q (List.range' n d) a w
 |0,n,im,loc,a,w,hn,hv=>by
  have:n=ops.length:=by omega
  subst this;exact hQ im loc a w hv
 |d+1,n,im,loc,a,w,hn,hv=>by
  rw [List.range'_succ,wpOps_cons];have hx:=bo (show n<ops.length by omega)
  have ho:=d8 (show n<mops.size by omega)
  refine BZ.wpOp hE hr IL.text hv {lt:=by omega,nd:=by omega,pre:=fun j _ h=>h,clo:=fun k _ h1 j _ h2=>by omega} hx ho (hc n _ _ hx ho) fun im' loc' a' w' h'=>?_
  refine NY hE hr hc hlen hQ d (n+1) im' loc' a' w' (by omega) ?_
  have e:B8 (fun i=>i<n) n=fun i=>i<n+1:=by
   funext j;unfold B8;apply propext;omega
  rw [e] at h';exact h'
def Bef (masks:List Nat) (i j:Nat):Prop:=bit (masks.getD j 0) i=true
theorem CB {masks:List Nat} {j:Nat}: ∀{es:List Edge} {m:Nat},qW masks j es=some m->(∀e∈es,Region.binds .any e=true->e.on<j)/\
 ∀i,bit m i=true-> ∃e∈es,Region.binds .any e=true/\(e.on=i\/bit (masks.getD e.on 0) i=true)
 | [],m,h=>by
  simp only [qW,bq] at h;subst h;exact ⟨fun e h=>(by cases h),fun i h=>by simp [bit] at h⟩
 |e::es,m,h=>by
  simp only [qW] at h;split at h
  · rename_i m' hm'
    obtain ⟨h1,h2⟩:=CB hm';split at h
    · rename_i hb
      split at h
      · rename_i hlt
        injection h with h;subst h;refine ⟨fun e' he' hb'=>?_,fun i hi=>?_⟩
        · rcases dp.1 he' with rfl|he'
          · simpa using hlt
          exact h1 e' he' hb'
        simp only [bit,Nat.testBit_or,ek] at hi
        rcases hi with hi|hi|hi
        · obtain ⟨e',he',h3⟩:=h2 i hi
          exact ⟨e',dv _ he',h3⟩
        · exact ⟨e,by simp,hb,.inr hi⟩
        refine ⟨e,by simp,hb,.inl ?_⟩
        rw [Nat.one_shiftLeft,Nat.testBit_two_pow] at hi;simpa using hi
      cases h
    rename_i hb
    injection h with h;subst h;refine ⟨fun e' he' hb'=>?_,fun i hi=>?_⟩
    · rcases dp.1 he' with rfl|he'
      · exact absurd hb' hb
      exact h1 e' he' hb'
    obtain ⟨e',he',h3⟩:=h2 i hi
    exact ⟨e',dv _ he',h3⟩
  cases h
theorem LX {masks:List Nat}: ∀{j:Nat} {ms:List Nat} {os:List Oper},BG masks j ms os=true->ms.length=os.length/\
 ∀(k:Nat) (m:Nat) (o:Oper),ms[k]? =some m->os[k]? =some o->qW masks (j+k) o.after.toList=some m
 |j,[],[],_=>⟨rfl,fun k m o h=>by simp at h⟩
 |j,m::ms,o::os,h=>by
  simp only [BG,bn] at h;obtain ⟨h1,h2⟩:=h;obtain ⟨h3,h4⟩:=LX h2;refine ⟨by simp [h3],fun k m' o' hm ho=>?_⟩
  cases k with
  |zero=>
   simp at hm ho;subst hm ho;split at h1
   · rename_i m2 hm2
     have:m=m2:=by simpa using h1
     subst this;exact hm2
   cases h1
  |succ k=>
   have:=h4 k m' o' (by simpa using hm) (by simpa using ho)
   rw [show j+(k+1)=j+1+k by omega];exact this
 |j,[],_::_,h=>by simp [BG] at h
 |j,_::_,[],h=>by simp [BG] at h
theorem IY {i:Nat} {x:bX} {ux:List Nat}: ∀{ys:List bX} {ms:List Nat},BH i x ux ys ms=true-> ∀(k:Nat) (y:bX),ys[k]? =some y->
 bit (ms.getD k 0) i=true\/((∀d,x.dst=some d->d∉uses y/\y.dst≠some d)/\ ∀d,y.dst=some d->d∉ux)
 | [],_,_,k,y,h=>by simp at h
 |z::ys,[],h,k,y,hy=>by simp [BH] at h
 |z::ys,m::ms,h,k,y,hy=>by
  simp only [BH,bn,ek] at h;obtain ⟨h1,h2⟩:=h;cases k with
  |succ k=>simpa using IY h2 k y (by simpa using hy)
  |zero=>
   simp at hy;subst hy;rcases h1 with h1|⟨h1,h3⟩
   · exact .inl (by simpa using h1)
   refine .inr ⟨fun d hd=>?_,fun d hd=>?_⟩
   · rw [hd] at h1
     simp only [bn,ck] at h1;refine ⟨lU.1 h1.1,fun hz=>?_⟩
     rw [hz] at h1;simp at h1
   rw [hd] at h3
   simp only [ck] at h3;exact lU.1 h3
theorem EG: ∀{i0:Nat} {xs:List bX} {ms:List Nat},BI i0 xs ms=true-> ∀(i j:Nat) (x y:bX),i<j->xs[i]? =some x->xs[j]? =some y->
 bit (ms.getD j 0) (i0+i)=true\/((∀d,x.dst=some d->d∉uses y/\y.dst≠some d)/\ ∀d,y.dst=some d->d∉uses x)
 |i0,[],_,_,i,j,x,y,_,hx,_=>by simp at hx
 |i0,z::xs,[],h,i,j,x,y,_,hx,_=>by simp [BI] at h
 |i0,z::xs,m::ms,h,i,j,x,y,hij,hx,hy=>by
  simp only [BI,bn] at h;obtain ⟨h1,h2⟩:=h;cases j with
  |zero=>omega
  |succ j=>
   cases i with
   |zero=>
    simp at hx;subst hx;simpa using IY h1 j y (by simpa using hy)
   |succ i=>
    have:=EG h2 i j x y (by omega) (by simpa using hx) (by simpa using hy)
    rw [show i0+(i+1)=i0+1+i by omega]
    simpa using this
theorem RK {i:Nat} {t:Tr}: ∀{l:List (Tr×Nat)},TA i t l=true-> ∀(k:Nat) (b:Tr) (m:Nat),l[k]? =some (b,m)->t.clash b=true->bit m i=true
 | [],_,k,b,m,h,_=>by simp at h
 |(b',m')::r,h,k,b,m,hk,hc=>by
  simp only [TA,bn,ek,ck] at h;cases k with
  |zero=>
   simp at hk;obtain ⟨rfl,rfl⟩:=hk;rcases h.1 with h1|h1
   · rw [hc] at h1;cases h1
   exact h1
  |succ k=>exact RK h.2 k b m (by simpa using hk) hc
theorem NZ: ∀{i0:Nat} {l:List (Tr×Nat)},xB i0 l=true->(∀(i:Nat) (t:Tr) (m:Nat),l[i]? =some (t,m)->t.cl=true)/\
 ∀(i j:Nat) (t b:Tr) (m m':Nat),i<j->l[i]? =some (t,m)->l[j]? =some (b,m')->t.clash b=true->bit m' (i0+i)=true
 |_,[],_=>⟨fun i t m h=>by simp at h,fun i j t b m m' _ h=>by simp at h⟩
 |i0,(t0,m0)::r,h=>by
  simp only [xB,bn] at h;obtain ⟨⟨h1,h2⟩,h3⟩:=h;obtain ⟨h4,h5⟩:=NZ h3;refine ⟨fun i t m hi=>?_,fun i j t b m m' hij hi hj hc=>?_⟩
  · cases i with
    |zero=>simp at hi;obtain ⟨rfl,rfl⟩:=hi;exact h1
    |succ i=>exact h4 i t m (by simpa using hi)
  cases j with
  |zero=>omega
  |succ j=>
   cases i with
   |zero=>
    simp at hi;obtain ⟨rfl,rfl⟩:=hi;exact RK h2 j b m' (by simpa using hj) hc
   |succ i=>
    rw [show i0+(i+1)=i0+1+i by omega]
    exact h5 i j t b m m' (by omega) (by simpa using hi) (by simpa using hj) hc
theorem N0 {l m:List Nat} {t:Nat} (h1:t∈l) (h2:t∈m):meets l m=true:=by
 unfold meets;rw [fw];exact ⟨t,h1,uH.2 h2⟩
theorem IL.drawn (hr : EF F rec ops S X) {masks : List Nat} (hml : masks.length = ops.length) (hs : BI 0 ops masks = true) (ho : xB 0 ((GM S X ops.length).zip masks) = true) : IL ops S X (Bef masks) := by
  obtain ⟨hcl, hcz⟩ := NZ ho
  have hget : ∀ i, i < ops.length -> ((GM S X ops.length).zip masks)[i]? = some (GH (X i) (S i), masks.getD i 0) := by
    intro i hi
    rw [List.getElem?_zip_eq_some]
    refine ⟨?_, ?_⟩
    · unfold GM; simp [hi]
    rw [d6, bo (by omega)]; rfl
  have clash : ∀ i j, i < j -> j < ops.length -> (GH (X i) (S i)).clash (GH (X j) (S j)) = true -> Bef masks i j := by
    intro i j hij hj hc
    have := hcz i j _ _ _ _ hij (hget i (by omega)) (hget j hj) hc
    unfold Bef; simpa using this
  have tch : ∀ j, touches X j -> (GH (X j) (S j)).touches = true := by
    intro j h
    unfold touches at h
    unfold GH
    cases hX : X j with
    | none => rw [hX] at h; exact h.elim
    | some x =>
      rw [hX] at h
      cases x with
      | shr v s z => rfl
      | loc r =>
        simp only [XR.tr, Tr.touches, Bool.or_false]
        rcases h with h | h | h | h
        · cases hrd : r.rd with
          | nil => exact absurd hrd h
          | cons _ _ => simp
        · cases hrd : r.fr with
          | nil => exact absurd hrd h
          | cons _ _ => simp
        · cases hrd : r.wr with
          | nil => exact absurd hrd h
          | cons _ _ => simp
        cases hrd : r.news with
        | nil => exact absurd hrd h
        | cons _ _ => simp
  have brr : ∀ j, wW X j -> (GH (X j) (S j)).bar = true := by
    rintro j ⟨v, s, z, h⟩; rw [h]; rfl
  have tW : ∀ j t, W X j t -> touches X j := fun j t h => B9 h
  have tA : ∀ j t, A X j t -> touches X j := by
    intro j t h
    unfold A at h; unfold touches
    cases hX : X j with
    | none => rw [hX] at h; exact h.elim
    | some x =>
      rw [hX] at h
      cases x with
      | shr v s z => exact h.elim
      | loc r =>
        rcases h with h | h
        · exact .inl (by intro e; rw [e] at h; cases h)
        exact .inr (.inl (by intro e; rw [e] at h; cases h))
  have bar : ∀ i j, i < j -> j < ops.length -> (wW X i /\ touches X j \/ touches X i /\ wW X j) -> Bef masks i j := by
    intro i j hij hj h
    refine clash i j hij hj ?_
    unfold Tr.clash
    rcases h with ⟨h1, h2⟩ | ⟨h1, h2⟩
    · rw [brr i h1, tch j h2]; simp
    rw [brr j h2, tch i h1]; simp
  have wrT : ∀ j t, W X j t -> ¬ wW X j -> t ∈ (GH (X j) (S j)).wr := by
    intro j t h hn
    unfold W at h
    cases hX : X j with
    | none => rw [hX] at h; exact h.elim
    | some x =>
      rw [hX] at h
      cases x with
      | shr v s z => exact absurd ⟨v, s, z, hX⟩ hn
      | loc r =>
        obtain ⟨k, hk⟩ := h
        exact List.mem_map.2 ⟨(t, k), hk, rfl⟩
  have rdT : ∀ j t, A X j t -> t ∈ (GH (X j) (S j)).rd := by
    intro j t h
    unfold A at h
    cases hX : X j with
    | none => rw [hX] at h; exact h.elim
    | some x =>
      rw [hX] at h
      cases x with
      | shr v s z => exact h.elim
      | loc r => exact cu.2 h
  exact {
    slot1 := fun i j t x y hij hx hy hd hu => by
      rcases EG hs i j x y hij hx hy with h | ⟨h, _⟩
      · unfold Bef; simpa using h
      rcases hu with hu | hu
      · exact absurd hu (h t hd).1
      exact absurd hu (h t hd).2
    slot2 := fun i j t x y hij hx hy hd hu => by
      rcases EG hs i j x y hij hx hy with h | ⟨_, h⟩
      · unfold Bef; simpa using h
      exact absurd hu (h t hd)
    tok1 := fun i j t hij hj hW hAW => by
      by_cases hi : wW X i
      · exact bar i j hij hj (.inl ⟨hi, hAW.elim (tA j t) (tW j t)⟩)
      by_cases hsj : wW X j
      · exact bar i j hij hj (.inr ⟨tW i t hW, hsj⟩)
      refine clash i j hij hj ?_
      unfold Tr.clash
      rcases hAW with h | h
      · rw [N0 (wrT i t hW hi) (rdT j t h)]; simp
      rw [N0 (wrT i t hW hi) (wrT j t h hsj)]; simp
    tok2 := fun i j t hij hj hA hW => by
      by_cases hsj : wW X j
      · exact bar i j hij hj (.inr ⟨tA i t hA, hsj⟩)
      refine clash i j hij hj ?_
      unfold Tr.clash
      rw [N0 (rdT i t hA) (wrT j t hW hsj)]; simp
    tok3 := fun i j t hij hj hsi h1 h2 hsj hW => by
      refine clash i j hij hj ?_
      unfold Tr.clash
      have : ((GH (X j) (S j)).wr.any fun t => cz (GH (X i) (S i)).lo t && dt t (GH (X i) (S i)).hi) = true := by
        rw [fw]
        refine ⟨t, wrT j t hW hsj, ?_⟩
        rcases hr.steps i _ (bo (show i < ops.length by omega)) with ⟨_, x, hx, _, hX, hn⟩ | ⟨_, hX, hn⟩
        · cases x with
          | shr v s z => exact absurd ⟨v, s, z, hX⟩ hsi
          | loc r =>
            rw [hn, CA] at h2
            rw [hX]
            simp only [GH, XR.tr, bn, dm]
            exact ⟨h1, by simpa using h2⟩
        rw [hn] at h2; dsimp only at h2; omega
      rw [this]; simp
    bar := bar
    cl := fun i t hi hsi hAW => by
      left
      have hc := hcl i _ _ (hget i hi)
      cases hX : X i with
      | none => rcases hAW with h | h
                · unfold A at h; rw [hX] at h; exact h.elim
                unfold W at h; rw [hX] at h; exact h.elim
      | some x =>
        cases x with
        | shr v s z => exact absurd ⟨v, s, z, hX⟩ hsi
        | loc r =>
          have hb : ∀ u v : Nat, dt u v = true -> u < v := fun u v h => by simpa using h
          rw [hX] at hc
          simp only [GH, XR.tr, bn, c6] at hc
          rcases hAW with h | h
          · unfold A at h; rw [hX] at h
            exact hb _ _ (hc.1 t (cu.2 h))
          unfold W at h; rw [hX] at h
          obtain ⟨k, hk⟩ := h
          exact hb _ _ (hc.2 (t, k) hk) }
end
end Go.Vm
/- A region: the theorem. -/
namespace Go.Vm
section
variable {P : Program} {F : qK} {rec : mI -> Option zG} {ops : List bX} {S : Nat -> St} {X : Nat -> Option XR} {im0 : Im} {loc0 : dN} {w0 : World} {nt : Nat}
  {im : Im} {loc : dN} {a : Act} {w : World} {i : Nat} {prims : FuncId -> Bool} {mops : Array Oper} {masks : List Nat}
def mU (l:Array Bool) (i:Nat):Prop:=l.getD i false=true
theorem V5 (hE:TL P F rec) (hr:EF F rec ops S X) (ho:IL ops S X (Bef masks)) (hc: ∀(i:Nat) (x:bX) (o:Oper),ops[i]? =some x->mops[i]? =some o->xD P prims nt mops x o=true) (hlen:ops.length=mops.size)
 (hm: ∀(k:Nat) (o:Oper),mops[k]? =some o->qW masks k o.after.toList=some (masks.getD k 0))
 {Q:Exit->Act->World->Prop} (hQ: ∀im loc a w (done:Nat->Prop),(∀i,i<ops.length->done i)->BZ ops S X im0 loc0 w0 nt done im loc a w->Q .normal a w):
 ∀(fuel:Nat) (l:Array Bool) (im:Im) (loc:dN) (a:Act) (w:World),l.size=ops.length->fuel+l.toList.count true=ops.length->(∀k j,mU l k->Bef masks j k->mU l j)->
  BZ ops S X im0 loc0 w0 nt (mU l) im loc a w->wpAny P .any mops Q fuel l a w:=by
 have full: ∀l:Array Bool,l.size=ops.length->Region.ready .any mops l=[]-> ∀i,i<ops.length->mU l i:=by
  intro l hl hnil i
  induction i using Nat.strongRecOn with
  |_ i ih=>
   intro hi
   by_cases h:mU l i
   · exact h
   exfalso
   have hmem:i∈Region.ready .any mops l:=by
    rw [mem_ready];have ho:=d8 (show i<mops.size by omega)
    refine ⟨?_,_,ho,fun e he hb=>?_⟩
    · unfold mU at h
      have hlt:i<l.size:=by omega
      simp [hlt] at h ⊢;exact h
    have:=(CB (hm i _ ho)).1 e (by simpa using he) hb
    exact ih e.on this (by omega)
   rw [hnil] at hmem;cases hmem
 intro fuel
 induction fuel with
 |zero=>
  intro l im loc a w hl hcnt hclo hv;have hall: ∀b∈l.toList,true=b:=by
   have:l.toList.count true=l.toList.length:=by simp only [Array.length_toList];omega
   exact List.count_eq_length.1 this
  have hfull: ∀i,i<ops.length->mU l i:=by
   intro i hi;have hlt:i<l.size:=by omega
   have:=hall (l[i]) (by simp)
   unfold mU;simp [hlt,<- this]
  refine ⟨?_,hQ im loc a w _ hfull hv⟩;cases hrd:Region.ready .any mops l with
  |nil=>rfl
  |cons x xs=>
   exfalso;have hmem:x∈Region.ready .any mops l:=by rw [hrd];simp
   obtain ⟨h0,o,hox,_⟩:=mem_ready.1 hmem;have hlt:=(ci.1 hox).1
   have:=hfull x (by omega)
   unfold mU at this;have hlt':x<l.size:=by omega
   simp [hlt'] at this h0;rw [this] at h0;cases h0
 |succ fuel ih=>
  intro l im loc a w hl hcnt hclo hv;refine ⟨fun hnil=>hQ im loc a w _ (full l hl hnil) hv,fun i hi=>?_⟩
  obtain ⟨h0,o,hox,hall⟩:=mem_ready.1 hi;have hlt:=(ci.1 hox).1;have hlt':i<l.size:=by omega
  have hx:=bo (show i<ops.length by omega)
  have hpre: ∀j,Bef masks j i->mU l j:=by
   intro j hj;obtain ⟨e,he,hb,h⟩:=(CB (hm i o hox)).2 j hj;have hle:mU l e.on:=hall e (by simpa using he) hb
   rcases h with rfl|h
   · exact hle
   exact hclo _ _ hle h
  have hnd: ¬mU l i:=by
   unfold mU;simp [hlt'] at h0 ⊢;exact h0
  refine BZ.wpOp hE hr ho hv {lt:=by omega,nd:=hnd,pre:=fun j _ h=>hpre j h,clo:=fun k _ h1 j _ h2=>hclo k j h1 h2} hx hox (hc i _ _ hx hox) fun im' loc' a' w' h'=>?_
  have e:B8 (mU l) i=mU (l.setIfInBounds i true):=by
   funext j
   apply propext;unfold B8 mU
   by_cases hij:i=j
   · subst hij;simp [hlt']
   simp only [getD_set_ne false hij]
   exact ⟨fun h=>h.elim id fun h=>absurd h.symm hij,.inl⟩
  rw [e] at h';refine ih _ im' loc' a' w' (by simpa using hl) ?_ ?_ h'
  · rw [Array.toList_setIfInBounds,List.count_set (by simpa using hlt')]
    have:l.toList[i]=false:=by simp [hlt'] at h0;simpa using h0
    rw [this];simp only [Array.count_toList] at hcnt ⊢;simp;omega
  intro k j hk hj
  rw [<- e] at hk ⊢;rcases hk with hk|rfl
  · exact .inl (hclo k j hk hj)
  exact .inl (hpre j hj)
theorem ER.keep {st:zE} {keep:List Nat} (h:ER im loc st a.tmps):ER im loc (keep.map fun s=>(s,lk s st)) a.tmps:=by
 intro t
 have:lk t (keep.map fun s=>(s,lk s st))=lk t st\/lk t (keep.map fun s=>(s,lk s st))= .undef:=by
  induction keep with
  |nil=>exact .inr rfl
  |cons s r ih=>
   simp only [List.map_cons,xC];split
   · rename_i e;subst e;exact .inl rfl
   exact ih
 rcases this with h'|h'
 · rw [h'];exact h t
 rw [h'];exact .undef _
structure DR (im:Im) (loc:dN) (nt:Nat) (st:St) (a:Act):Prop where
 env:ER im loc st.env a.tmps
 defers:a.defers=[]
 nts:a.tmps.size=nt
theorem QV.world {sto0 : cV} {st : St} {w1 : World} (h : QV im0 loc0 sto0 w1 st im loc w) (hh : w1.heap = w0.heap) (ho : w1.os = w0.os) (ht : w1.tape = w0.tape) (hp : w1.output = w0.output) : QV im0 loc0 sto0 w0 st im loc w :=
  { sr := h.sr, imle := h.imle, locle := h.locle, os := h.os.trans ho, tape := h.tape.trans ht, output := h.output.trans hp, size := by have := h.size; rw [hh] at this; exact this
    frame := by have := h.frame; rw [hh] at this; exact this
    imnew := by have := h.imnew; rw [hh] at this; exact this
    locs := h.locs
    own := by have := h.own; rw [hh] at this; exact this }
theorem SR.world {sto:cV} {fz:List Nat} {w1:World} (h:SR im loc sto fz w) (hh:w1.heap=w.heap):SR im loc sto fz w1 where
 im_ok:=by rw [hh];exact h.im_ok
 blk:=fun t li hl=>let ⟨k,h1,h2⟩:=h.blk t li hl;⟨k,h1,h2.mono (.refl _) (.refl _) (by rw [hh])⟩
 excl:=h.excl
 free:=h.free
theorem ZQ (hE:TL P F rec) (hmix:P.follows .mixedOrders=true) {draw:Option (List Nat)} {keep:List Nat} {id:Nat} {flag:Bool} {st st':St}
 (hc:KO P prims nt draw ops mops flag=true) (hev:oE F rec draw ops keep st=some st') (hsr:SR im0 loc0 st.sto st.fz w0) (ha:DR im0 loc0 nt st a) {Q:Exit->Act->World->Prop}
 (hQ: ∀im loc a' w',QV im0 loc0 st.sto w0 st' im loc w'->DR im loc nt st' a'->Q .normal a' w'):(Code.region id mops flag).wp P Q a w0:=by
 unfold KO at hc;simp only [bn] at hc;obtain ⟨hops,hd⟩:=hc;obtain ⟨hlen,hchk⟩:=IX hops;have hlen:ops.length=mops.size:=by simpa using hlen
 have hchk: ∀(i:Nat) (x:bX) (o:Oper),ops[i]? =some x->mops[i]? =some o->xD P prims nt mops x o=true:=fun i x o hx ho=>hchk i x o hx (by simpa using ho)
 unfold oE at hev;cases he:pN F rec ops st [] with
 |none=>rw [he] at hev;cases hev
 |some q=>
  obtain ⟨st1,tr⟩:=q;rw [he] at hev;dsimp only at hev;obtain ⟨S,X,h0,hn,hr,htr⟩:=KM ops st [] st1 tr he;have fin: ∀(w1:World),w1.heap=w0.heap->w1.os=w0.os->w1.tape=w0.tape->w1.output=w0.output->st'={st1 with env:=keep.map fun s=>(s,lk s st1.env)}-> ∀im loc a' w' (done:Nat->Prop),(∀i,i<ops.length->done i)->
   BZ ops S X im0 loc0 w1 nt done im loc a' w'->Q .normal a' w':=by
   intro w1 q1 q2 q3 q4 hst im loc a' w' done hdn hv;obtain ⟨hk,her,hdf,hns⟩:=hv.finish hr hdn;rw [hn] at hk her;rw [h0] at hk;subst hst;have hk:=hk.world q1 q2 q3 q4;exact hQ im loc a' w' {sr:=hk.sr,imle:=hk.imle,locle:=hk.locle,os:=hk.os,tape:=hk.tape,output:=hk.output,size:=hk.size,frame:=hk.frame,imnew:=hk.imnew,locs:=hk.locs,own:=hk.own} ⟨her.keep,hdf,hns⟩
  cases draw with
  |none=>
   dsimp only at hd hev
   have:flag=false:=by simpa using hd
   subst this;injection hev with hev;refine wp_region ?_;rw [List.range_eq_range'];refine NY hE hr hchk hlen (fun im loc a w hv=>fin w0 rfl rfl rfl rfl hev.symm im loc a w _ (fun i h=>h) hv) mops.size 0 im0 loc0 a w0 (by omega) ?_
   have:=BZ.start (ops:=ops) (X:=X) (w0:=w0) h0 hsr ha.env ha.defers ha.nts hr
   have e:(fun _:Nat=>False)=fun i=>i<0:=by funext i;apply propext;exact ⟨fun h=>h.elim,fun h=>by omega⟩
   rw [e] at this;exact this
  |some bf=>
   dsimp only at hd hev;simp only [bn] at hd;obtain ⟨⟨⟨rfl,hbl⟩,hmk⟩,hsl⟩:=hd;have hbl:bf.length=ops.length:=by simpa using hbl
   split at hev
   · rename_i hoo
     injection hev with hev;have htr':tr.reverse=GM S X ops.length:=by rw [htr];simp
     rw [htr'] at hoo;obtain ⟨_,hmk⟩:=LX hmk;refine wp_region_any hmix ?_;refine V5 (w0:={w0 with drawn:=w0.drawn+1}) (im0:=im0) (loc0:=loc0) hE hr (IL.drawn hr hbl hsl hoo) hchk hlen ?_ (fun im loc a w done hdn hv=>fin {w0 with drawn:=w0.drawn+1} rfl rfl rfl rfl hev.symm im loc a w done hdn hv) mops.size _ im0 loc0 a _ (by simp [hlen]) ?_ ?_ ?_
     · intro k o ho
       have hlt:=(ci.1 ho).1;have hk:bf[k]? =some (bf.getD k 0):=by
        rw [d6,bo (by omega)];rfl
       simpa using hmk k _ o hk (by simpa using ho)
     · simp [hlen,List.count_replicate]
     · intro k j h
       unfold mU at h
       by_cases hk:k<mops.size<;>simp [hk] at h
     have:=BZ.start (ops:=ops) (X:=X) (w0:={w0 with drawn:=w0.drawn+1}) h0 (hsr.world rfl) ha.env ha.defers ha.nts hr
     have e:(fun _:Nat=>False)=mU (df mops.size false):=by
      funext i;apply propext
      unfold mU
      by_cases hk:i<mops.size<;>simp [hk]
     rw [e] at this;exact this
   cases hev
end
end Go.Vm
/- What a function keeps from its beginning on; the head of a loop. -/
namespace Go.Vm
theorem QV.trans {im0 im1 im2:Im} {loc0 loc1 loc2:dN} {sto0:cV} {w0 w1 w2:World} {st1 st2:St} (h1:QV im0 loc0 sto0 w0 st1 im1 loc1 w1) (h2:QV im1 loc1 st1.sto w1 st2 im2 loc2 w2) (hl:sto0.length<=st1.sto.length):
 QV im0 loc0 sto0 w0 st2 im2 loc2 w2 where
 sr:=h2.sr
 imle:=h1.imle.trans h2.imle
 locle:=h1.locle.trans h2.locle
 os:=h2.os.trans h1.os
 tape:=h2.tape.trans h1.tape
 output:=h2.output.trans h1.output
 size:=cq h1.size h2.size
 frame:=fun b hb hh=>by
  rw [h2.frame b (dh hb h1.size) fun t li k hl hs hsol hbb=>?_]
  · exact h1.frame b hb hh
  rcases h1.own t li k hl hs hsol with h|⟨u,lu,ku,g1,g2,g3,g4⟩
  · omega
  exact hh u lu ku g1 g2 g3 (by omega)
 imnew:=fun b o hb=>by
  rcases h2.imnew b o hb with h|h|⟨t,li,k,g1,g2,g3,g4⟩
  · exact h1.imnew b o h
  · exact .inr (.inl (cq h1.size h))
  rcases h1.own t li k g1 g2 g3 with h|⟨u,lu,ku,k1,k2,k3,k4⟩
  · exact .inr (.inl (by omega))
  exact .inr (.inr ⟨u,lu,ku,k1,k2,k3,by omega⟩)
 locs:=fun t li h=>by
  rcases h2.locs t li h with h|h
  · exact h1.locs t li h
  exact .inr (cq hl h)
 own:=fun t li k hl hs hsol=>by
  rcases h2.own t li k hl hs hsol with h|⟨u,lu,ku,g1,g2,g3,g4⟩
  · exact .inl (cq h1.size h)
  rcases h1.own u lu ku g1 g2 g3 with h|⟨u',lu',ku',k1,k2,k3,k4⟩
  · exact .inl (by omega)
  exact .inr ⟨u',lu',ku',k1,k2,k3,by omega⟩
structure GN (im0:Im) (loc0:dN) (sto0:cV) (w0:World) (st:St) (im:Im) (loc:dN) (w:World):Prop where
 kept:QV im0 loc0 sto0 w0 st im loc w
 kn:st.kn=sto0.length
 len:sto0.length<=st.sto.length
 dom: ∀t li,loc0 t=some li->t<sto0.length
theorem N1 {F:qK} {rec:mI->Option zG}: ∀(ops:List bX) (st:St) (tr:List Tr) (st':St) (tr':List Tr),pN F rec ops st tr=some (st',tr')->st'.kn=st.kn
 | [],st,tr,st',tr',h=>by simp only [pN,bq,ce] at h;rw [h.1]
 |o::l,st,tr,st',tr',h=>by
  simp only [pN] at h;split at h
  · split at h
    · rename_i x hx
      split at h
      · have:=N1 l _ _ st' tr' h
        rw [this];cases x<;>rfl
      cases h
    cases h
  · have:=N1 l _ _ st' tr' h
    exact this
  cases h
theorem TM {F:qK} {rec:mI->Option zG} {draw:Option (List Nat)} {ops:List bX} {keep:List Nat} {st st':St} (h:oE F rec draw ops keep st=some st'):st'.kn=st.kn/\st.sto.length<=st'.sto.length:=by
 unfold oE at h;cases he:pN F rec ops st [] with
 |none=>rw [he] at h;cases h
 |some q=>
  obtain ⟨st1,tr⟩:=q;rw [he] at h;dsimp only at h;obtain ⟨S,X,h0,hn,hr,_⟩:=KM ops st [] st1 tr he;have h1:=N1 ops st [] st1 tr he;have h2:=hr.len_mono (c7 ops.length) (cd _);rw [h0,hn] at h2;cases draw with
  |none=>dsimp only at h;injection h with h;subst h;exact ⟨h1,h2⟩
  |some bf=>
   dsimp only at h;split at h
   · injection h with h;subst h;exact ⟨h1,h2⟩
   cases h
section
variable {im : Im} {loc loc1 : dN} {m : List Nat}
theorem V6 {fz:List Nat}: ∀{l:List Nat} {i0 u t:Nat},l[u]? =some t->(i0+u)∉D5 fz i0 l->t∉fz
 | [],i0,u,t,h,_=>by simp at h
 |s::r,i0,u,t,h,hn=>by
  simp only [D5] at hn;cases u with
  |zero=>
   simp at h;subst h;intro hf;rw [if_pos (uH.2 hf)] at hn;exact hn (by simp)
  |succ u=>
   refine V6 (l:=r) (i0:=i0+1) (u:=u) (by simpa using h) fun hmem=>?_
   rw [show i0+(u+1)=i0+1+u by omega] at hn
   split at hn
   · exact hn (dv _ hmem)
   exact hn hmem
theorem N2 {sto:cV}: ∀{n:Nat} {ts seen:List Nat} {m:List Nat},IM sto n ts seen=some m->(∃l,m=seen++l)/\(seen.Nodup->m.Nodup)
 |_,[],seen,m,h=>by
  have h:some seen=some m:=by rw [<- h];unfold IM;cases ‹Nat› <;>rfl
  injection h with h;subst h;exact ⟨⟨[],by simp⟩,id⟩
 |0,_::_,seen,m,h=>by simp [IM] at h
 |n+1,t::ts,seen,m,h=>by
  simp only [IM] at h;split at h
  · exact N2 h
  rename_i hn
  split at h
  · obtain ⟨⟨l,hl⟩,h2⟩:=N2 h
    refine ⟨⟨t::l,by rw [hl];simp⟩,fun hd=>h2 ?_⟩
    rw [ft];refine ⟨hd,by simp,fun a ha b hb=>?_⟩
    have:b=t:=by simpa using hb
    subst this;intro e;subst e;exact hn (uH.2 ha)
  cases h
theorem V7: ∀{n i:Nat},i<n->(A8 n)[i]? =some i
 |n+1,i,h=>by
  have hl: ∀n,(A8 n).length=n:=by
   intro n;induction n with
   |zero=>rfl
   |succ n ih=>simp [A8,ih]
  simp only [A8];rcases cp i n with h'|h'
  · rw [bw (by rw [hl];exact h')];exact V7 h'
  rw [cf (by rw [hl];exact h'),hl]
  have:i=n:=by omega
  subst this;simp
theorem V8: ∀{n i:Nat},i∈A8 n->i<n
 |n+1,i,h=>by
  simp only [A8,cu,c9] at h;rcases h with h|h
  · have:=V8 h;omega
  omega
theorem N3: ∀n,(A8 n).Nodup
 |0=>by simp [A8]
 |n+1=>by
  simp only [A8];rw [ft];refine ⟨N3 n,by simp,fun a ha b hb=>?_⟩
  have:=V8 ha
  have:b=n:=by simpa using hb
  omega
end
end Go.Vm
/- The head of a loop. -/
namespace Go.Vm
def aCP (s2:cV):Prop:= ∀(j:Nat) (k:mK),s2[j]? =some k-> ∃e,k= .arr e []
theorem VR.exOff {im:Im} {loc:dN} {x:PV} {u:Value} (h:VR im loc x u): ∀k:Option Nat,VR im loc (exOff k x) u
 |none=>h
 |some _=>by
  cases h with
  |own t esz off len cap ex li a cap' hl he hn hc hx hk h=>exact .own t esz off len cap false li a cap' hl he hn hc hx (fun h=>by cases h) h
  |undef=>exact .undef _
  |nul=>exact .nul
  |int k n=>exact .int k n
  |bool b=>exact .bool b
  |str s=>exact .str s
  |agg cs vs h=>exact .agg cs vs h
  |tup cs vs h=>exact .tup cs vs h
  |sl e c r a cap h1 h2 h3=>exact .sl e c r a cap h1 h2 h3
  |ptr t e r o li h1 h2 h3=>exact .ptr t e r o li h1 h2 h3
  |rptr cs off b o vs h hv=>exact .rptr cs off b o vs h hv
  |mp t li hl=>exact .mp t li hl
  |clo fn a b as bs ha hb=>exact .clo fn a b as bs ha hb
  |nilf=>exact .nilf
theorem HI {im:Im} {loc loc1:dN} {m:List Nat} {e:zE} {tmps:Array Value} (hm:Ren m loc loc1) (he:ER im loc e tmps): ∀{live:List (Nat×Option Nat)} {nx:Nat} {e1:zE} {s2:cV},wY e m nx live=some (e1,s2)->
 aCP s2/\((∀(j:Nat) (esz:Nat),s2[j]? =some (.arr esz [])->loc1 (nx+j)=some ⟨0,0,esz,0,0⟩)->ER im loc1 e1 tmps)
 | [],nx,e1,s2,h=>by
  simp only [wY,bq,ce] at h;obtain ⟨rfl,rfl⟩:=h;exact ⟨fun j k h=>by simp at h,fun _ t=> .undef _⟩
 |(s,k)::r,nx,e1,s2,h=>by
  have hs:=he s;simp only [wY] at h;split at h
  · rename_i esz e' hlk
    rw [bz] at h;obtain ⟨⟨e2,s3⟩,h1,h2⟩:=h;simp only [ce] at h2;obtain ⟨rfl,rfl⟩:=h2;obtain ⟨g1,g2⟩:=HI hm he h1;refine ⟨fun j k hj=>?_,fun hl t=>?_⟩
    · cases j with
      |zero=>simp at hj;exact ⟨_,hj.symm⟩
      |succ j=>exact g1 j k (by simpa using hj)
    rw [xC]
    split
    · rename_i e;subst e
      rw [hlk] at hs;generalize hg:tmps.getD s Go.undef=v at hs;cases hs with
      |sl _ _ _ a cap h1 h2 h3=>
      have:cap=0:=by simpa using h2 rfl
      subst this;exact .own nx esz 0 0 0 false ⟨0,0,esz,0,0⟩ a 0 (by simpa using hl 0 esz rfl) rfl (cd _) (cd _) (cd _) (fun h=>by cases h) (.inl rfl)
    refine g2 (fun j esz' hj=>?_) t
    have:=hl (j+1) esz' (by simpa using hj)
    rw [show nx+1+j=nx+(j+1) by omega];exact this
  split at h
  · rename_i v' p h1 h2
    injection h with h;simp only [ce] at h;obtain ⟨rfl,rfl⟩:=h;obtain ⟨g1,g2⟩:=HI hm he (e1:=p.1) (s2:=p.2) h2;refine ⟨g1,fun hl t=>?_⟩
    rw [xC];split
    · rename_i e;subst e
      exact (aDK hm hs h1).exOff _
    exact g2 hl t
  cases h
theorem VRL.setAt {im:Im} {loc:dN} {x:PV}: ∀{xs:List PV} {vs:List Value} {c:Nat} {y:PV},VRL im loc xs vs->xs[c]? =some y->(∀v,VR im loc y v->VR im loc x v)->VRL im loc (xs.set c x) vs
 | [],_,c,y,h,hc,_=>by simp at hc
 |z::zs,vs,c,y,h,hc,hx=>by
  cases h with
  |cons _ v _ us g1 g2=>
   cases c with
   |zero=>simp at hc;subst hc;exact .cons _ _ _ _ (hx v g1) g2
   |succ c=>exact .cons _ _ _ _ g1 (VRL.setAt g2 (by simpa using hc) hx)
theorem ZR {im0 im:Im} {loc0 loc:dN} {sto0:cV} {w0 w:World} {nt:Nat} {st:St} {a:Act} (t c esz:Nat) (hk:GN im0 loc0 sto0 w0 st im loc w) (ha:DR im loc nt st a):
 ∃loc1,GN im0 loc0 sto0 w0 (wZ st t c esz) im loc1 w/\DR im loc1 nt (wZ st t c esz) a:=by
 unfold wZ;split
 · rename_i cs hb
   split
   · rename_i e hc
     have sr:=hk.kept.sr;have hdom: ∀u li,loc u=some li->u<st.sto.length:=fun u li h=>by obtain ⟨k,h1,_⟩:=sr.blk u li h;exact cY h1
     have hn:loc st.sto.length=none:=by
      cases h:loc st.sto.length with
      |none=>rfl
      |some li=>exact absurd (hdom _ _ h) (Nat.lt_irrefl _)
     let loc1:dN:=fun u=>if u=st.sto.length then some ⟨0,0,esz,0,0⟩ else loc u
     have hle:pK loc loc1:=fun u li h=>by
      have:=hdom u li h
      simp only [loc1,show u≠st.sto.length by omega,if_false];exact h
     have back: ∀u li,loc1 u=some li->u≠st.sto.length->loc u=some li:=fun u li h hu=>by
      simpa only [loc1,hu,if_false] using h
     have htl:t<st.sto.length:=cY hb;have get: ∀u,u<st.sto.length->(st.sto.set t (.box (cs.set c (.own st.sto.length esz 0 0 0 false)))++[.arr esz []])[u]? =if t=u then some (.box (cs.set c (.own st.sto.length esz 0 0 0 false))) else st.sto[u]?:=fun u hu=>by
      rw [bw (by simpa using hu),fu]
      split
      · rename_i e;subst e;simp
      rfl
     have getn:(st.sto.set t (.box (cs.set c (.own st.sto.length esz 0 0 0 false)))++[.arr esz []])[st.sto.length]? =some (.arr esz []):=by
      rw [cf (by simp)];simp
     have solid: ∀(u:Nat) (k:mK),(st.sto.set t (.box (cs.set c (.own st.sto.length esz 0 0 0 false)))++[.arr esz []])[u]? =some k->k.solid=true->u≠st.sto.length/\ ∃k0:mK,st.sto[u]? =some k0/\k0.solid=true:=by
      intro u k hu hs;have hlt:=cY hu;simp only [db,fy,List.length_singleton] at hlt;have hne:u≠st.sto.length:=by
       intro e;subst e;rw [getn] at hu;injection hu with hu;subst hu;cases hs
      refine ⟨hne,?_⟩;rw [get u (by omega)] at hu
      split at hu
      · rename_i e;subst e;exact ⟨_,hb,rfl⟩
      exact ⟨k,hu,hs⟩
     refine ⟨loc1,⟨⟨?_,hk.kept.imle,hk.kept.locle.trans hle,hk.kept.os,hk.kept.tape,hk.kept.output,hk.kept.size,hk.kept.frame,hk.kept.imnew,fun u li h=>?_,fun u li k h hs hsol=>?_⟩,hk.kn,?_,hk.dom⟩,⟨ha.env.mono (rX.refl _) hle,ha.defers,ha.nts⟩⟩
     · refine {
        im_ok:=sr.im_ok
        blk:=fun u li hl=>?_
        excl:=fun u u' li lj k k' hl hl' hs hs' hsol hsol' hbk=>?_
        free:=fun u li k hl hs hsol hz=>?_}
       · by_cases hu:u=st.sto.length
         · subst hu
           simp only [loc1,if_true] at hl;injection hl with hl;subst hl;exact ⟨_,getn,rfl,rfl,fun h=>absurd rfl h⟩
         have hl0:=back u li hl hu
         obtain ⟨k,h1,h2⟩:=sr.blk u li hl0
         show∃k,(st.sto.set t (.box (cs.set c (.own st.sto.length esz 0 0 0 false)))++[.arr esz []])[u]? =some k/\BR im loc1 w li k
         rw [get u (cY h1)];split
         · rename_i et;subst et
           rw [hb] at h1;injection h1 with h1;subst h1;obtain ⟨g1,g2,g3,vs,el,g4,g5,g6⟩:=h2;refine ⟨_,rfl,by simpa using g1,g2,g3,vs,el,g4,g5,(g6.mono (rX.refl _) hle).setAt hc fun v hv=>?_⟩
           cases hv with
           |sl _ _ _ a' cap h1 h2 h3=>
           have:cap=0:=by simpa using h2 rfl
           subst this;exact .own _ esz 0 0 0 false ⟨0,0,esz,0,0⟩ a' 0 (by simp only [loc1,if_true]) rfl (cd _) (cd _) (cd _) (fun h=>by cases h) (.inl rfl)
         exact ⟨k,h1,h2.mono (rX.refl _) hle rfl⟩
       · obtain ⟨n1,k0,g1,g2⟩:=solid u k hs hsol
         obtain ⟨n2,k0',g1',g2'⟩:=solid u' k' hs' hsol';exact sr.excl u u' li lj k0 k0' (back _ _ hl n1) (back _ _ hl' n2) g1 g1' g2 g2' hbk
       obtain ⟨n1,k0,g1,g2⟩:=solid u k hs hsol
       exact sr.free u li k0 (back _ _ hl n1) g1 g2 hz
     · by_cases hu:u=st.sto.length
       · right;have:=hk.len;omega
       exact hk.kept.locs u li (back u li h hu)
     · obtain ⟨n1,k0,g1,g2⟩:=solid u k hs hsol
       exact hk.kept.own u li k0 (back _ _ h n1) g1 g2
     have:=hk.len
     show sto0.length<=(st.sto.set t (.box (cs.set c (.own st.sto.length esz 0 0 0 false)))++[mK.arr esz []]).length;simp only [db,fy];omega
   exact ⟨loc,hk,ha⟩
 exact ⟨loc,hk,ha⟩
theorem vP {im0 im:Im} {loc0:dN} {sto0:cV} {w0 w:World} {nt:Nat} {a:Act}: ∀(live:List (Nat×Option Nat)) {st:St} {loc:dN},GN im0 loc0 sto0 w0 st im loc w->DR im loc nt st a->
 ∃loc1,GN im0 loc0 sto0 w0 (nF live st) im loc1 w/\DR im loc1 nt (nF live st) a
 | [],st,loc,hk,ha=>⟨loc,hk,ha⟩
 |(s,k)::r,st,loc,hk,ha=>by
  simp only [nF];split
  · split
    · split
      · rename_i t _
        obtain ⟨loc1,h1,h2⟩:=ZR t _ _ hk ha;exact vP r h1 h2
      exact vP r hk ha
    exact vP r hk ha
  exact vP r hk ha
theorem V9 {im0 im:Im} {loc0 loc:dN} {sto0:cV} {w0 w:World} {nt:Nat} {live:List (Nat×Option Nat)} {st st1:St} {a:Act} (h:NF live st=some st1) (hk:GN im0 loc0 sto0 w0 st im loc w) (ha:DR im loc nt st a):
 ∃loc1,GN im0 loc0 sto0 w0 st1 im loc1 w/\DR im loc1 nt st1 a:=by
 unfold NF at h;split at h
 · cases h
 rename_i m hreach
 split at h
 · rename_i s1 e1 s2 hs1 hlv
   injection h with h;subst h;refine (fun hh: ∃loc1,GN im0 loc0 sto0 w0 {env:=e1,sto:=s1++s2,fz:=D5 st.fz 0 m,kn:=st.kn} im loc1 w/\DR im loc1 nt {env:=e1,sto:=s1++s2,fz:=D5 st.fz 0 m,kn:=st.kn} a=>
    let ⟨_,g1,g2⟩:=hh;vP live g1 g2) ?_
   obtain ⟨⟨ml,hml⟩,hnd⟩:=N2 hreach;have hnd:=hnd (N3 _);obtain ⟨hl1,hget⟩:=KD hs1;have hupl: ∀n,(A8 n).length=n:=by
    intro n;induction n with
    |zero=>rfl
    |succ n ih=>simp [A8,ih]
   have hid: ∀t,t<st.kn->m[t]? =some t:=by
    intro t ht;rw [hml,bw (by rw [hupl];exact ht)]
    exact V7 ht
   have hmlen:st.kn<=m.length:=by rw [hml];simp [hupl]
   let loc1:dN:=fun u=>if u<m.length then (match m[u]? with|some t=>loc t|none=>none) else match s2[u-m.length]? with
    |some (.arr e [])=>some ⟨0,0,e,0,0⟩
    |_=>none
   have hren:Ren m loc loc1:=by
    intro u t hu
    have:=cY hu
    simp only [loc1,this,if_true,hu]
   obtain ⟨hemp,her⟩:=HI hren ha.env hlv;have old: ∀u li,loc1 u=some li->u<m.length-> ∃t,m[u]? =some t/\loc t=some li:=by
    intro u li hl hu;have e:=bo hu;rw [hren u _ e] at hl;exact ⟨_,e,hl⟩
   have stoL: ∀u,u<m.length->(s1++s2)[u]? =s1[u]?:=fun u hu=>bw (by rw [hl1];exact hu)
   have stoR: ∀u,¬u<m.length->(s1++s2)[u]? =s2[u-m.length]?:=fun u hu=>by rw [cf (by rw [hl1];omega),hl1]
   have solid_old: ∀(u:Nat) (k:mK),(s1++s2)[u]? =some k->k.solid=true->u<m.length:=by
    intro u k hs hsol;rcases cp u m.length with h|h
    · exact h
    rw [stoR u (by omega)] at hs
    obtain ⟨e,rfl⟩:=hemp _ _ hs;cases hsol
   have back: ∀(u:Nat) (k:mK),(s1++s2)[u]? =some k-> ∀t,m[u]? =some t-> ∃k0:mK,st.sto[t]? =some k0/\k.solid=k0.solid:=by
    intro u k hs t ht;obtain ⟨k0,k',g1,g2,g3⟩:=hget u t ht;rw [stoL u (cY ht),g3] at hs;injection hs with hs;subst hs;exact ⟨k0,g1,IQ g2⟩
   have sr:=hk.kept.sr;have keptsr:SR im loc1 (s1++s2) (D5 st.fz 0 m) w:=by
    refine {
     im_ok:=sr.im_ok
     blk:=fun u li hl=>?_
     excl:=fun u u' li lj k k' hl hl' hs hs' hsol hsol' hb=>?_
     free:=fun u li k hl hs hsol hz=>?_}
    · by_cases hu:u<m.length
      · obtain ⟨t,ht,hlt⟩:=old u li hl hu
        obtain ⟨k0,h1,h2⟩:=sr.blk t li hlt;obtain ⟨k1,k',g1,g2,g3⟩:=hget u t ht;rw [h1] at g1;injection g1 with g1;subst g1;exact ⟨k',by rw [stoL u hu];exact g3,RE hren g2 h2⟩
      simp only [loc1,hu,if_false] at hl
      split at hl
      · rename_i e he
        injection hl with hl;subst hl;exact ⟨.arr e [],by rw [stoR u hu];exact he,rfl,rfl,fun h=>absurd rfl h⟩
      cases hl
    · have hu:=solid_old u k hs hsol
      have hu':=solid_old u' k' hs' hsol';obtain ⟨t,ht,hlt⟩:=old u li hl hu;obtain ⟨t',ht',hlt'⟩:=old u' lj hl' hu';obtain ⟨k0,g1,g2⟩:=back u k hs t ht;obtain ⟨k0',g1',g2'⟩:=back u' k' hs' t' ht'
      have:=sr.excl t t' li lj k0 k0' hlt hlt' g1 g1' (by rw [<- g2];exact hsol) (by rw [<- g2'];exact hsol') hb
      subst this;have pw:=d7.1 hnd;have e1:=(bv.1 ht).2;have e2:=(bv.1 ht').2;rcases cm u u' with h|h|h
      · exact absurd (e1.trans e2.symm) (pw u u' hu hu' h)
      · exact h
      exact absurd (e2.trans e1.symm) (pw u' u hu' hu h)
    have hu:=solid_old u k hs hsol
    obtain ⟨t,ht,hlt⟩:=old u li hl hu;obtain ⟨k0,g1,g2⟩:=back u k hs t ht;refine sr.free t li k0 hlt g1 (by rw [<- g2];exact hsol) (lU.2 ?_)
    exact V6 (i0:=0) ht (by have:=lU.1 hz;simpa using this)
   refine ⟨loc1,⟨⟨keptsr,hk.kept.imle,fun t li hl=>?_,hk.kept.os,hk.kept.tape,hk.kept.output,hk.kept.size,hk.kept.frame,hk.kept.imnew,fun t li hl=>?_,fun u li k hl hs hsol=>?_⟩,hk.kn,?_,hk.dom⟩,
    ⟨her fun j esz hj=>?_,ha.defers,ha.nts⟩⟩
   · have h1:=hk.kept.locle t li hl
     have ht:t<st.kn:=by rw [hk.kn];exact hk.dom t li hl
     rw [hren t t (hid t ht)];exact h1
   · rcases cp t st.kn with ht|ht
     · rw [hren t t (hid t ht)] at hl
       exact hk.kept.locs t li hl
     right;rw [hk.kn] at ht;exact ht
   · have hu:=solid_old u k hs hsol
     obtain ⟨t,ht,hlt⟩:=old u li hl hu;obtain ⟨k0,g1,g2⟩:=back u k hs t ht;exact hk.kept.own t li k0 hlt g1 (by rw [<- g2];exact hsol)
   · rw [<- hk.kn]
     simp only [db];omega
   simp only [loc1,show¬m.length+j<m.length by omega,if_false,show m.length+j-m.length=j by omega,hj]
 exact (by cases h)
theorem aGh {im0 im:Im} {loc0 loc:dN} {sto0:cV} {w0 w:World} {nt:Nat} {live:List (Nat×Option Nat)} {st st1:St} {a:Act} (h:MK live st=some st1) (hk:GN im0 loc0 sto0 w0 st im loc w) (ha:DR im loc nt st a):
 ∃loc1,GN im0 loc0 sto0 w0 st1 im loc1 w/\DR im loc1 nt st1 a:=by
 unfold MK at h;cases h1:NF live st with
 |none=>rw [h1] at h;cases h
 |some s=>
  rw [h1] at h;dsimp only at h;obtain ⟨loc1,hk1,ha1⟩:=V9 h1 hk ha;split at h
  · exact V9 h hk1 ha1
  injection h with h
  subst h;exact ⟨loc1,hk1,ha1⟩
end Go.Vm
/- The code of a function; what it returns. -/
namespace Go.Vm
def iM (P:Program) (prims:FuncId->Bool) (nt:Nat):mL->Code->Bool
 | .skip,.skip=>true
 | .region d ops _,.region _ mops flag=>KO P prims nt d ops mops flag
 | .seq a b,.seq c d=>iM P prims nt a c&&iM P prims nt b d
 | .cond c a b,.cond c' a' b'=>bK c c'&&iM P prims nt a a'&&iM P prims nt b b'
 | .block id b,.block id' b'=>id==id'&&iM P prims nt b b'
 | .loop _ b,.loop b'=>iM P prims nt b b'
 | .exit id,.exit id'=>id==id'
 | .ret,.ret=>true
 |_,_=>false
def jM.out:jM->Exit
 | .normal=> .normal
 | .exit id=> .exit id
 | .ret=> .ret
section
variable {P : Program} {F : qK} {rec : mI -> Option zG} {im0 : Im} {loc0 : dN} {sto0 : cV} {w0 : World} {nt : Nat} {prims : FuncId -> Bool}
structure At (im0:Im) (loc0:dN) (sto0:cV) (w0:World) (nt:Nat) (st:St) (a:Act) (w:World):Prop where
 ex: ∃im loc,GN im0 loc0 sto0 w0 st im loc w/\DR im loc nt st a
def KP (P : Program) (prims : FuncId -> Bool) (rec : mI -> Option zG) : Prop :=
  ∀ (live : List (Nat × Option Nat)) (x : mL) (st : St) (e : jM) (st' : St), rec (.loop live x st) = some (.code e st') ->
    ∀ (c : Code) (nt : Nat) (im0 : Im) (loc0 : dN) (sto0 : cV) (w0 : World) (a : Act) (w : World), iM P prims nt x c = true -> At im0 loc0 sto0 w0 nt st a w ->
      ∀ (b : Frame) (k : List Item) (cs : List Frame), ∃ a' w', At im0 loc0 sto0 w0 nt st' a' w' /\ Arrives P (lone (b.at a (.code c :: .inLoop c :: k)) cs w) b k cs e.out a' w'
theorem nH (hE:TL P F rec) (hL:KP P prims rec) (hmix:P.follows .mixedOrders=true): ∀(x:mL) (c:Code) (st:St) (e:jM) (st':St),iM P prims nt x c=true->zH F rec x st=some (e,st')->
 ∀(a:Act) (w:World),At im0 loc0 sto0 w0 nt st a w-> ∀(Q:Exit->Act->World->Prop),(∀a' w',At im0 loc0 sto0 w0 nt st' a' w'->Q e.out a' w')->c.wp P Q a w
 | .skip,c,st,e,st',hc,hev,a,w,ha,Q,hQ=>by
  cases c<;>simp only [iM,cj] at hc
  simp only [zH,bq,ce] at hev;obtain ⟨rfl,rfl⟩:=hev;exact wp_skip (hQ _ _ ha)
 | .region d ops keep,c,st,e,st',hc,hev,a,w,ha,Q,hQ=>by
  cases c<;>simp only [iM,cj] at hc
  simp only [zH,bz] at hev;obtain ⟨st1,hev,h⟩:=hev;simp only [ce] at h;obtain ⟨rfl,rfl⟩:=h;obtain ⟨im,loc,hk,hact⟩:=ha.ex;refine ZQ hE hmix hc hev hk.kept.sr hact fun im' loc' a' w' hk' ha'=>hQ a' w' ⟨im',loc',?_,ha'⟩
  obtain ⟨h1,h2⟩:=TM hev;exact ⟨hk.kept.trans hk' hk.len,by rw [h1];exact hk.kn,cq hk.len h2,hk.dom⟩
 | .seq x y,c,st,e,st',hc,hev,a,w,ha,Q,hQ=>by
  cases c<;>simp only [iM,cj,bn] at hc
  obtain ⟨h1,h2⟩:=hc;simp only [zH] at hev;refine wp_seq ?_;cases hx:zH F rec x st with
  |none=>rw [hx] at hev;cases hev
  |some q=>
   obtain ⟨e1,st1⟩:=q;rw [hx] at hev;refine nH hE hL hmix x _ st e1 st1 h1 hx a w ha _ fun a' w' ha'=>?_
   cases e1 with
   |normal=>exact nH hE hL hmix y _ st1 e st' h2 hev a' w' ha' Q hQ
   |exit id=>
    simp only [bq,ce] at hev;obtain ⟨rfl,rfl⟩:=hev;exact hQ a' w' ha'
   |ret=>
    simp only [bq,ce] at hev;obtain ⟨rfl,rfl⟩:=hev;exact hQ a' w' ha'
 | .cond cc x y,c,st,e,st',hc,hev,a,w,ha,Q,hQ=>by
  cases c<;>simp only [iM,cj,bn] at hc
  obtain ⟨⟨h0,h1⟩,h2⟩:=hc;obtain ⟨im,loc,hk,hact⟩:=ha.ex;have hv:=ZP (a:=a) (e:=st.env) cc (fun t _=>hact.env t) _ h0
  simp only [zH] at hev;split at hev
  · rename_i hb
    rw [hb] at hv;exact wp_cond_true hv.bool_inv (nH hE hL hmix x _ st e st' h1 hev a w ha Q hQ)
  · rename_i hb
    rw [hb] at hv;exact wp_cond_false hv.bool_inv (nH hE hL hmix y _ st e st' h2 hev a w ha Q hQ)
  cases hev
 | .block id x,c,st,e,st',hc,hev,a,w,ha,Q,hQ=>by
  cases c<;>simp only [iM,cj,bn,beq_iff_eq] at hc
  obtain ⟨rfl,h1⟩:=hc;refine wp_block ?_;simp only [zH] at hev;cases hx:zH F rec x st with
  |none=>rw [hx] at hev;cases hev
  |some q=>
   obtain ⟨e1,st1⟩:=q;rw [hx] at hev;refine nH hE hL hmix x _ st e1 st1 h1 hx a w ha _ fun a' w' ha'=>?_
   cases e1 with
   |normal=>
    simp only [bq,ce] at hev;obtain ⟨rfl,rfl⟩:=hev;exact hQ a' w' ha'
   |ret=>
    simp only [bq,ce] at hev;obtain ⟨rfl,rfl⟩:=hev;exact hQ a' w' ha'
   |exit j=>
    dsimp only at hev;simp only [jM.out,Exit.inBlock];split at hev
    · rename_i hj
      have:j=id:=by simpa using hj
      simp only [bq,ce] at hev;obtain ⟨rfl,rfl⟩:=hev;rw [if_pos this];exact hQ a' w' ha'
    rename_i hj
    have:j≠id:=by simpa using hj
    simp only [bq,ce] at hev;obtain ⟨rfl,rfl⟩:=hev;rw [if_neg this];exact hQ a' w' ha'
 | .loop live x,c,st,e,st',hc,hev,a,w,ha,Q,hQ=>by
  cases c<;>simp only [iM,cj] at hc
  simp only [zH] at hev;split at hev
  · rename_i e1 st1 hr
    simp only [bq,ce] at hev;obtain ⟨rfl,rfl⟩:=hev;intro b k cs;obtain ⟨a',w',h1,h2⟩:=hL live x st _ _ hr _ nt im0 loc0 sto0 w0 a w hc ha b k cs;exact ⟨_,a',w',hQ a' w' h1,.of_steps (.one step_loop) h2⟩
  cases hev
 | .exit id,c,st,e,st',hc,hev,a,w,ha,Q,hQ=>by
  cases c<;>simp only [iM,cj,beq_iff_eq] at hc
  subst hc;simp only [zH,bq,ce] at hev;obtain ⟨rfl,rfl⟩:=hev;exact wp_exit (hQ _ _ ha)
 | .ret,c,st,e,st',hc,hev,a,w,ha,Q,hQ=>by
  cases c<;>simp only [iM,cj] at hc
  simp only [zH,bq,ce] at hev;obtain ⟨rfl,rfl⟩:=hev;exact wp_ret (hQ _ _ ha)
theorem aCQ (hE:TL P F rec) (hL:KP P prims rec) (hmix:P.follows .mixedOrders=true):KP P prims (step F rec):=by
 intro live x st e st' h c nt im0 loc0 sto0 w0 a w hc ha b k cs;simp only [step] at h;cases hn:MK live st with
 |none=>rw [hn] at h;cases h
 |some st1=>
  rw [hn] at h;dsimp only at h;obtain ⟨im,loc,hk,hact⟩:=ha.ex;obtain ⟨loc1,hk1,ha1⟩:=aGh hn hk hact;have hat:At im0 loc0 sto0 w0 nt st1 a w:=⟨im,loc1,hk1,ha1⟩;cases hx:zH F rec x st1 with
  |none=>rw [hx] at h;cases h
  |some q=>
   obtain ⟨e1,st2⟩:=q;rw [hx] at h;have hw:=nH hE hL hmix x c st1 e1 st2 hc hx a w hat (fun e' a' w'=>e'=e1.out/\At im0 loc0 sto0 w0 nt st2 a' w') fun a' w' h=>⟨rfl,h⟩
   obtain ⟨e',a1,w1,⟨rfl,hq⟩,harr⟩:=hw b (.inLoop c::k) cs;cases e1 with
   |normal=>
    dsimp only at h;obtain ⟨a',w',h1,h2⟩:=hL live x st2 e st' h c nt im0 loc0 sto0 w0 a1 w1 hc hq b k cs;exact ⟨a',w',h1,.of_steps (Steps.trans harr (.one step_inLoop)) h2⟩
   |exit id=>
    simp only [bq,zG.code.injEq] at h;obtain ⟨rfl,rfl⟩:=h;exact ⟨a1,w1,hq,.pass (x:= .inLoop c) rfl (fun _ _=> .inl (by simp [jM.out])) harr⟩
   |ret=>
    simp only [bq,zG.code.injEq] at h;obtain ⟨rfl,rfl⟩:=h;exact ⟨a1,w1,hq,.pass (x:= .inLoop c) rfl (fun _ _=> .inl (by simp [jM.out])) harr⟩
def tL (P:Program):List RV->List ResultVar->Bool
 | [],[]=>true
 | .tmp t::r,.tmp t'::s=>t==t'&&tL P r s
 | .cell t agg::r,.cell t' ty::s=>t==t'&&IP P ty agg&&tL P r s
 |_,_=>false
def ZS (tmps:Array Value):ResultVar->Sem Value
 | .tmp t=>pure (tmps.getD t undef)
 | .cell a t=>do loadVar t (<- asAddr (tmps.getD a undef))
theorem aCR {im:Im} {loc:dN} {sto:cV} {agg:Option Nat} {p:PV} {u:Value} {r:rT} (hp:VR im loc p u) (h:tD sto agg p=some r): ∃ad,u= .pointer (some ad):=by
 cases hp<;>first|(simp [tD] at h;done)|exact ⟨_,rfl⟩
theorem SR.known {im:Im} {loc:dN} {sto:cV} {fz:List Nat} {w:World} (h:SR im loc sto fz w) {r:rT} (hn:r.news=[]) (hw:r.wr=[]):lI im loc sto w r where
 im_ok:=h.im_ok
 tok:=fun t _ li hl=>h.blk t li hl
 free:=fun t k hm=>by rw [hw] at hm;cases hm
 fresh:=fun j hj=>by rw [hn] at hj;simp at hj
 excl:=fun t u li lj k k' _ _=>h.excl t u li lj k k'
theorem ZT {sto:cV} {agg:Option Nat} {p:PV} {r:rT} (h:tD sto agg p=some r):r.news=[]/\r.wr=[]:=by
 unfold tD at h;split at h
 · split at h
   · split at h
     · rw [bz] at h;obtain ⟨_,_,rfl⟩:=h;exact ⟨rfl,rfl⟩
     cases h
   · split at h
     · rw [bz] at h;obtain ⟨_,_,rfl⟩:=h;exact ⟨rfl,rfl⟩
     cases h
   cases h
 · rw [bz] at h;obtain ⟨_,_,rfl⟩:=h;exact ⟨rfl,rfl⟩
 cases h
theorem aDZ {im : Im} {loc : dN} {st : St} {a : Act} {w : World} (hsr : SR im loc st.sto st.fz w) (ha : ER im loc st.env a.tmps) : ∀ {rs : List RV} {vs : List PV} {os : List ResultVar}, tL P rs os = true -> rV st rs = some vs ->
    ∃ us, (os.mapM (ZS a.tmps)).run P w = .ok us w /\ VRL im loc vs us
  | [], vs, os, hc, h => by
    cases os <;> simp only [tL, cj] at hc
    simp only [rV, bq] at h; subst h
    exact ⟨[], by simp, .nil⟩
  | r :: rs, vs, [], hc, h => by cases r <;> simp [tL] at hc
  | r :: rs, vs, o :: os, hc, h => by
    simp only [rV] at h
    split at h
    · rename_i v vs' h1 h2
      injection h with h; subst h
      have hone : ∃ u, (ZS a.tmps o).run P w = .ok u w /\ VR im loc v u /\ tL P rs os = true := by
        cases r with
        | tmp t =>
          cases o with
          | tmp t' =>
            simp only [tL, bn, beq_iff_eq] at hc
            obtain ⟨rfl, hc⟩ := hc
            simp only [NI, bq] at h1; subst h1
            exact ⟨_, rfl, ha t, hc⟩
          | cell _ _ => simp [tL] at hc
        | cell t agg =>
          cases o with
          | tmp t' => simp [tL] at hc
          | cell t' ty =>
            simp only [tL, bn, beq_iff_eq] at hc
            obtain ⟨⟨rfl, hag⟩, hc⟩ := hc
            simp only [NI, bz] at h1
            obtain ⟨rr, h3, rfl⟩ := h1
            obtain ⟨g1, g2⟩ := ZT h3
            obtain ⟨u, hrun, hvr, _⟩ := VQ (P := P) (ha t) hag h3 (hsr.known g1 g2)
            obtain ⟨ad, had⟩ := aCR (ha t) h3
            refine ⟨u, ?_, hvr, hc⟩
            simp only [ZS, had, asAddr]
            rw [had] at hrun
            simpa [Instr.loadAt, Instr.sureAddr] using hrun
      obtain ⟨u, hu, hvr, hc⟩ := hone
      obtain ⟨us, hus, hvrs⟩ := aDZ hsr ha hc h2
      refine ⟨u :: us, ?_, .cons _ _ _ _ hvr hvrs⟩
      rw [List.mapM_cons]
      simp only [d5, hu, d9, hus, gc]
    cases h
theorem N4 {im:Im} {loc:dN} {st:St} {a:Act} {w:World} {fn:Func} (hsr:SR im loc st.sto st.fz w) (ha:ER im loc st.env a.tmps) {rs:List RV} {vs:List PV} (hc:tL P rs fn.results.toList=true) (h:rV st rs=some vs):
 ∃u,(results fn a.tmps).run P w= .ok u w/\VR im loc (vK vs) u:=by
 obtain ⟨us,h1,h2⟩:=aDZ (P:=P) hsr ha hc h;have e:fn.results.mapM (ZS a.tmps)=List.toArray<$>fn.results.toList.mapM (ZS a.tmps):=Array.mapM_eq_mapM_toList;have h3:(fn.results.mapM (ZS a.tmps)).run P w= .ok us.toArray w:=by
  rw [e];rw [map_eq_pure_bind,d5,h1];rfl
 have hres:results fn a.tmps=(do let vs <- fn.results.mapM (ZS a.tmps);pure (if h:vs.size=1 then vs[0] else .tuple vs)):=by
  unfold results
  congr 1
 rw [hres];simp only [d5,h3,d9,gc];refine ⟨_,rfl,?_⟩;cases h2 with
 |nil=>exact .tup _ _ .nil
 |cons x u xs us g2 g3=>
  cases g3 with
  |nil=>exact g2
  |cons y v ys vs g4 g5=>exact .tup _ _ (.cons _ _ _ _ g2 (.cons _ _ _ _ g4 g5))
end
end Go.Vm
/- What the logical machine answers, the model answers. -/
namespace Go.Vm
def aE (P:Program) (prims:FuncId->Bool) (x:aM) (f:FuncId):Bool:=
 match P.funcs[f]? with
 |some fn=>!(fn.name== "runtime.NumGoroutine")&&cz x.nargs fn.ntmps&&tL P x.res fn.results.toList&&(match fn.body with|some c=>iM P prims fn.ntmps x.code c|none=>false)
 |none=>false
section
variable {P : Program} {F : qK} {rec : mI -> Option zG} {prims : FuncId -> Bool}
def WA (P:Program) (prims:FuncId->Bool) (F:qK):Prop:= ∀f x,F f=some (.code x)->aE P prims x f=true
theorem WB: ∀(args:List PV) (i t:Nat),lk t (A9 i args)=if i<=t then (args[t-i]?).getD .undef else .undef
 | [],i,t=>by simp [A9,lk]
 |v::r,i,t=>by
  simp only [A9,xC];rw [WB r (i+1) t]
  by_cases h:i=t
  · subst h;simp
  rw [if_neg h]
  by_cases h2:i<=t
  · rw [if_pos h2,if_pos (by omega)]
    have:t-i=(t- (i+1))+1:=by omega
    rw [this];simp
  rw [if_neg h2,if_neg (by omega)]
theorem RM {im:Im} {loc:dN} {args:List PV} {us:List Value} (h:VRL im loc args us) (n:Nat):ER im loc (A9 0 args) ((⟨us⟩:Array Value)++df n Go.undef):=by
 intro t;rw [WB];simp only [c7,if_true,Nat.sub_zero];cases ha:args[t]? with
 |none=>exact .undef _
 |some x=>
  obtain ⟨v,hv,hr⟩:=h.get t x ha
  have:((⟨us⟩:Array Value)++df n Go.undef).getD t Go.undef=v:=by
   have hlt:=cY hv;simp only [cy];rw [Array.getElem?_append_left (by simpa using hlt)]
   simp [hv]
  rw [this];exact hr
theorem jX {f:FuncId} {fn:Func} {c:Code} {us:Array Value} {w:World} (hf:P.funcs[f]? =some fn) (hn:(fn.name== "runtime.NumGoroutine")=false) (hb:fn.body=some c):(callFunc f us).run P w= .ok (.enter f us) w:=by
 unfold callFunc;have hn: ¬fn.name= "runtime.NumGoroutine" :=by simpa using hn
 simp [d5,hf,hn,hb]
theorem aCS (hE:TL P F rec) (hL:KP P prims rec) (hT:WA P prims F) (hmix:P.follows .mixedOrders=true):KK P (step F rec):=by
 intro f args sto fz v sto' fz' h im loc w us hsr hus;simp only [step] at h;split at h
 · rename_i x hF
   have hc:=hT f x hF;unfold aE at hc;cases hf:P.funcs[f]? with
   |none=>rw [hf] at hc;cases hc
   |some fn=>
    rw [hf] at hc;simp only [bn,ck] at hc;obtain ⟨⟨⟨hname,hna⟩,hres⟩,hbody⟩:=hc;cases hb:fn.body with
    |none=>rw [hb] at hbody;cases hbody
    |some c=>
     rw [hb] at hbody;dsimp only at hbody;refine .inr ⟨jX hf hname hb,calls_of_wp hf hb ?_⟩;split at h
     · rename_i hlen
       have hlen:args.length=x.nargs:=by simpa using hlen
       have hna:x.nargs<=fn.ntmps:=by simpa using hna
       have husl:=hus.length
       let st0:St:={env:=A9 0 args,sto,fz,kn:=sto.length}
       let a0:Act:={tmps:=(⟨us⟩:Array Value)++df (fn.ntmps- (⟨us⟩:Array Value).size) Go.undef,defers:=[]}
       have hat:At im loc sto w fn.ntmps st0 a0 w:=by
        refine ⟨im,loc,⟨⟨hsr,.refl _,.refl _,rfl,rfl,rfl,cd _,fun _ _ _=>rfl,fun _ _ h=> .inl h,fun _ _ h=> .inl h,fun t li k hl hs hsol=> .inr ⟨t,li,k,hl,hs,hsol,rfl⟩⟩,rfl,cd _,fun t li hl=>?_⟩,⟨RM hus _,rfl,?_⟩⟩
        · obtain ⟨k,hk,_⟩:=hsr.blk t li hl
          exact cY hk
        simp only [a0,fv,fa]
        show us.length+_=_
        have:(⟨us⟩:Array Value).size=us.length:=rfl
        rw [this];omega
       have fin: ∀(st:St),(rV st x.res).map (fun vs=>zG.func (vK vs) st.sto st.fz)=some (.func v sto' fz')-> ∀a' w',At im loc sto w fn.ntmps st a' w'->
        a'.defers=[]/\ ∃u,(results fn a'.tmps).run P w'= .ok u w'/\ ∃v',Ending.returned u= .returned v'/\ ∃im' loc',BD im loc sto w v sto' fz' im' loc' w' v':=by
        intro st hst a' w' hat
        obtain ⟨im',loc',hk,hact⟩:=hat.ex;rw [bz] at hst;obtain ⟨vs,hvs,he⟩:=hst;simp only [zG.func.injEq] at he;obtain ⟨rfl,rfl,rfl⟩:=he;obtain ⟨u,hu,hvr⟩:=N4 (P:=P) (fn:=fn) hk.kept.sr hact.env hres hvs;have K:=hk.kept;exact ⟨hact.defers,u,hu,u,rfl,im',loc',⟨K.imle,K.locle,hvr,K.sr,K.os,K.tape,K.output,K.size,K.frame,K.imnew,K.locs,K.own⟩⟩
       split at h
       · rename_i st hev
         exact nH hE hL hmix x.code c st0 .normal st hbody hev a0 w hat _ fun a' w' hat'=>fin st h a' w' hat'
       · rename_i st hev
         exact nH hE hL hmix x.code c st0 .ret st hbody hev a0 w hat _ fun a' w' hat'=>fin st h a' w' hat'
       cases h
     cases h
 · rename_i p hF
   obtain ⟨fn,c,hf,hname,hb,key⟩:=hE.prim.2 f p hF;rw [bz] at h;obtain ⟨⟨v1,s1,z1⟩,hp,he⟩:=h;simp only [zG.func.injEq] at he;obtain ⟨rfl,rfl,rfl⟩:=he;exact key args sto fz _ _ _ hp im loc w us hsr hus
 cases h
theorem aNZ (hT:WA P prims F) (hprim:FO P F) (hmix:P.follows .mixedOrders=true): ∀n,KK P (run F n)/\KP P prims (run F n)
 |0=>⟨fun f args sto fz v sto' fz' h=>by simp [run] at h,fun live x st e st' h=>by simp [run] at h⟩
 |n+1=>by
  obtain ⟨h1,h2⟩:=aNZ hT hprim hmix n;have hE:TL P F (run F n):=⟨h1,hprim⟩;exact ⟨aCS hE h2 hT hmix,aCQ hE h2 hmix⟩
theorem aCT (hT:WA P prims F) (hprim:FO P F) (hmix:P.follows .mixedOrders=true) {n:Nat} {f:FuncId} {args:List PV} {v:PV} {sto':cV} {fz':List Nat} (h:run F n (.func f args [] [])=some (.func v sto' fz'))
 {im:Im} {w:World} {us:List Value} (him: ∀b o,im b=some o->w.heap[b]? =some o) (hus:VRL im iD args us):
 Calls P f ⟨us⟩ w fun e w'=> ∃u,e= .returned u/\(∃im' loc',VR im' loc' v u/\SR im' loc' sto' fz' w')/\w'.os=w.os/\w'.tape=w.tape/\w'.output=w.output/\w.heap.size<=w'.heap.size/\ ∀b,b<w.heap.size->w'.heap[b]? =w.heap[b]?:=by
 have key:=(aNZ hT hprim hmix n).1 f args [] [] v sto' fz' h im iD w us (SR.empty him) hus;rcases key with ⟨u,w',h1,h2⟩|⟨h1,h2⟩
 · exfalso
   cases n with
   |zero=>simp [run] at h
   |succ n=>
    have h:step F (run F n) (.func f args [] [])=some (.func v sto' fz'):=h;simp only [step] at h;split at h
    · rename_i x hF
      have hc:=hT f x hF;unfold aE at hc;cases hf:P.funcs[f]? with
      |none=>rw [hf] at hc;cases hc
      |some fn=>
       rw [hf] at hc;simp only [bn,ck] at hc;cases hb:fn.body with
       |none=>rw [hb] at hc;exact (by have hzz:=hc.2;cases hzz)
       |some c=>
        rw [jX hf hc.1.1.1 hb] at h1;cases h1
    · rename_i p hF
      obtain ⟨fn,c,hf,hname,hb,key⟩:=hprim.2 f p hF;rw [jX hf hname hb] at h1;cases h1
    cases h
 refine h2.mono fun e w' ⟨u,he,im',loc',hp⟩=>⟨u,he,⟨im',loc',hp.vr,hp.sr⟩,hp.os,hp.tape,hp.output,hp.size,fun b hb=>hp.frame b hb fun t li k hl=>by cases hl⟩
end
end Go.Vm
/- Functions that are known without their code: math/bits.Add64 and Sub64, slices.Clone. -/
namespace Go.Vm
section
variable {P : Program}
theorem ZU {im:Im} {w:World} {v:PV} {u:Value} (hsr:SR im iD [] [] w) (hv:VR im iD v u):BD im iD [] w v [] [] im iD w u where
 imle:= .refl _
 locle:= .refl _
 vr:=hv
 sr:=hsr
 os:=rfl
 tape:=rfl
 output:=rfl
 size:=cd _
 frame:=fun _ _ _=>rfl
 imnew:=fun _ _ h=> .inl h
 locs:=fun _ _ h=> .inl h
 own:=fun t li k h=>by cases h
theorem ZV {im:Im} {loc:dN} {k1 k2 k3:IntKind} {a b c:Int} {us:List Value} (h:VRL im loc [.int k1 a,.int k2 b,.int k3 c] us):us=[.int k1 a,.int k2 b,.int k3 c]:=by
 cases h with
 |cons _ _ _ _ h1 h=>
  cases h with
  |cons _ _ _ _ h2 h=>
   cases h with
   |cons _ _ _ _ h3 h=>
    cases h;rw [h1.int_inv,h2.int_inv,h3.int_inv]
theorem ZW {f:FuncId} {fn:Func} (hf:P.funcs[f]? =some fn) (hname:(fn.name== "runtime.NumGoroutine")=false) (hb:fn.body.isNone=true) (hn:Extern.findNext fn=none) (he:Extern.find fn=some add64Entry):TJ P f HA:=by
 intro args v news hp im w us hsr hus;unfold HA at hp;split at hp
 · rename_i a b c
   split at hp
   · rename_i hc
     have hc:c<=1:=by simpa using hc
     simp only [bq,ce] at hp;obtain ⟨rfl,rfl⟩:=hp;obtain rfl:=ZV hus;refine .inl ⟨_,w,?_,im,iD,ZU hsr (.tup _ [.int .u64 (((a:Int)+b+c)%18446744073709551616),.int .u64 (((a:Int)+b+c) / 18446744073709551616)] (.cons _ _ _ _ ?_ (.cons _ _ _ _ ?_ .nil)))⟩
     · rw [run_callFunc_extern hf hname hb hn he]
       have:=run_add64 (P:=P) (a:Int) b c (by omega) (by omega) (by omega) (by omega) w
       simp only [dw];rw [this];rfl
     · have:fj ((a+b+c)%18446744073709551616)=((a:Int)+b+c)%18446744073709551616:=by
        simp only [dw];omega
       rw [this];exact .int _ _
     have:fj ((a+b+c) / 18446744073709551616)=((a:Int)+b+c) / 18446744073709551616:=by
      simp only [dw];omega
     rw [this];exact .int _ _
   cases hp
 cases hp
def xcA (esz:Nat):mL:= .region none [⟨some 2,.mov (.c (.sl esz true [])),none⟩] [0]
def xcN (esz:Nat):mL:= .seq (.region none [⟨some 2,.mov (.c (.sl esz true [])),none⟩] [2]) .ret
def xcC (esz:Nat) (zero:qJ):mL:= .seq (.region none [⟨some 5,.mkrow esz 0 zero [],none⟩,⟨some 6,.mov (.t 0),none⟩,⟨some 7,.append esz (.t 5) (.t 6),none⟩,⟨some 2,.mov (.t 7),none⟩] [2]) .ret
def aD0 (P:Program) (o:Oper):Bool:=
 o.guard.isNone&&o.dst==some 4&&(match o.op with
  | .binOp .eql t x (.const (.slice none 0 0)) _=>bK (.t 3) x&&xW P t
  |_=>false)
def WC (P:Program) (esz:Nat) (zero:qJ) (f:FuncId):Bool:=
 match P.funcs[f]? with
 |some fn=>!(fn.name== "runtime.NumGoroutine")&&dt 7 fn.ntmps&&tL P [.tmp 2] fn.results.toList&&(match fn.body with
  |some (.seq a (.seq (.seq (.region _ ops false) (.cond c n .skip)) r))=>
   iM P (fun _=>true) fn.ntmps (xcA esz) a&&iM P (fun _=>true) fn.ntmps (xcN esz) n&&iM P (fun _=>true) fn.ntmps (xcC esz zero) r&&bK (.t 4) c&&
    (match ops.toList with
    | [o1,o2]=>xD P (fun _=>true) fn.ntmps ops ⟨some 3,.mov (.t 0),none⟩ o1&&aD0 P o2
    |_=>false)
  |_=>false)
 |none=>false
theorem aGi:TL P (fun _=>none) (fun _=>none):=⟨(fun _ _args _sto _fz _v _sto' _fz' h=>(by cases h)),⟨(fun _ _k _p h=>(by cases h)),(fun _ _p h=>(by cases h))⟩⟩
theorem aBh {prims:FuncId->Bool}:KP P prims (fun _=>none):=fun _ _x _st _e _st' h=>(by cases h)
theorem qL (hmix:P.follows .mixedOrders=true) {esz:Nat} {zero:qJ} {f:FuncId} (hc:WC P esz zero f=true):TJ P f (gI esz):=by
 intro args v news hp im w us hsr hus;unfold WC at hc;cases hf:P.funcs[f]? with
 |none=>rw [hf] at hc;cases hc
 |some fn=>
  rw [hf] at hc;simp only [bn,ck] at hc;obtain ⟨⟨⟨hname,hnt⟩,hres⟩,hbody⟩:=hc;have hnt:7<fn.ntmps:=by simpa using hnt
  split at hbody
  · rename_i ca id ops cc cn cr hb
    simp only [bn] at hbody;obtain ⟨⟨⟨⟨hA,hN⟩,hC⟩,hcc⟩,hops⟩:=hbody;split at hops
    · rename_i o1 o2 hl
      simp only [bn] at hops;obtain ⟨ho1,ho2⟩:=hops;have harg: ∃e c rows,args=[.sl e c rows]:=by
       unfold gI at hp;split at hp
       · exact ⟨_,_,_,rfl⟩
       cases hp
      obtain ⟨e,cl,rows,rfl⟩:=harg;obtain ⟨u,rfl⟩: ∃u,us=[u]:=by
       cases hus with
       |cons _ u _ us h1 h2=>cases h2;exact ⟨u,rfl⟩
      refine .inr ⟨jX hf hname hb,calls_of_wp hf hb ?_⟩
      let st0:St:={env:=[(0,.sl e cl rows)],sto:=[],fz:=[],kn:=0}
      let a0:Act:={tmps:=(⟨[u]⟩:Array Value)++df (fn.ntmps- (⟨[u]⟩:Array Value).size) Go.undef,defers:=[]}
      have hat0:At im iD [] w fn.ntmps st0 a0 w:=by
       refine ⟨im,iD,⟨⟨hsr,.refl _,.refl _,rfl,rfl,rfl,cd _,fun _ _ _=>rfl,fun _ _ h=> .inl h,fun _ _ h=> .inl h,fun t li k hl=>by cases hl⟩,rfl,cd _,fun t li hl=>by cases hl⟩,⟨RM hus _,rfl,?_⟩⟩
       simp only [a0,fv,fa];show 1+(fn.ntmps-1)=_;omega
      have fin: ∀(st:St) (v':PV),lk 2 st.env=v'-> ∀a' w',At im iD [] w fn.ntmps st a' w'->
       a'.defers=[]/\ ∃u,(results fn a'.tmps).run P w'= .ok u w'/\ ∃v'':Value,Ending.returned u= .returned v''/\ ∃im' loc',BD im iD [] w v' st.sto st.fz im' loc' w' v'':=by
       intro st v' hv' a' w' hat
       obtain ⟨im',loc',hk,hact⟩:=hat.ex;obtain ⟨u,hu,hvr⟩:=N4 (P:=P) (fn:=fn) hk.kept.sr hact.env hres (vs:=[v']) (by simp [rV,NI,hv'])
       have K:=hk.kept;exact ⟨hact.defers,u,hu,u,rfl,im',loc',⟨K.imle,K.locle,hvr,K.sr,K.os,K.tape,K.output,K.size,K.frame,K.imnew,K.locs,K.own⟩⟩
      refine wp_seq ?_;refine nH aGi aBh hmix (xcA esz) _ st0 .normal {env:=[(0,.sl e cl rows)],sto:=[],fz:=[],kn:=0} hA rfl a0 w hat0 _ fun a1 w1 hat1=>?_
      refine wp_seq (wp_seq ?_);refine wp_region ?_;have hops2:ops= #[o1,o2]:=ga (by simpa using hl)
      subst hops2;obtain ⟨im1,loc1,hk1,hact1⟩:=hat1.ex;have hx0:=hact1.env 0;have hx0:VR im1 loc1 (.sl e cl rows) (a1.tmps.getD 0 Go.undef):=hx0;obtain ⟨ad,cap,hu0,hcap,hck,hrows⟩:=hx0.sl_inv;unfold xD at ho1;simp only [bn,beq_iff_eq] at ho1;obtain ⟨⟨⟨hd1,_⟩,hg1⟩,hop1⟩:=ho1;have hg1':o1.guard=none:=by
       cases hg:o1.guard with
       |none=>rfl
       |some q=>rw [hg] at hg1;simp [BE] at hg1
      have hop1': ∃x,(o1.op= .move x\/o1.op= .assign x)/\bK (.t 0) x=true:=by
       cases ho:o1.op<;>rw [ho] at hop1<;>simp only [DN] at hop1<;>first|exact ⟨_,.inl rfl,hop1⟩|exact ⟨_,.inr rfl,hop1⟩|simp at hop1
      obtain ⟨x1,hx1,hcx1⟩:=hop1';have hx1':a1.eval x1= .slice ad rows.length cap:=by
       have h:=ZP (a:=a1) (e:=[(0,PV.sl e cl rows)]) (.t 0) (fun t ht=>by injection ht with ht;subst ht;exact hact1.env 0) x1 hcx1
       cases x1 with
       |tmp t=>
        have:(0:Nat)=t:=by simpa [bK] using hcx1
        subst this;simpa [Act.eval] using hu0
       |_=>simp [bK] at hcx1
      have hrun1:(execOp a1.eval o1).run P w1= .ok (.value (.slice ad rows.length cap)) w1:=by
       rcases hx1 with h|h<;>simp [execOp,h,hx1']
      unfold aD0 at ho2;simp only [bn,beq_iff_eq,Option.isNone_iff_eq_none] at ho2;obtain ⟨⟨hg2,hd2⟩,hop2⟩:=ho2;split at hop2
      case h_2=>cases hop2
      rename_i ty x2 ub hop2e;simp only [bn] at hop2;obtain ⟨hx2,hst⟩:=hop2;have hx2':x2= .tmp 3:=by
       cases x2 with
       |tmp t=>
        have:(3:Nat)=t:=by simpa [bK] using hx2
        subst this;rfl
       |_=>simp [bK] at hx2
      subst hx2';unfold xW at hst;split at hst
      case h_2=>cases hst
      rename_i el hty;have hsz1:a1.tmps.size=fn.ntmps:=hact1.nts
      let a2:Act:=a1.put (some 3) (.slice ad rows.length cap)
      have ha2:a2.tmps.getD 3 Go.undef= .slice ad rows.length cap:=by
       simp only [a2,Act.put,cy];rw [de (by omega)];rfl
      have hrun2:(execOp a2.eval o2).run P w1= .ok (.value (.bool ad.isNone)) w1:=by
       simp only [execOp,hop2e];refine fM ?_;have e3:a2.eval (.tmp 3)= .slice ad rows.length cap:=by simpa [Act.eval] using ha2
       rw [e3];have hg:(eqGuard .eql ty (.tmp 3) (.const (.slice none 0 0)) (.slice ad rows.length cap) (a2.eval (.const (.slice none 0 0)))).run P w1= .ok () w1:=by
        unfold eqGuard;simp
       simp only [d5,hg,d9];exact Lib.run_eql_slice_nil w1 ty el ad rows.length cap 0 0 hty
      let a3:Act:=a2.put (some 4) (.bool ad.isNone)
      have hat3:At im iD [] w fn.ntmps {env:=[(0,.sl e cl rows)],sto:=[],fz:=[],kn:=0} a3 w1:=by
       refine ⟨im1,loc1,hk1,⟨fun t=>?_,hact1.defers,by simp [a3,a2,Act.put,hsz1]⟩⟩
       have h:=hact1.env t;simp only [xC] at h ⊢
       by_cases ht:t=0
       · subst ht
         simp only [if_true] at h ⊢;simpa [a3,a2,Act.put,cw] using h
       rw [if_neg (fun e=>ht e.symm)];exact .undef _
      have ha3:a3.eval cc= .bool ad.isNone:=by
       cases cc with
       |tmp t=>
        have:(4:Nat)=t:=by simpa [bK] using hcc
        subst this;simp only [Act.eval,a3,Act.put,cy];rw [de (by simp [a2,Act.put];omega)];rfl
       |_=>simp [bK] at hcc
      have hrange:List.range #[o1,o2].size=[0,1]:=rfl;rw [hrange];simp only [wpOps];have e0:(#[o1,o2]:Array Oper)[0]? =some o1:=rfl;have e1:(#[o1,o2]:Array Oper)[1]? =some o2:=rfl;rw [e0];dsimp only;have hw1:Region.wanted o1 (yielded #[o1,o2] a1.tmps)=true:=by unfold Region.wanted;rw [hg1']
      rw [hw1,if_pos rfl];refine .inl ?_;unfold Oper.wp;rw [hrun1,Oper.upon_value,<- hd1,e1];dsimp only;have hw2:Region.wanted o2 (yielded #[o1,o2] (a1.put (some 3) (.slice ad rows.length cap)).tmps)=true:=by unfold Region.wanted;rw [hg2]
      rw [hw2,if_pos rfl];refine .inl ?_;rw [show a1.put (some 3) (.slice ad rows.length cap)=a2 from rfl,hrun2,Oper.upon_value,hd2];show (Code.cond cc cn .skip).wp P _ a3 w1;cases had:ad with
      |none=>
       have hnil:rows=[]:=by
        rcases rows with _|⟨r,rs⟩
        · rfl
        obtain ⟨b,o,h,_⟩:=hrows (by simp)
        rw [had] at h;cases h
       subst hnil;simp only [gI,bq,ce] at hp;obtain ⟨rfl,rfl⟩:=hp;refine wp_cond_true (by rw [ha3,had];rfl) ?_
       refine nH aGi aBh hmix (xcN esz) _ _ .ret {env:=[(2,.sl esz true [])],sto:=[],fz:=[],kn:=0} hN rfl a3 w1 hat3 _ fun a4 w4 hat4=>?_
       obtain ⟨hdf,u',hu',v'',hv'',im',loc',hf'⟩:=fin _ _ rfl a4 w4 hat4;refine ⟨hdf,u',hu',v'',hv'',im',loc'.set 1 ⟨0,0,esz,0,0⟩,?_⟩;have hnone: ∀t,loc' t=none:=fun t=>by
        cases hl:loc' t with
        |none=>rfl
        |some li=>obtain ⟨k,hk,_⟩:=hf'.sr.blk t li hl;simp at hk
       obtain ⟨ad',cap',hv3,_,hck',_⟩:=hf'.vr.sl_inv;have hc0:cap'=0:=by simpa using hck' rfl
       subst hc0;exact {
        imle:=hf'.imle,locle:=fun t li h=>by cases h
        vr:=by rw [hv3];exact .own 1 esz 0 0 0 false ⟨0,0,esz,0,0⟩ ad' 0 (dN.set_same _ _ _) rfl (cd _) (cd _) (cd _) (fun h=>by cases h) (.inl rfl)
        sr:={
         im_ok:=hf'.sr.im_ok
         blk:=fun t li h=>by
          unfold dN.set at h;split at h
          · rename_i ht;subst ht;injection h with h;subst h
            exact ⟨_,rfl,rfl,rfl,fun h=>absurd rfl h⟩
          rw [hnone t] at h;cases h
         excl:=fun t u li lj k k' h h' hs hs' hso=>by
          unfold dN.set at h;split at h
          · rename_i ht;subst ht;simp at hs;subst hs;cases hso
          rw [hnone t] at h;cases h
         free:=fun t li k h hs hso=>by
          unfold dN.set at h;split at h
          · rename_i ht;subst ht;simp at hs;subst hs;cases hso
          rw [hnone t] at h;cases h}
        os:=hf'.os,tape:=hf'.tape,output:=hf'.output,size:=hf'.size,frame:=hf'.frame,imnew:=hf'.imnew
        locs:=fun t li h=> .inr (c7 _)
        own:=fun t li k h hs hso=>by
         unfold dN.set at h;split at h
         · rename_i ht;subst ht;simp at hs;subst hs;cases hso
         rw [hnone t] at h;cases h}
      |some ad'=>
       refine wp_cond_false (by rw [ha3,had];rfl) (wp_skip ?_)
       rcases rows with _|⟨r,rs⟩
       · simp only [gI,bq,ce] at hp
         obtain ⟨rfl,rfl⟩:=hp;exact nH aGi aBh hmix (xcC esz zero) _ _ .ret {env:=[(2,.own 1 esz 0 0 0 false)],sto:=[.arr esz [],.arr esz []],fz:=[],kn:=0} hC rfl a3 w1 hat3 _ fun a4 w4 hat4=>fin _ _ rfl a4 w4 hat4
       simp only [gI] at hp
       split at hp
       case isFalse=>cases hp
       rename_i hcond;simp only [bn,fo,dm] at hcond;obtain ⟨rfl,hmost⟩:=hcond;simp only [bq,ce] at hp;obtain ⟨rfl,rfl⟩:=hp;have hap:kT [.arr e []] [] e (.own 0 e 0 0 0 true) (.sl e cl (r::rs))=some {v:= .own 1 e 0 (0+(rs.length+1)) (0+(rs.length+1)) false,news:=[.arr e (r::rs)],rd:=[0]}:=by
        have h1:bu e e=true:=by simp
        have h2:cz (rs.length+1) 0=false:=rfl;have h3:cz (0+(rs.length+1)) most=true:=by simpa using hmost
        simp only [kT,rS,h1,if_true];simp [h2,hmost,kS]
       refine nH aGi aBh hmix (xcC e zero) _ _ .ret {env:=[(2,.own 1 e 0 (0+(rs.length+1)) (0+(rs.length+1)) false)],sto:=[.arr e [],.arr e (r::rs)],fz:=[],kn:=0} hC ?_ a3 w1 hat3 _ fun a4 w4 hat4=>fin _ _ rfl a4 w4 hat4
       simp only [xcC,zH,oE,pN,wanted,DL,bM,gH.ev,lk];simp [vI,XR.ok,B1,XR.next,kM,VM,hZ,lk,hap]
    cases hops
  cases hbody
end
end Go.Vm
/- slices.Insert of one row: what it leaves of the memory. -/
namespace Go.Vm
section
variable {P : Program} {im im' : Im} {loc loc' : dN} {sto : cV} {fz : List Nat} {w w' : World}
theorem uI (w:World) (dT sT ty el:TypeId) (esz g o dLen dCap:Nat) (a:Addr) (sLen sCap:Nat) (cur:Array Value) (t:TypeId) (cs:List Value)
 (hu:P.underlying dT=some (.slice el)) (hs:(P.info? el).map (·.size)=some esz)
 (hg:w.heap[g]? =some (.cells cur t (0,0))) (hn:Nat.min sLen dLen*esz=cs.length)
 (hsrc: ∀j v,cs[j]? =some v->w.cell? (a.add j)=some v) (hfit:o+cs.length<=cur.size) (h1: ∀v∈cs,v.oneCell'=true):
 (Builtin.copy_ #[dT,sT] ty #[.slice (some ⟨g,o,none⟩) dLen dCap,.slice (some a) sLen sCap]).run P w=
  .ok (goInt (Nat.min sLen dLen)) (w.setRow g (spl o cs cur.toList).toArray):=by
 have hl:=run_loadCells_list (P:=P) w a cs hsrc;have hst:=run_storeCells_at P g o t cs 0 cur w hg (by simpa using hfit) h1
 cases hq:P.info? el with
 |none=>simp [hq] at hs
 |some i=>
  have hi:i.size=esz:=by simpa [hq] using hs
  simp [Builtin.copy_,run_underlying hu,Builtin.lenOf,Builtin.firstCells,sizeOf,typeInfo,hq,hi,hn,hl,hst,spl]
theorem BR.keep {li:LI} {k:mK} (h:BR im loc w li k) (hi:rX im im') (hl:pK loc loc') (hw:k.solid=true->w'.heap[li.blk]? =w.heap[li.blk]?):BR im' loc' w' li k:=by
 cases hs:k.solid with
 |true=>exact h.mono hi hl (hw hs)
 |false=>
  cases k with
  |arr e rows=>
   cases rows with
   |nil=>exact ⟨h.1,h.2.1,fun hne=>absurd rfl hne⟩
   |cons r rs=>cases hs
  |box cs=>cases hs
  |map es=>cases hs
  |dead=>trivial
theorem FP {r:rT} {t:Nat} {u:Value} (hsr:SR im loc sto fz w) (he:zL im loc sto w r im' loc' w') (hfr:r.fr=[]) (hw:r.wr=[(t,.dead)]) (ht:t<sto.length) (hv:VR im' loc' r.v u):
 BD im loc sto w r.v (sto.set t .dead++r.news) fz im' loc' w' u:=by
 have hlen:(sto.set t .dead).length=sto.length:=by simp
 have old: ∀t' li,loc t'=some li->t'<sto.length:=fun t' li h=>by
  obtain ⟨k,hk,_⟩:=hsr.blk t' li h;exact (bv.1 hk).1
 have oldk: ∀t' li k,loc t'=some li->(sto.set t .dead++r.news)[t']? =some k->k.solid=true->t'≠t/\sto[t']? =some k:=by
  intro t' li k h hk hs;have hlt:=old t' li h;rw [bw (by omega),fu] at hk
  split at hk
  · first|(injection hk with hk;subst hk;cases hs)|(split at hk<;>first|(injection hk with hk;subst hk;cases hs)|cases hk)
  rename_i hne;exact ⟨fun e=>hne e.symm,hk⟩
 have newk: ∀t' k,sto.length<=t'->(sto.set t .dead++r.news)[t']? =some k->r.news[t'-sto.length]? =some k:=by
  intro t' k h hk
  rwa [cf (by omega),hlen] at hk
 have isnew: ∀t' li,loc' t'=some li->loc t'=some li\/(sto.length<=t'/\t'=sto.length+(t'-sto.length)):=by
  intro t' li h;rcases he.locnew t' li h with h|⟨h,_⟩
  · exact .inl h
  exact .inr ⟨h,by omega⟩
 have imn: ∀b o,im' b=some o->im b=some o\/w.heap.size<=b:=by
  intro b o h;rcases he.imnew b o h with h|h|⟨t0,li,k,h,_⟩
  · exact .inl h
  · exact .inr h
  rw [hfr] at h;cases h
 have keepb: ∀t' li k,loc t'=some li->sto[t']? =some k->t'≠t->k.solid=true->BR im loc w li k->w'.heap[li.blk]? =w.heap[li.blk]?:=by
  intro t' li k hl hk hne hs hb;refine he.frame li.blk (hb.lt hs) fun t0 k1 l0 k0 hm hl0 hk0 hs0 e=>?_
  rw [hw] at hm;obtain ⟨rfl,rfl⟩:t0=t/\k1= .dead:=by simpa using hm
  exact hne (hsr.excl _ _ _ _ _ _ hl hl0 hk hk0 hs hs0 e.symm)
 have newb: ∀t' li k,loc' t'=some li->sto.length<=t'->r.news[t'-sto.length]? =some k->BR im' loc' w' li k/\
  (k.solid=true->im' li.blk=none/\(w.heap.size<=li.blk\/ ∃lt k0,loc t=some lt/\sto[t]? =some k0/\k0.solid=true/\lt.blk=li.blk)):=by
  intro t' li k hl hle hk;obtain ⟨h1,h2⟩:=he.news (t'-sto.length) k li hk (by rw [show sto.length+(t'-sto.length)=t' by omega];exact hl)
  refine ⟨h1,fun hs=>⟨(h2 hs).1,?_⟩⟩
  rcases (h2 hs).2 with h|⟨t0,lt,k0,hm,a,b,c,d⟩
  · exact .inl h
  rw [hw] at hm
  obtain rfl:t0=t:=by have:=c9.1 hm;injection this
  exact .inr ⟨lt,k0,a,b,c,d⟩
 have apart: ∀t1 u1 li lj k k',loc t1=some li->t1≠t->sto[t1]? =some k->k.solid=true->loc' u1=some lj->sto.length<=u1->r.news[u1-sto.length]? =some k'->k'.solid=true->li.blk≠lj.blk:=by
  intro t1 u1 li lj k k' hl hne hk hs hl' hle hk' hs' e;obtain ⟨k2,hk2,hb⟩:=hsr.blk t1 li hl;rw [hk] at hk2;injection hk2 with hk2;subst hk2;rcases ((newb u1 lj k' hl' hle hk').2 hs').2 with h|⟨lt,k0,a,b,c,d⟩
  · have:=hb.lt hs;omega
  exact hne (hsr.excl _ _ _ _ _ _ hl a hk b hs c (by rw [e,d]))
 exact {
  imle:=he.imle,locle:=he.locle,vr:=hv
  sr:={
   im_ok:=he.im_ok
   blk:=fun t' li h=>by
    rcases isnew t' li h with ho|⟨hle,_⟩
    · obtain ⟨k,hk,hb⟩:=hsr.blk t' li ho
      have hlt:=old t' li ho
      by_cases e:t'=t
      · subst e
        exact ⟨.dead,by rw [bw (by omega),List.getElem?_set_self (by omega)],trivial⟩
      refine ⟨k,by rw [bw (by omega),ew (fun x=>e x.symm)];exact hk,hb.keep he.imle he.locle fun hs=>keepb t' li k ho hk e hs hb⟩
    have hn:t'-sto.length<r.news.length:=by
     rcases he.locnew t' li h with ho|⟨_,h2⟩
     · have:=old t' li ho;omega
     omega
    obtain ⟨hb,_⟩:=newb t' li _ h hle (bo hn);exact ⟨_,by rw [cf (by omega),hlen];exact bo hn,hb⟩
   excl:=fun t1 u1 li lj k k' hl hl' hk hk' hs hs' e=>by
    rcases isnew t1 li hl with h1|⟨h1,_⟩<;>rcases isnew u1 lj hl' with h2|⟨h2,_⟩
    · obtain ⟨n1,e1⟩:=oldk _ _ _ h1 hk hs
      obtain ⟨n2,e2⟩:=oldk _ _ _ h2 hk' hs';exact hsr.excl _ _ _ _ _ _ h1 h2 e1 e2 hs hs' e
    · obtain ⟨n1,e1⟩:=oldk _ _ _ h1 hk hs
      exact absurd e (apart _ _ _ _ _ _ h1 n1 e1 hs hl' h2 (newk _ _ h2 hk') hs')
    · obtain ⟨n2,e2⟩:=oldk _ _ _ h2 hk' hs'
      exact absurd e.symm (apart _ _ _ _ _ _ h2 n2 e2 hs' hl h1 (newk _ _ h1 hk) hs)
    have:=he.distinct (t1-sto.length) (u1-sto.length) k k' li lj (newk _ _ h1 hk) (newk _ _ h2 hk') hs hs' (by rw [show sto.length+(t1-sto.length)=t1 by omega];exact hl) (by rw [show sto.length+(u1-sto.length)=u1 by omega];exact hl') e
    omega
   free:=fun t' li k hl hk hs hz=>by
    rcases isnew t' li hl with h1|⟨h1,_⟩
    · obtain ⟨n1,e1⟩:=oldk _ _ _ h1 hk hs
      obtain ⟨k2,hk2,hb⟩:=hsr.blk t' li h1;rw [e1] at hk2;injection hk2 with hk2;subst hk2;have h0:=hsr.free t' li k h1 e1 hs hz;cases hi:im' li.blk with
      |none=>rfl
      |some o=>
       rcases imn _ _ hi with h|h
       · rw [h0] at h;cases h
       have:=hb.lt hs;omega
    exact ((newb t' li k hl h1 (newk _ _ h1 hk)).2 hs).1}
  os:=he.os,tape:=he.tape,output:=he.output,size:=he.size
  frame:=fun b hb h=>he.frame b hb fun t0 k li k0 hm hl hk hs=>h t0 li k0 hl hk hs
  imnew:=fun b o h=>by
   rcases imn b o h with h|h
   · exact .inl h
   exact .inr (.inl h)
  locs:=fun t' li h=>by
   rcases isnew t' li h with h|⟨h,_⟩
   · exact .inl h
   exact .inr h
  own:=fun t' li k hl hk hs=>by
   rcases isnew t' li hl with h1|⟨h1,_⟩
   · obtain ⟨n1,e1⟩:=oldk _ _ _ h1 hk hs
     exact .inr ⟨t',li,k,h1,e1,hs,rfl⟩
   rcases ((newb t' li k hl h1 (newk _ _ h1 hk)).2 hs).2 with h|⟨lt,k0,a,b,c,d⟩
   · exact .inl h
   exact .inr ⟨t,lt,k0,a,b,c,d⟩}
theorem SR.next_free (h:SR im loc sto fz w):loc sto.length=none:=by
 cases hl:loc sto.length with
 |none=>rfl
 |some li=>obtain ⟨k,hk,_⟩:=h.blk _ _ hl;simp at hk
theorem aCU {t e:Nat} {li:LI} {rows L:List qJ} {arr fin:Array Value} {el:TypeId} (hsr:SR im loc sto fz w) (hl:loc t=some li) (hst:sto[t]? =some (.arr e rows)) (hne:rows≠[]) (hf:has fz t=false)
 (ha:w.heap[li.blk]? =some (.cells arr el (0,0))) (hh:w'.heap=w.heap.setIfInBounds li.blk (.cells fin el (0,0))) (ho:w'.os=w.os) (ht:w'.tape=w.tape) (hp:w'.output=w.output)
 (hsz:fin.size=li.sz) (hfit:li.sh+L.length*e<=li.sz) (hr:bT (fun k=>fin[k]?) li.sh e L):
 zL im loc sto w {v:= .own sto.length e 0 L.length L.length false,news:=[.arr e L],wr:=[(t,.dead)]} im (loc.set sto.length ⟨li.blk,li.sh,e,L.length,li.sz⟩) w':=by
 have hlt:=(ci.1 ha).1;have hsolid:(mK.arr e rows).solid=true:=qV hne;have hfree:=hsr.free t li _ hl hst hsolid hf;have hfr0:=hsr.next_free;exact {
  imle:= .refl _,locle:=dN.le_set _ hfr0
  im_ok:=fun b o hb=>by
   have h1:=hsr.im_ok b o hb;have hne2:li.blk≠b:=fun e=>by rw [e,hb] at hfree;cases hfree
   rw [hh,cw,if_neg hne2];exact h1
  imnew:=fun _ _ h=> .inl h,os:=ho,tape:=ht,output:=hp
  size:=by rw [hh];simp
  wrs:=fun t' k hm hs=>by
   obtain ⟨rfl,rfl⟩:t'=t/\k= .dead:=by simpa using hm
   cases hs
  frame:=fun b _ hb=>by
   have hne2:=hb t .dead li _ (c9.2 rfl) hl hst hsolid;rw [hh,cw,if_neg hne2]
  wr:=fun t' k li hm hl'=>by
   obtain ⟨rfl,rfl⟩:t'=t/\k= .dead:=by simpa using hm
   trivial
  locnew:=fun t' l h=>by
   unfold dN.set at h;split at h
   · rename_i e;subst e;exact .inr ⟨cd _,by simp⟩
   exact .inl h
  news:=KG fun j k hj=>by
   cases j with
   |zero=>
    simp at hj;subst hj;refine ⟨_,dN.set_same _ _ _,⟨rfl,rfl,fun _=>⟨fin,el,by rw [hh];simp [hlt],hsz,hfit,hr⟩⟩,fun _=>⟨hfree,.inr ⟨t,li,_,c9.2 rfl,hl,hst,hsolid,rfl⟩⟩⟩
   |succ j=>simp at hj
  distinct:=fun i j ki kj li lj h1 h2 _ _ _ _ _=>by
   cases i<;>cases j<;>simp at h1 h2<;>rfl}
theorem RN {t e:Nat} {L:List qJ} {fin:Array Value} {el:TypeId} (hsr:SR im loc sto fz w)
 (hh:w'.heap=w.heap.push (.cells fin el (0,0))) (ho:w'.os=w.os) (ht:w'.tape=w.tape) (hp:w'.output=w.output)
 (hfit:L.length*e<=fin.size) (hr:bT (fun k=>fin[k]?) 0 e L):
 zL im loc sto w {v:= .own sto.length e 0 L.length L.length false,news:=[.arr e L],wr:=[(t,.dead)]} im (loc.set sto.length ⟨w.heap.size,0,e,L.length,fin.size⟩) w':=by
 have hfr0:=hsr.next_free;have old: ∀b,b<w.heap.size->w'.heap[b]? =w.heap[b]?:=fun b hb=>by rw [hh,Array.getElem?_push,if_neg (by omega)]
 have hlt: ∀b o,im b=some o->b<w.heap.size:=fun b o h=>(ci.1 (hsr.im_ok b o h)).1
 exact {
  imle:= .refl _,locle:=dN.le_set _ hfr0
  im_ok:=fun b o hb=>by rw [old b (hlt b o hb)];exact hsr.im_ok b o hb
  imnew:=fun _ _ h=> .inl h,os:=ho,tape:=ht,output:=hp
  size:=by rw [hh];simp
  wrs:=fun t' k hm hs=>by
   obtain ⟨rfl,rfl⟩:t'=t/\k= .dead:=by simpa using hm
   cases hs
  frame:=fun b hb _=>old b hb
  wr:=fun t' k li hm hl'=>by
   obtain ⟨rfl,rfl⟩:t'=t/\k= .dead:=by simpa using hm
   trivial
  locnew:=fun t' l h=>by
   unfold dN.set at h;split at h
   · rename_i e;subst e;exact .inr ⟨cd _,by simp⟩
   exact .inl h
  news:=KG fun j k hj=>by
   cases j with
   |zero=>
    simp at hj;subst hj;refine ⟨_,dN.set_same _ _ _,⟨rfl,rfl,fun _=>⟨fin,el,by rw [hh];simp,rfl,by simpa using hfit,hr⟩⟩,fun _=>⟨?_,.inl (cd _)⟩⟩
    cases hi:im w.heap.size with
    |none=>rfl
    |some o=>have:=hlt _ _ hi;omega
   |succ j=>simp at hj
  distinct:=fun i j ki kj li lj h1 h2 _ _ _ _ _=>by
   cases i<;>cases j<;>simp at h1 h2<;>rfl}
theorem RO {esz:Nat}: ∀{rows:List qJ} (_: ∀r∈rows,r.length=esz) (i:Nat),(rows.take i).flatMap aV=(rows.flatMap aV).take (i*esz)
 | [],_,i=>by simp
 |r::rs,h,0=>by simp
 |r::rs,h,i+1=>by
  have hr:(aV r).length=esz:=by rw [oG];exact h r (by simp)
  have e1:(aV r).take ((i+1)*esz)=aV r:=dd (by rw [hr,fb];omega)
  rw [List.take_succ_cons,eb,RO (fun x hx=>h x (by simp [hx])) i,eb,List.take_append,e1,hr,show (i+1)*esz-esz=i*esz by rw [fb];omega]
theorem RP {esz:Nat}: ∀{rows:List qJ} (_: ∀r∈rows,r.length=esz) (i:Nat),(rows.drop i).flatMap aV=(rows.flatMap aV).drop (i*esz)
 | [],_,i=>by simp
 |r::rs,h,0=>by simp
 |r::rs,h,i+1=>by
  have hr:(aV r).length=esz:=by rw [oG];exact h r (by simp)
  have e1:(aV r).drop ((i+1)*esz)=[]:=ei (by rw [hr,fb];omega)
  rw [List.drop_succ_cons,RP (fun x hx=>h x (by simp [hx])) i,eb,List.drop_append,e1,hr,show (i+1)*esz-esz=i*esz by rw [fb];omega,List.nil_append]
theorem aGj {α:Type} {o k:Nat} {cs vs l:List α} (hl:o+(cs.length+vs.length)<=l.length) (hk:k<=cs.length) (hcs: ∀j v,j<k->cs[j]? =some v->l[o+j]? =some v):
 ∀j v,(cs.take k++vs++cs.drop k)[j]? =some v->(spl (o+k) vs (spl (o+k+vs.length) (cs.drop k) l))[o+j]? =some v:=by
 intro j v h;have hd:(cs.drop k).length=cs.length-k:=eg;have ht:(cs.take k).length=k:=by rw [eh];omega
 have l1:o+k+vs.length+(cs.drop k).length<=l.length:=by rw [hd];omega
 rw [jG _ _ _ (by rw [dG _ _ _ l1];omega)]
 rcases cp j k with h1|h1
 · rw [if_neg (by omega),jG _ _ _ l1,if_neg (by omega)]
   rw [di,bw (by omega),ec h1] at h
   exact hcs j v h1 h
 rw [di,cf (by omega),ht] at h
 rcases cp (j-k) vs.length with h2|h2
 · rw [bw h2] at h
   rw [if_pos ⟨by omega,by omega⟩,<- h]
   congr 1;omega
 rw [cf h2] at h
 have:=(bv.1 h).1
 rw [if_neg (by omega),jG _ _ _ l1,if_pos ⟨by omega,by omega⟩,<- h]
 congr 1;omega
theorem aD1 {α:Type} {k:Nat} {cs vs l:List α} (hl:cs.length+vs.length<=l.length) (hk:k<=cs.length) (hcs: ∀(j:Nat) (v:α),j<k->cs[j]? =some v->l[j]? =some v):
 ∀(j:Nat) (v:α),(cs.take k++vs++cs.drop k)[j]? =some v->(spl (k+vs.length) (cs.drop k) (spl k vs l))[j]? =some v:=by
 intro j v h;have hd:(cs.drop k).length=cs.length-k:=eg;have ht:(cs.take k).length=k:=by rw [eh];omega
 have l1:k+vs.length<=l.length:=by omega
 rw [jG _ _ _ (by rw [dG _ _ _ l1,hd];omega)]
 rcases cp j k with h1|h1
 · rw [if_neg (by omega),jG _ _ _ l1,if_neg (by omega)]
   rw [di,bw (by omega),ec h1] at h
   exact hcs j v h1 h
 rw [di,cf (by omega),ht] at h
 rcases cp (j-k) vs.length with h2|h2
 · rw [bw h2] at h
   rw [if_neg (by omega),jG _ _ _ l1,if_pos ⟨by omega,by omega⟩,<- h]
 rw [cf h2] at h
 have:=(bv.1 h).1
 rw [if_pos ⟨by omega,by omega⟩,<- h]
 congr 1;omega
theorem SR.knownKill (h:SR im loc sto fz w) {t:Nat} (hf:has fz t=false) {r:rT} (hw:r.wr=[(t,.dead)]):lI im loc sto w r where
 im_ok:=h.im_ok
 tok:=fun t _ li hl=>h.blk t li hl
 free:=fun t' k hm li k' hl hk hs=>by
  rw [hw] at hm;obtain rfl:t'=t:=by have:=c9.1 hm;injection this
  exact h.free t' li k' hl hk hs hf
 fresh:=fun j hj=>by
  cases hl:loc (sto.length+j) with
  |none=>rfl
  |some li=>obtain ⟨k,hk,_⟩:=h.blk _ _ hl;rw [List.getElem?_eq_none (by omega)] at hk;cases hk
 excl:=fun t u li lj k k' _ _=>h.excl t u li lj k k'
structure WD (P:Program) (f:FuncId) (e:Nat) (tS:TypeId):Prop where
 ends: ∀(base:Option Addr) (n c vb voff vc:Nat) (w w':World) (v':Value),n<=c->(Builtin.append_ #[tS,tS] tS #[.slice base n c,.slice (some ⟨vb,voff,none⟩) 1 vc]).run P w= .ok v' w'->
  Calls P f #[.slice base n c,.int .i64 n,.slice (some ⟨vb,voff,none⟩) 1 vc] w fun e W=>e= .returned v'/\W=w'
 room: ∀(b off n c i vb voff vc:Nat) (cs vs:List Value) (arr av:Array Value) (el ev:TypeId) (w:World),i<n->n+1<=c->n<=1048576->vb≠b->w.heap[b]? =some (.cells arr el (0,0))->w.heap[vb]? =some (.cells av ev (0,0))->
  off+(n+1)*e<=arr.size->cs.length=n*e->vs.length=e->(∀(j:Nat) (v:Value),cs[j]? =some v->arr[off+j]? =some v)->(∀(j:Nat) (v:Value),vs[j]? =some v->av[voff+j]? =some v)->(∀v∈cs,v.oneCell'=true)->(∀v∈vs,v.oneCell'=true)->
  ∃fin:List Value,fin.length=arr.size/\(∀(j:Nat) (v:Value),(cs.take (i*e)++vs++cs.drop (i*e))[j]? =some v->fin[off+j]? =some v)/\
  Calls P f #[.slice (some ⟨b,off,none⟩) n c,.int .i64 i,.slice (some ⟨vb,voff,none⟩) 1 vc] w fun x w'=>
   x= .returned (.slice (some ⟨b,off,none⟩) (n+1) c)/\w'.heap=w.heap.setIfInBounds b (.cells fin.toArray el (0,0))/\w'.os=w.os/\w'.tape=w.tape/\w'.output=w.output
 full: ∀(b off n i vb voff vc:Nat) (cs vs:List Value) (w:World),i<n->n<=1048576->cs.length=n*e->vs.length=e->
  (∀(j:Nat) (v:Value),cs[j]? =some v->w.cell? ⟨b,off+j,none⟩=some v)->(∀(j:Nat) (v:Value),vs[j]? =some v->w.cell? ⟨vb,voff+j,none⟩=some v)->(∀v∈cs,v.oneCell'=true)->(∀v∈vs,v.oneCell'=true)->
  ∃(G:Nat) (fin:List Value) (el:TypeId),n+1<=G/\fin.length=G*e/\(∀(j:Nat) (v:Value),(cs.take (i*e)++vs++cs.drop (i*e))[j]? =some v->fin[j]? =some v)/\
  Calls P f #[.slice (some ⟨b,off,none⟩) n n,.int .i64 i,.slice (some ⟨vb,voff,none⟩) 1 vc] w fun x w'=>
   x= .returned (.slice (some ⟨w.heap.size,0,none⟩) (n+1) G)/\w'.heap=w.heap.push (.cells fin.toArray el (0,0))/\w'.os=w.os/\w'.tape=w.tape/\w'.output=w.output
theorem IT.ins {f:FuncId} {e:Nat} {tS tE:TypeId} {fn:Func} {c:Code} {i0:TypeInfo} {z:Value} (hf:P.funcs[f]? =some fn) (hname:(fn.name== "runtime.NumGoroutine")=false) (hb:fn.body=some c)
 (ht:P.underlying tS=some (.slice tE)) (hi:P.info? tE=some i0) (hsz:i0.size=e) (hz:i0.zero=some z) (hzs:z.cells.size=e) (hby:i0.bytes<=1048576) (he0:0<e) (H:WD P f e tS):IT P f (TB e):=by
 refine ⟨fn,c,hf,hname,hb,?_⟩;intro args sto fz v sto' fz' hp im loc w us hsr hus;unfold TB at hp;split at hp
 case h_2=>cases hp
 rename_i t e1 off len cap ex i u e2 off2 len2 cap2 ex2;split at hp
 case h_2=>cases hp
 rename_i e3 rows e4 new hst hsu;split at hp
 case isFalse=>cases hp
 rename_i hc;simp only [bn,fo,ck,decide_eq_true_eq,dm] at hc;obtain ⟨⟨⟨⟨⟨⟨⟨⟨⟨⟨⟨q1,q2⟩,rfl⟩,rfl⟩,hlen⟩,rfl⟩,hnew⟩,htu⟩,hfz⟩,hi0⟩,hil⟩,hmost⟩:=hc;have q1:=q1.symm;subst q1;have q2:=q2.symm;subst q2;have hmost:len+1<=1048576:=hmost;injection hp with hp;simp only [ce] at hp;obtain ⟨rfl,rfl,rfl⟩:=hp
 obtain ⟨k,rfl⟩: ∃k:Nat,i=(k:Int):=⟨i.toNat,by omega⟩
 simp only [Int.toNat_natCast] at hil ⊢;obtain ⟨x0,us1,rfl,hx0,hus⟩: ∃x0 us1,us=x0::us1/\VR im loc (.own t e 0 len cap ex) x0/\VRL im loc [.int .i64 (k:Int),.own u e 0 1 cap2 ex2] us1:=by cases hus with|cons _ a _ b h1 h2=>exact ⟨a,b,rfl,h1,h2⟩
 obtain ⟨x1,us2,rfl,hx1,hus⟩: ∃x1 us2,us1=x1::us2/\VR im loc (.int .i64 (k:Int)) x1/\VRL im loc [.own u e 0 1 cap2 ex2] us2:=by cases hus with|cons _ a _ b h1 h2=>exact ⟨a,b,rfl,h1,h2⟩
 obtain ⟨x2,us3,rfl,hx2,hus⟩: ∃x2 us3,us2=x2::us3/\VR im loc (.own u e 0 1 cap2 ex2) x2/\VRL im loc [] us3:=by cases hus with|cons _ a _ b h1 h2=>exact ⟨a,b,rfl,h1,h2⟩
 obtain rfl:us3=[]:=by cases hus;rfl
 have hx1:=hx1.int_inv;subst hx1;obtain ⟨li,a,cap',rfl,hl,he,hoff,hlc,hcc,_,hadr⟩:=hx0.own_inv;obtain ⟨lj,a2,cap2',rfl,hl2,he2,hoff2,hlc2,hcc2,_,hadr2⟩:=hx2.own_inv;have htl:t<sto.length:=(bv.1 hst).1;obtain ⟨k1,hk1,hbr⟩:=hsr.blk t li hl;rw [hst] at hk1;injection hk1 with hk1;subst hk1;obtain ⟨k2,hk2,hbr2⟩:=hsr.blk u lj hl2;rw [hsu] at hk2;injection hk2 with hk2;subst hk2
 obtain ⟨b1,b2,b3⟩:=hbr;obtain ⟨d1,d2,d3⟩:=hbr2;have hnne:new≠[]:=by intro h;subst h;simp at hnew
 obtain ⟨av,ev,hv1,hv2,hv3,hvat⟩:=d3 hnne;have e34:e=e3:=by rw [<- b1,he]
 subst e34;have e44:e=e4:=by rw [<- d1,he2]
 subst e44;obtain rfl:a2=some ⟨lj.blk,lj.sh,none⟩:=by
  rcases hadr2 with h|⟨_,h,_⟩
  · omega
  simpa using h
 have hnl:=hvat.rowLen;have hnp:=hvat.plain;have hnfl:=eC hnl;rw [hnew] at hnfl;refine .inr ⟨jX hf hname hb,?_⟩;rcases cp k len with hk|hk
 ·
  have hrne:rows≠[]:=by intro h;subst h;simp at hlen;omega
  obtain ⟨arr,el,ha1,ha2,ha3,hat⟩:=b3 hrne;obtain ⟨hn0,rfl,hfit⟩:li.n≠0/\a=some ⟨li.blk,li.sh,none⟩/\li.sh+cap'*e<=li.sz:=by
   rcases hadr with h|⟨h1,h2,h3⟩
   · omega
   exact ⟨h1,by simpa using h2,by simpa using h3⟩
  have hrl:=hat.rowLen;have hrp:=hat.plain;have hfl:=eC hrl;rw [<- hlen] at hfl;obtain ⟨L,hL⟩: ∃L,L=rows.take k++new++rows.drop k:=⟨_,rfl⟩;have hLl:L.length=len+1:=by rw [hL];simp only [db,eh,eg,hnew];omega
  have hLf:L.flatMap aV=(rows.flatMap aV).take (k*e)++new.flatMap aV++(rows.flatMap aV).drop (k*e):=by
   rw [hL,dy,dy,RO hrl,RP hrl]
  have hLr: ∀r∈L,r.length=e:=by
   intro r hr;rw [hL] at hr;rcases cu.1 hr with h|h
   · rcases cu.1 h with h|h
     · exact hrl r (ff h)
     exact hnl r h
   exact hrl r (fg h)
  have hLp: ∀r∈L,∀c∈r,c.plain=true:=by
   intro r hr;rw [hL] at hr;rcases cu.1 hr with h|h
   · rcases cu.1 h with h|h
     · exact hrp r (ff h)
     exact hnp r h
   exact hrp r (fg h)
  rw [<- hL,<- hLl];have hcs: ∀j v,(rows.flatMap aV)[j]? =some v->arr[li.sh+j]? =some v:=fun j v hj=>hat.flat j v hj
  have hvs: ∀j v,(new.flatMap aV)[j]? =some v->av[lj.sh+j]? =some v:=fun j v hj=>hvat.flat j v hj
  have hmul:(len+1)*e<=cap'*e\/cap'=len:=by
   rcases cp len cap' with h|h
   · exact .inl (fh _ h)
   exact .inr (by omega)
  rcases hmul with hroom|hfull
  · have hcap1:len+1<=cap':=Nat.le_of_mul_le_mul_right hroom he0
    have hne:lj.blk≠li.blk:=fun h=>by
     have:=hsr.excl u t lj li _ _ hl2 hl hsu hst (qV hnne) (qV hrne) h
     rw [this] at htu;simp at htu
    obtain ⟨fin,f1,f2,f3⟩:=H.room li.blk li.sh len cap' k lj.blk lj.sh cap2' _ _ arr av el ev w hk hcap1 (by omega) hne ha1 hv1 (by omega) hfl (by omega) hcs hvs (rY hrp) (rY hnp)
    refine f3.mono fun x w' ⟨hx,hh,ho,htp,hpp⟩=>⟨_,hx,im,loc.set sto.length ⟨li.blk,li.sh,e,L.length,li.sz⟩,?_⟩
    have hE:=aCU (w':=w') (L:=L) hsr hl hst hrne hfz ha1 hh ho htp hpp (by simp [f1,ha2]) (by rw [hLl];omega) (bT.ofFlat hLr hLp fun j v hj=>by
     rw [hLf] at hj;simpa using f2 j v hj)
    refine FP hsr hE rfl rfl htl ?_;rw [<- hLl];exact .own _ _ 0 _ _ false ⟨li.blk,li.sh,e,L.length,li.sz⟩ _ cap' (dN.set_same _ _ _) rfl (by show 0+L.length<=L.length;omega) (cd _) (by omega) (fun h=>by cases h) (.inr ⟨by show L.length≠0;omega,by simp,by show li.sh+(0+cap')*e<=li.sz;rw [gd];exact hfit⟩)
  subst hfull
  obtain ⟨G,fin,el',g1,g2,g3,g4⟩:=H.full li.blk li.sh cap' k lj.blk lj.sh cap2' _ _ w hk (by omega) hfl (by omega) (fun j v hj=>by simp only [fx,ha1];exact hcs j v hj) (fun j v hj=>by simp only [fx,hv1];exact hvs j v hj) (rY hrp) (rY hnp)
  have hg:(cap'+1)*e<=G*e:=fh _ g1;refine g4.mono fun x w' ⟨hx,hh,ho,htp,hpp⟩=>⟨_,hx,im,loc.set sto.length ⟨w.heap.size,0,e,L.length,fin.toArray.size⟩,?_⟩
  have hE:=RN (w':=w') (t:=t) (L:=L) (e:=e) hsr hh ho htp hpp (by rw [hLl];simp [g2];omega) (bT.ofFlat hLr hLp fun j v hj=>by
   rw [hLf] at hj;simpa using g3 j v hj)
  refine FP hsr hE rfl rfl htl ?_;rw [<- hLl];exact .own _ _ 0 _ _ false ⟨w.heap.size,0,e,L.length,fin.toArray.size⟩ _ G (dN.set_same _ _ _) rfl (by show 0+L.length<=L.length;omega) (cd _) (by omega) (fun h=>by cases h) (.inr ⟨by show L.length≠0;omega,by simp,by show 0+(0+G)*e<=fin.toArray.size;simp [g2]⟩)
 ·
  obtain rfl:k=len:=by omega
  have happ:rows.take k++new++rows.drop k=rows++new:=by
   rw [dd (by omega),ei (by omega),List.append_nil]
  rw [happ];have hx0':VR im loc (.own t e 0 k k false) (.slice a k cap'):= .own t e 0 k k false li a cap' hl he (by omega) (cd _) (by omega) (by simp) hadr
  have hro:rS sto e (.own u e 0 1 cap2 ex2)=some new:=by
   have:(new.drop 0).take 1=new:=by rw [gb,dd (by omega)]
   show (if bu e e=true then (match sto[u]? with|some (.arr _ rows)=>some ((rows.drop 0).take 1)|_=>none) else none)=_
   rw [if_pos (Nat.beq_refl e),hsu];exact congrArg some this
  have hap:kT sto fz e (.own t e 0 k k false) (.own u e 0 1 cap2 ex2)=some {v:= .own sto.length e 0 (k+1) (k+1) false,news:=[.arr e (rows++new)],wr:=[(t,.dead)],rd:=[u]}:=by
   have h1:cz (k+1) k=false:=by
    cases h:cz (k+1) k with
    |false=>rfl
    |true=>have:=Nat.le_of_ble_eq_true h;omega
   have h2:cz (k+1) most=true:=by simpa [most] using hmost
   have h3:(rows.drop 0).take k=rows:=by rw [gb,dd (by omega)]
   unfold kT;rw [hro];cases new with
   |nil=>exact absurd rfl hnne
   |cons r rs=>
    have h0:(r::rs).length=1:=hnew;simp only [h0,hst,h1,h2,h3,hfz,kS];simp
  obtain ⟨v',w',loc',hrun,hvr,hE⟩:=NM (P:=P) (w:=w) (ty:=tS) ht ht hi hsz hz hzs hby hx0' hx2 hap (hsr.knownKill hfz rfl);refine (H.ends a k cap' lj.blk lj.sh cap2' w w' v' (by omega) hrun).mono fun x W ⟨hx,hW⟩=>⟨v',hx,im,loc',?_⟩
  subst hW;exact FP hsr hE rfl rfl htl hvr
end
end Go.Vm
/- slices.Concat of two slices that nobody writes to: the table's entry. -/
namespace Go.Vm
def aD2 (P : Program) (f : FuncId) : Prop :=
  ∀ (vb c : Nat) (a1 a2 : Option Addr) (c1 c2 : Nat) (cs1 cs2 : List Value) (av : Array Value) (ev : TypeId) (w : World), w.heap[vb]? = some (.cells av ev (0, 0)) -> av[0]? = some (.slice a1 cs1.length c1) -> av[1]? = some (.slice a2 cs2.length c2) -> 1 <= cs1.length + cs2.length -> cs1.length + cs2.length <= 1048576 ->
    (∀ (j : Nat) (v : Value), cs1[j]? = some v -> ∃ b o, a1 = some ⟨b, o, none⟩ /\ w.cell? ⟨b, o + j, none⟩ = some v) -> (∀ (j : Nat) (v : Value), cs2[j]? = some v -> ∃ b o, a2 = some ⟨b, o, none⟩ /\ w.cell? ⟨b, o + j, none⟩ = some v) -> (∀ v ∈ cs1, v.oneCell' = true) -> (∀ v ∈ cs2, v.oneCell' = true) ->
    ∃ (G : Nat) (fin : List Value) (el : TypeId), cs1.length + cs2.length <= G /\ fin.length = G /\ (∀ (j : Nat) (v : Value), (cs1 ++ cs2)[j]? = some v -> fin[j]? = some v) /\
    Calls P f #[.slice (some ⟨vb, 0, none⟩) 2 c] w fun x w' => x = .returned (.slice (some ⟨w.heap.size, 0, none⟩) (cs1.length + cs2.length) G) /\ w'.heap = w.heap.push (.cells fin.toArray el (0, 0)) /\ w'.os = w.os /\ w'.tape = w.tape /\ w'.output = w.output
section
variable {P : Program} {im : Im} {loc : dN} {w : World}
theorem qM {rows:List qJ} (h:B2 rows=true):(∀r∈rows,r.length=1)/\ ∀r∈rows,∀c∈r,c.plain=true:=by
 unfold B2 at h;rw [c6] at h;constructor
 · intro r hr
   have:=h r hr
   simp only [bn,fo] at this;exact this.1
 intro r hr c hc
 have:=h r hr
 simp only [bn,c6] at this;exact this.2 c hc
theorem WE {e:Nat} {cl:Bool} {rows:List qJ} {u:Value} (h:VR im loc (.sl e cl rows) u) (h1:B2 rows=true) (he:(bu e 1||rows.isEmpty)=true) (im_ok: ∀b o,im b=some o->w.heap[b]? =some o):
 ∃a c,u= .slice a (rows.flatMap aV).length c/\(rows.flatMap aV).length=rows.length/\ ∀(j:Nat) (v:Value),(rows.flatMap aV)[j]? =some v-> ∃b o,a=some ⟨b,o,none⟩/\w.cell? ⟨b,o+j,none⟩=some v:=by
 obtain ⟨a,cap,rfl,_,_,hrows⟩:=h.sl_inv;obtain ⟨l1,l2⟩:=qM h1;have hl:=eC l1;rw [Nat.mul_one] at hl;refine ⟨a,cap,by rw [hl],hl,fun j v hj=>?_⟩
 have hne:rows≠[]:=by intro h;subst h;simp at hj
 obtain ⟨b,o,rfl,hat⟩:=hrows hne;obtain rfl:e=1:=by
  cases rows with
  |nil=>exact absurd rfl hne
  |cons r rs=>simpa using he
 exact ⟨b,o,rfl,vO im_ok (hat.flat j v hj)⟩
theorem IT.cat {f:FuncId} {fn:Func} {c:Code} (hf:P.funcs[f]? =some fn) (hname:(fn.name== "runtime.NumGoroutine")=false) (hb:fn.body=some c) (H:aD2 P f):IT P f S9:=by
 refine ⟨fn,c,hf,hname,hb,?_⟩;intro args sto fz v sto' fz' hp im loc w us hsr hus;unfold S9 at hp;split at hp
 case h_2=>cases hp
 rename_i t e off len cap ex;split at hp
 case h_2=>cases hp
 rename_i e1 cl1 x e2 cl2 y hst;split at hp
 case isFalse=>cases hp
 rename_i hc;simp only [bn,fo,ck,dm] at hc;obtain ⟨⟨⟨⟨⟨⟨⟨⟨⟨rfl,rfl⟩,rfl⟩,hfz⟩,hx1⟩,hy1⟩,hpos⟩,hmost⟩,he1⟩,he2⟩:=hc;have hmost:x.length+y.length<=1048576:=hmost;injection hp with hp;simp only [ce] at hp;obtain ⟨rfl,rfl,rfl⟩:=hp
 obtain ⟨x0,us1,rfl,hx0,hus⟩: ∃x0 us1,us=x0::us1/\VR im loc (.own t 1 0 2 cap ex) x0/\VRL im loc [] us1:=by cases hus with|cons _ a _ b h1 h2=>exact ⟨a,b,rfl,h1,h2⟩
 obtain rfl:us1=[]:=by cases hus;rfl
 obtain ⟨li,a,cap',rfl,hl,he,hoff,hlc,hcc,_,hadr⟩:=hx0.own_inv;obtain ⟨k1,hk1,hbr⟩:=hsr.blk t li hl;rw [hst] at hk1;injection hk1 with hk1;subst hk1;obtain ⟨_,_,b3,vs,ev,b4,b5,b6⟩:=hbr;have htl:t<sto.length:=(bv.1 hst).1
 obtain ⟨u1,vs1,rfl,v1,b6⟩: ∃u1 vs1,vs=u1::vs1/\VR im loc (.sl e1 cl1 x) u1/\VRL im loc [.sl e2 cl2 y] vs1:=by cases b6 with|cons _ a _ b h1 h2=>exact ⟨a,b,rfl,h1,h2⟩
 obtain ⟨u2,vs2,rfl,v2,b6⟩: ∃u2 vs2,vs1=u2::vs2/\VR im loc (.sl e2 cl2 y) u2/\VRL im loc [] vs2:=by cases b6 with|cons _ a _ b h1 h2=>exact ⟨a,b,rfl,h1,h2⟩
 obtain rfl:vs2=[]:=by cases b6;rfl
 obtain rfl:a=some ⟨li.blk,0,none⟩:=by
  rcases hadr with h|⟨_,h,_⟩
  · omega
  rw [b3] at h;simpa using h
 obtain ⟨a1,d1,rfl,l1,r1⟩:=WE v1 hx1 he1 hsr.im_ok;obtain ⟨a2,d2,rfl,l2,r2⟩:=WE v2 hy1 he2 hsr.im_ok;obtain ⟨G,fin,el,g1,g2,g3,g4⟩:=H li.blk cap' a1 a2 d1 d2 (x.flatMap aV) (y.flatMap aV) _ ev w b4 rfl rfl (by omega) (by omega) r1 r2 (rY (qM hx1).2) (rY (qM hy1).2)
 refine .inr ⟨jX hf hname hb,?_⟩;have hL:(x++y).length=(x.flatMap aV).length+(y.flatMap aV).length:=by rw [db];omega
 refine g4.mono fun z w' ⟨hz,hh,ho,htp,hpp⟩=>⟨_,hz,im,loc.set sto.length ⟨w.heap.size,0,1,(x++y).length,fin.toArray.size⟩,?_⟩
 have hE:=RN (w':=w') (t:=t) (L:=x++y) (e:=1) hsr hh ho htp hpp (by rw [Nat.mul_one,hL,List.size_toArray,g2];exact g1) (bT.ofFlat (fun r hr=>by
  rcases cu.1 hr with h|h
  · exact (qM hx1).1 r h
  · exact (qM hy1).1 r h) (fun r hr=>by
  rcases cu.1 hr with h|h
  · exact (qM hx1).2 r h
  · exact (qM hy1).2 r h) fun j v hj=>by
  rw [dy] at hj;simpa using g3 j v hj)
 refine FP hsr hE rfl rfl htl ?_;rw [<- hL];exact .own _ _ 0 _ _ false ⟨w.heap.size,0,1,(x++y).length,fin.toArray.size⟩ _ G (dN.set_same _ _ _) rfl (by show 0+(x++y).length<=(x++y).length;rw [gd];exact cd _) (cd _) (by rw [hL];exact g1) (fun h=>by cases h) (.inr ⟨by show (x++y).length≠0;omega,by simp,by show 0+(0+G)*1<=fin.toArray.size;simp [g2]⟩)
end
end Go.Vm
/- A table of functions as a tree. -/
namespace Go.Vm
inductive TT where
 |nil
 |leaf (k:Nat) (e:Ent)
 |node (m:Nat) (a b:TT)
def TT.get:TT->Nat->Option Ent
 | .nil,_=>none
 | .leaf k e,f=>bif bu f k then some e else none
 | .node m a b,f=>bif dt f m then a.get f else b.get f
def TT.All (p:Nat->Ent->Prop):TT->Prop
 | .nil=>True
 | .leaf k e=>p k e
 | .node _ a b=>a.All p/\b.All p
theorem TT.get_all {p:Nat->Ent->Prop}: ∀{t:TT} {f:Nat} {e:Ent},t.All p->t.get f=some e->p f e
 | .nil,f,e,_,h=>by cases h
 | .leaf k e',f,e,ha,h=>by
  simp only [TT.get] at h;cases hk:bu f k with
  |false=>rw [hk] at h;cases h
  |true=>
   rw [hk] at h
   have:f=k:=by simpa using hk
   subst this;have h:some e'=some e:=h;injection h with h;subst h;exact ha
 | .node m a b,f,e,ha,h=>by
  simp only [TT.get] at h;cases hk:dt f m with
  |false=>rw [hk] at h;exact TT.get_all ha.2 h
  |true=>rw [hk] at h;exact TT.get_all ha.1 h
def zQ (P:Program) (f:Nat):Ent->Prop
 | .code x=>aE P (fun _=>true) x f=true
 | .prim k p=>k=false/\TJ P f p
 | .shp p=>IT P f p
theorem TT.tabOK {P:Program} {t:TT} (h:t.All (zQ P)):WA P (fun _=>true) t.get:=fun f x hf=>by
 have:=TT.get_all h hf
 exact this
theorem TT.primsOK {P:Program} {t:TT} (h:t.All (zQ P)):FO P t.get:=⟨fun _ _ _ hf=>TT.get_all h hf,fun _ _ hf=>TT.get_all h hf⟩
end Go.Vm
/- The logical machine's code of a function, reckoned from the model's own (what it comes to is looked at by aE; nothing is proved of it here). -/
namespace Go.Vm
structure aUE where
 md:FuncId->CM
 keep:List Nat
 over:List (Nat×List (Nat×Nat)):=[]
 more:List (Nat×List (Nat×Option Nat)):=[]
 tb:Bool:=false
section
variable (P : Program)
def szT (t:TypeId):Nat:=match P.info? t with
 |some i=>i.size
 |none=>0
def ZX (t:TypeId):Option Nat:=match P.underlying t with
 |some (.struct _)|some (.array _ _)=>some (szT P t)
 |_=>none
def AQ:Nat->TypeId->List PV
 |0,_=>[]
 |n+1,t=>match P.underlying t with
  |some (.int k)=>[.int k 0]
  |some .bool=>[.bool false]
  |some .string=>[.str .empty]
  |some (.slice e)=>[.sl (szT P e) true []]
  |some (.struct fs)=>fs.toList.flatMap fun f=>AQ n f.type
  |some (.array m e)=>(dj m (AQ n e)).flatten
  |some (.func ..)=>[.nilf]
  |_=>[.undef]
def aN0 (t:TypeId):PV:=match AQ P 9 t with
 |x::_=>x
 | []=> .sl 0 true []
def aN1 (t:TypeId):PV:=match ZX P t with
 |some _=> .agg (AQ P 9 t)
 |none=>aN0 P t
def aN2 (z:PV):Value->PV
 | .int k n=> .int k n
 | .bool b=> .bool b
 | .string s=> .str s
 | .slice .. =>z
 | .nilFunc=> .nilf
 |_=> .undef
def aN3:List PV->List Value->List PV
 |z::zs,v::vs=>aN2 z v::aN3 zs vs
 |_,_=>[]
def aW6 (t:TypeId):Value->PV
 | .agg vs=> .agg (aN3 (AQ P 9 t) vs.toList)
 |v=>aN2 (aN0 P t) v
def xE (t:TypeId):Operand->gH
 | .tmp n=> .t n
 | .const v=> .c (aW6 P t v)
 | .func f=> .c (.clo f [] [])
 | .global _=> .c .undef
def aD3:List TypeId->List Operand->List gH
 |t::ts,o::os=>xE P t o::aD3 ts os
 |_,_=>[]
def iN:Operand->gH
 | .tmp n=> .t n
 | .const (.int k n)=> .c (.int k n)
 | .const (.bool b)=> .c (.bool b)
 | .const (.string s)=> .c (.str s)
 | .func f=> .c (.clo f [] [])
 |_=> .c .undef
def GO (t:TypeId):TypeId:=match P.underlying t with
 |some (.slice e)=>e
 |some (.array _ e)=>e
 |_=>0
def aD4 (place:Nat->Option (Nat×Nat)) (ty:Nat->TypeId):List (Nat×Operand)->List (Nat×Nat×gH)
 | []=>[]
 |(i,o)::r=>match place i with
  |some (a,b)=>(a,b,xE P (ty i) o)::aD4 place ty r
  |none=>[]
def aD5 (t:TypeId) (i:Nat):TypeId:=match P.underlying t with
 |some (.struct fs)=>match fs[i]? with
  |some f=>f.type
  |none=>0
 |some (.array _ e)=>e
 |_=>0
def aUF (t:TypeId) (i:Nat):Nat:=match P.underlying t with
 |some (.struct fs)=>match fs[i]? with
  |some f=>f.offset
  |none=>0
 |_=>0
def aN4:BinOp->Bool
 | .neq=>true
 |_=>false
def aD6 (b:Builtin) (args:List Operand) (ts:List TypeId):nX:=
 match b,args,ts with
 | .len,x::_,t::_=>match P.underlying t with
  |some (.slice _)|some (.map _ _)=> .len (xE P t x)
  |some (.array m _)=> .lenc m
  |some (.pointer e)=>match P.underlying e with
   |some (.array m _)=> .lenc m
   |_=> .bad
  |_=> .bad
 | .append,[x,y],[t,u]=>match P.underlying u with
  |some (.slice _)=> .append (szT P (GO P t)) (xE P t x) (xE P u y)
  |_=> .bad
 | .copy,[x,y],[t,u]=>match P.underlying u with
  |some (.slice _)=> .copy (szT P (GO P t)) (xE P t x) (xE P u y)
  |_=> .bad
 | .clear,[x],[t]=>match P.underlying t with
  |some (.slice e)=> .clear (szT P e) (AQ P 9 e) (xE P t x)
  |_=> .bad
 | .min,x::xs,_=> .mm false (iN x) (xs.map iN)
 | .max,x::xs,_=> .mm true (iN x) (xs.map iN)
 |_,_,_=> .bad
def cOp (tb:Bool) (md:FuncId->CM) (ty:TypeId):Op->nX
 | .move x| .assign x=> .mov (xE P ty x)
 | .pick c a b=> .pick (iN c) (xE P ty a) (xE P ty b)
 | .binOp op t x y _=>match P.underlying t with
  |some (.int _)=> .bin op (iN x) (iN y)
  |some .bool=> .binb (aN4 op) (iN x) (iN y)
  |some (.struct _)|some (.array _ _)=> .eqc (szT P t) (aN4 op) (xE P t x) (xE P t y)
  |_=> .bad
 | .unOp op _ x=> .un op (iN x)
 | .convert _ t x=>match P.underlying t with
  |some (.int k)=> .conv k (iN x)
  |_=> .bad
 | .box t x=> .box (xE P t x)
 | .alloc t=> .alloc (AQ P 9 t)
 | .build t ps=> .build (AQ P 9 t) (aD4 P (B3 P t) (aD5 P t) ps.toList)
 | .buildSlice t n ps=>match P.underlying (GO P t),n,ps.toList with
  |some (.slice _),2,[(0,a),(1,b)]=> .mkbox (xE P (GO P t) a) (xE P (GO P t) b)
  |_,_,_=> .mkrow (szT P (GO P t)) n (AQ P 9 (GO P t)) (ps.toList.map fun p=>(p.1,xE P (GO P t) p.2))
 | .load t a=> .load (ZX P t) (iN a)
 | .store t a v=> .store (szT P t) (iN a) (xE P t v)
 | .nilCheck x=> .nilc (iN x)
 | .fieldAddr t a f=> .fadr (aUF P t f) (iN a)
 | .field t a f=> .fld (ZX P (aD5 P t f)) (aUF P t f) (iN a)
 | .indexAddr t a j=>match P.underlying t with
  |some (.slice e)=> .iadr (szT P e) (xE P t a) (iN j)
  |some (.array m e)=> .iadra m (szT P e) (iN a) (iN j)
  |_=> .bad
 | .index t a j=>match P.underlying t with
  |some (.array m e)=> .idx m (szT P e) (ZX P e) (xE P t a) (iN j)
  |some .string=> .sidx (iN a) (iN j)
  |_=> .bad
 | .slice t a b c d=>match P.underlying t with
  |some (.slice e)=> .slc (szT P e) (xE P t a) (b.map iN) (c.map iN) (d.map iN)
  |_=> .bad
 | .makeSlice t a b=> .mks (szT P (GO P t)) (AQ P 9 (GO P t)) (iN a) (iN b)
 | .makeFunc (.func g) c d=> .mkf g (c.toList.map iN) (d.toList.map iN)
 | .makeMap t _=> .mkm (bif tb then (match P.underlying t with
  |some (.map _ e)=>some (aN1 P e)
  |_=>none) else none)
 | .extract a j=> .ext j (iN a)
 | .lookup t a b ok=>match P.underlying t with
  |some (.map k e)=> .lookup (ZX P k) (aN1 P e) ok (iN a) (xE P k b)
  |_=> .bad
 | .mapUpdate t a b c| .insert t a b c=>match P.underlying t with
  |some (.map k e)=> .mapu (ZX P k) (iN a) (xE P k b) (xE P e c)
  |_=> .bad
 | .call c=>match c.callee with
  | .builtin b=>aD6 P b c.args.toList c.argTypes.toList
  | .value (.func f)=> .call (md f) f (aD3 P c.argTypes.toList c.args.toList)
  | .value x=> .callv (iN x) (aD3 P c.argTypes.toList c.args.toList)
  |_=> .bad
 |_=> .bad
def aUG (tb:Bool) (md:FuncId->CM) (ops:Array Oper) (o:Oper):bX:=
 ⟨o.dst,cOp P tb md o.type o.op,match o.guard with
  |some (i,b)=>match ops[i]? with
   |some q=>match q.dst with
    |some d=>some (d,b)
    |none=>none
   |none=>none
  |none=>none⟩
def aD7:List Nat->List Oper->List Nat
 |acc,[]=>acc
 |acc,o::os=>aD7 (acc++[(qW acc acc.length o.after.toList).getD 0]) os
def TN:Nat->Nat->Nat->List Nat
 |0,_,_=>[]
 |n+1,i,m=>bif bu m 0 then [] else bif bu (Nat.mod m 2) 1 then i::TN n (i+1) (Nat.div m 2) else TN n (i+1) (Nat.div m 2)
def aD8 (l:List (Nat×Nat)) (x:Nat):Nat×Option Nat:=match l with
 | []=>(x,none)
 |(t,k)::r=>bif bu t x then (x,some k) else aD8 r x
def aD9 {α:Type} (n:Nat):List (Nat×List α)->List α
 | []=>[]
 |(m,l)::r=>bif bu m n then l else aD9 n r
def hd (l:List Nat):Nat:=match l with
 |x::_=>x
 | []=>0
structure CSt where
 ks:List Nat
 n:Nat
def N5 (H:aUE):Code->CSt->mL×CSt
 | .region _ ops dr,s=>(.region (match dr with|true=>some (aD7 [] ops.toList)|false=>none) (ops.toList.map (aUG P H.tb H.md ops)) (TN 1000 0 (hd s.ks)),⟨s.ks.tail,s.n⟩)
 | .seq a b,s=>match N5 H a s with
  |(x,s1)=>match N5 H b s1 with
   |(y,s2)=>(.seq x y,s2)
 | .cond c a b,s=>match N5 H a s with
  |(x,s1)=>match N5 H b s1 with
   |(y,s2)=>(.cond (iN c) x y,s2)
 | .block id b,s=>match N5 H b s with
  |(x,s1)=>(.block id x,s1)
 | .loop b,s=>match N5 H b ⟨s.ks.tail,s.n+1⟩ with
  |(x,s1)=>(.loop ((TN 1000 0 (hd s.ks)).map (aD8 (aD9 s.n H.over))++aD9 s.n H.more) x,s1)
 | .exit id,s=>(.exit id,s)
 | .ret,s=>(.ret,s)
 |_,s=>(.skip,s)
def aW7:ResultVar->RV
 | .tmp t=> .tmp t
 | .cell t ty=> .cell t (ZX P ty)
def aOy (fn:Func) (H:aUE):aM:=
 ⟨fn.params.size+fn.nfree,match fn.body with
  |some c=>(N5 P H c ⟨H.keep,0⟩).1
  |none=> .skip,fn.results.toList.map (aW7 P)⟩
def aW8 (ow sh fp:List Nat) (f:FuncId):CM:=bif has ow f then .own else bif has sh f then .shr else bif has fp f then .fp else .pur
end
end Go.Vm
/- A law's row from what the logical machine answers: the result is true, nothing that was there has turned. -/
namespace Go.Vm
open Go.ChangeShapes Go.WideShapes Go.ChangeAt Go.RowKit
section
variable {H : Type} {enc : TypeId × Value -> H} {P : Program}
theorem GP (hl:laidOutB P=true) {W W':World} (hb:Below W.heap.size W W'): ∀{ts:List TypeId} {vs:List Value} {ds:List (DataW H)} {ps:List MemPlace},(∀t∈ts,P.readableRec t=true/\t<P.types.size)->
 DataW.TrodAll enc P W 0 (fun _=>true) true ts vs ds ps->(∀x∈ps,x.block<W.heap.size)->DataW.TrodAll enc P W' 0 (fun b=>decide (b<W.heap.size)) true ts vs ds ps
 | [],vs,ds,ps,_,h,_=>by
  obtain ⟨rfl,rfl,rfl⟩:=trodAll_nil h;exact trodAll_mk0
 |t::ts,vs,ds,ps,ht,h,hlt=>by
  obtain ⟨v,vs',d,ds',p,q,rfl,rfl,rfl,h1,h2⟩:=trodAll_cons h;obtain ⟨h3,h4⟩:=ht t (by simp)
  exact trodAll_cons_mk (Below.trod hl h3 h4 h1 hb fun x hx=>hlt x (by simp [hx])) (GP hl hb (fun t' ht'=>ht t' (by simp [ht'])) h2 fun x hx=>hlt x (by simp [hx]))
theorem aEa (hl:laidOutB P=true) {f:Func} {s:ChangeSpec} {W W':World} {args:Array Value} {ds:List (DataW H)} {before:List MemPlace} {bt:TypeId} (hvars:s.vars=[]) (hres:f.resultTypes= #[bt]) (hbt:P.underlying bt=some .bool)
 (hp: ∀t∈f.params.toList,P.readableRec t=true/\t<P.types.size) (hW:DataW.Whole enc P f.params.toList s.vars false W args.toList ds [] before)
 (hfn:s.fn H (ds++[])={results:=[.lit (.bool true)],args:=ds}) (hb:Below W.heap.size W W'):s.post enc P f false true false false W args (.bool true) W':=by
 have hW':=hW;obtain ⟨p,q,hA,hV,rfl,hfz,hnd⟩:=hW;have hlt: ∀x∈p++q,x.block<W.heap.size:=fun x hx=>by simpa using hW'.lt x hx
 refine ⟨ds,[],p++q,[],p,[],hW',?_,?_,?_,hb.frame _,fun h=>by cases h⟩
 · rw [hfn,hres]
   exact trodAll_mk1 (shut_bool hbt true)
 · rw [hfn]
   exact GP hl hb hp hA fun x hx=>hlt x (by simp [hx])
 rw [hfn,hvars]
 rfl
end
def QW (w:World):Im:=fun b=>w.heap[b]?
theorem aCW {w:World} {b o:Nat} {v:Value} (h:w.cell? ⟨b,o,none⟩=some v):rW (QW w) b o=some v:=by
 unfold fx at h;unfold rW QW;exact h
theorem aCX {P:Program} {F:qK} {prims:FuncId->Bool} (hT:WA P prims F) (hprim:FO P F) (hmix:P.follows .mixedOrders=true) {f:FuncId} {args:List PV} {s:cV} {z:List Nat} {n:Nat} {us:List Value} {w:World}
 (h:run F n (.func f args [] [])=some (.func (.bool true) s z)) (hus:VRL (QW w) iD args us):Calls P f ⟨us⟩ w fun e w'=>e= .returned (.bool true)/\Below w.heap.size w w':=by
 refine (aCT hT hprim hmix h (im:=QW w) (fun b o h=>h) hus).mono fun e w' ⟨u,he,⟨im',loc',hvr,_⟩,h1,h2,h3,h4,h5⟩=>?_
 obtain rfl:=hvr.bool_inv;exact ⟨he,⟨h1,h2,h3,h4,h5⟩⟩
end Go.Vm
/- Regions of one order, step by step, for contracts. -/
namespace Go.Vm
def KQ:nX->Bool
 | .call .. | .callv .. =>true
 |_=>false
variable {F : qK}
def WS (F:qK) (ops:List bX) (st:St) (Q:St->Prop):Prop:= ∀tr,WO F ops st tr (fun s _=>Q s)
def TO (st:St) (o:bX):Option St:=
 match wanted o.guard st.env with
 |some true=>match bM st.env st.sto st.fz o.op with
  |some x=>if (XR.loc x).ok st.fz then some ((XR.loc x).next o.dst st) else none
  |none=>none
 |some false=>some {st with env:=kM o.dst .nul st.env}
 |none=>none
theorem TP {rec:mI->Option zG} {e:zE} {sto:cV} {fz:List Nat} {op:nX} (h:KQ op=false):
 DL F rec e sto fz op=(bM e sto fz op).map .loc:=by
 cases op<;>first|rfl|cases h
theorem WS.nil {st:St} {Q:St->Prop} (h:Q st):WS F [] st Q:=fun _=>WO.nil h
theorem WS.cons {o:bX} {r:List bX} {st st':St} {Q:St->Prop} (h:KQ o.op=false) (hs:TO st o=some st') (k:WS F r st' Q):WS F (o::r) st Q:=by
 intro tr;unfold TO at hs;split at hs
 · rename_i hw
   split at hs
   · rename_i x hx
     split at hs
     · rename_i hok
       injection hs with hs;subst hs;exact WO.op x hw (fun rec=>by rw [TP h,hx];rfl) hok (k _)
     cases hs
   cases hs
 · rename_i hw
   injection hs with hs;subst hs;exact WO.skip hw (k _)
 cases hs
theorem WS.one {o:bX} {r:List bX} {st:St} {Q:St->Prop} (x:rT) (hc:KQ o.op=false) (hw:wanted o.guard st.env=some true) (hx:bM st.env st.sto st.fz o.op=some x) (hok:(XR.loc x).ok st.fz=true)
 (k:WS F r ((XR.loc x).next o.dst st) Q):WS F (o::r) st Q:=fun tr=>
 WO.op x hw (fun rec=>by rw [TP hc,hx];rfl) hok (k _)
def MX:List bX->St->Option St
 | [],st=>some st
 |o::r,st=>match KQ o.op with
  |true=>none
  |false=>match TO st o with
   |some st'=>MX r st'
   |none=>none
theorem WS.all: ∀{ops:List bX} {st st':St} {Q:St->Prop},MX ops st=some st'->Q st'->WS F ops st Q
 | [],st,st',Q,h,hq=>by simp only [MX,bq] at h;subst h;exact WS.nil hq
 |o::r,st,st',Q,h,hq=>by
  simp only [MX] at h;cases hc:KQ o.op with
  |true=>rw [hc] at h;cases h
  |false=>
   rw [hc] at h;dsimp only at h;cases hs:TO st o with
   |none=>rw [hs] at h;cases h
   |some s1=>rw [hs] at h;exact WS.cons hc hs (WS.all h hq)
theorem WS.pure {d:Option Nat} {g:Option (Nat×Bool)} {f:FuncId} {as:List gH} {r:List bX} {st:St} {Q:St->Prop}
 {args:List PV} {v:PV} (h:aCG F f args v) (hw:wanted g st.env=some true) (ha:exL st.sto (D3 st.sto fH) (ND st.env as)=some args)
 (k:WS F r {st with env:=kM d v st.env} Q):WS F (⟨d,.call .pur f as,g⟩::r) st Q:=fun tr=>by
 refine WO.pure h hw ha ?_
 have:=k (XR.tr st.sto.length (.loc {v,rd:=toksL (dQ st.sto fH) (ND st.env as)})::tr)
 simpa [XR.next,xA,hZ] using this
theorem WS.shr {d:Option Nat} {g:Option (Nat×Bool)} {f:FuncId} {as:List gH} {r:List bX} {st:St} {Q:St->Prop}
 (hw:wanted g st.env=some true) (h:HB F f (ND st.env as) st.sto st.fz fun v s z=>(cz st.sto.length s.length&&st.fz.all (has z))=true/\WS F r {st with env:=kM d v st.env,sto:=s,fz:=z} Q):
 WS F (⟨d,.call .shr f as,g⟩::r) st Q:=fun tr=>by
 obtain ⟨n,v,s,z,hr,hc,hk⟩:=h;refine WO.call (.shr v s z) hw ⟨n,?_⟩ rfl (hk _);simp only [DL,gY,hr];rw [if_pos hc]
end Go.Vm
/- Plain terms for what a function computes: loops, elements of lists, numbers; and the machine's loop over a plain one. -/
namespace Go.Vm
inductive bQ (σ ρ:Type) where
 |next (s:σ)
 |done (r:ρ)
section
variable {σ ρ : Type}
def vQ (body:σ->Option (bQ σ ρ)):Nat->σ->Option ρ
 |0,_=>none
 |n+1,x=>match body x with
  |some (.next y)=>vQ body n y
  |some (.done r)=>some r
  |none=>none
open Classical in
noncomputable def ZY (body:σ->Option (bQ σ ρ)) (x:σ):Option ρ:=
 if h: ∃n r,vQ body n x=some r then vQ body h.choose x else none
theorem HJ {body:σ->Option (bQ σ ρ)}: ∀{n:Nat} {x:σ} {r:ρ},vQ body n x=some r-> ∀k,vQ body (n+k) x=some r
 |0,x,r,h,_=>by cases h
 |n+1,x,r,h,k=>by
  rw [show n+1+k=(n+k)+1 by omega]
  simp only [vQ] at h ⊢;split at h
  · exact HJ h k
  · exact h
  cases h
theorem aCY {body:σ->Option (bQ σ ρ)} {n m:Nat} {x:σ} {r s:ρ} (h:vQ body n x=some r) (k:vQ body m x=some s):r=s:=by
 have h1:=HJ h m;have h2:=HJ k n;rw [Nat.add_comm m n] at h2;rw [h1] at h2;exact ej h2
theorem LY {body:σ->Option (bQ σ ρ)} {x:σ} {r:ρ}:ZY body x=some r↔ ∃n,vQ body n x=some r:=by
 unfold ZY;constructor
 · intro h
   split at h
   · exact ⟨_,h⟩
   cases h
 rintro ⟨n,hn⟩
 have hex: ∃n r,vQ body n x=some r:=⟨n,r,hn⟩;rw [dif_pos hex];obtain ⟨s,hs⟩:=hex.choose_spec;rw [hs,aCY hs hn]
end
noncomputable def aEb {σ ρ:Type} (b:Option Nat) (body:σ->Option (bQ σ ρ)) (x:σ):Option ρ:=
 match b with
 |none=>ZY body x
 |some N=>vQ body N x
theorem aEc {σ ρ:Type} {b:Option Nat} {body:σ->Option (bQ σ ρ)} {x:σ} {r:ρ} (h:aEb b body x=some r): ∃n,vQ body n x=some r:=by
 cases b with
 |none=>exact LY.1 h
 |some N=>exact ⟨_,h⟩
class LP where
 w:Option Nat
abbrev LP.of (n:Nat):LP:=⟨some n⟩
noncomputable def aH [LP] {σ ρ:Type} (body:σ->Option (bQ σ ρ)) (x:σ):Option ρ:=aEb LP.w body x
def aG [LP]:Option Nat:=LP.w
theorem aUH {α β:Type} {x:Option α} {f:α->Option β} {r:β} (h:x.bind f=some r): ∃a,x=some a/\f a=some r:=by
 cases x with
 |none=>cases h
 |some a=>exact ⟨a,rfl,h⟩
def aN5 {α ρ:Type} (x:Option α) (f:α->Option ρ):Option ρ:=x.bind f
def aN6 {ρ:Type} (c:Bool) (a b:Option ρ):Option ρ:=cond c a b
theorem ZZ {α ρ:Type} {x:Option α} {f:α->Option ρ} {y:ρ} (h:aN5 x f=some y): ∃a,x=some a/\f a=some y:=aUH h
theorem Z0 {ρ:Type} {c:Bool} {a b:Option ρ} {y:ρ} (h:aN6 c a b=some y):(c=true/\a=some y)\/(c=false/\b=some y):=by
 cases c
 · exact .inr ⟨rfl,h⟩
 exact .inl ⟨rfl,h⟩
def aN {α:Type} (l:List α) (i:Int):Option α:=
 match i with
 | .ofNat n=>l[n]?
 | .negSucc _=>none
def cL {α:Type} (l:List α) (i:Int) (a:α):List α:=l.set i.toNat a
theorem qX {α:Type} {l:List α} {i:Int} {a:α} (h:aN l i=some a): ∃n:Nat,i=fj n/\l[n]? =some a:=by
 unfold aN at h;split at h
 · exact ⟨_,rfl,h⟩
 cases h
@[simp] theorem EH {α:Type} (l:List α) (i:Int) (a:α):(cL l i a).length=l.length:=by simp [cL]
def bN {α:Type} (l:List α) (m:List α):Option (List α):=if l.length+m.length<=1048576 then some (l++m) else none
def GQ {α:Type} (n:Int) (z:α):Option (List α):=if 0<=n/\n<=1048576 then some (dj n.toNat z) else none
def jH {α:Type} (l:List α) (lo hi:Int):Option (List α):=if 0<=lo/\lo<=hi/\hi<=l.length then some ((l.drop lo.toNat).take (hi.toNat-lo.toNat)) else none
def bU {α:Type} (l:List α):Option (List α):=if l.length<=1048576 then some l else none
def aCZ {α:Type} (l m:List α):Option (List α):=if 1<=l.length+m.length/\l.length+m.length<=1048576 then some (l++m) else none
def FQ {α:Type} (l:List α) (i:Int) (m:List α):Option (List α):=if 0<=i/\i.toNat<=l.length/\m.length=1/\l.length+1<=1048576 then some (l.take i.toNat++m++l.drop i.toNat) else none
def LZ {α:Type} (f:List α->Option (List α)) (l:List α):Option (List α):=
 if l.length<=1048576 then (match f l with
 |some m=>if m.length=l.length then some m else none
 |none=>none) else none
def F0s {α:Type} (f:List α->Option (List α)) (n:Nat) (l:List α):Option (List α):=if n<=l.length then (LZ f (l.take n)).map (· ++l.drop n) else none
def Z1 (a:Int):List Int->List Int
 | []=>[a]
 |b::r=>bif decide (a<=b) then a::b::r else b::Z1 a r
def oH:List Int->List Int
 | []=>[]
 |a::r=>Z1 a (oH r)
def TQ (l:List Int):Option (List Int):=some (oH l)
def HK (k:IntKind) (a b:Int):Int:=k.wrap (BitVec.ofInt k.bits a&&&BitVec.ofInt k.bits b).toNat
def bOr (k:IntKind) (a b:Int):Int:=k.wrap (BitVec.ofInt k.bits a|||BitVec.ofInt k.bits b).toNat
def aW9 (k:IntKind) (a b:Int):Int:=k.wrap (BitVec.ofInt k.bits a^^^BitVec.ofInt k.bits b).toNat
def aGk (k:IntKind) (a b:Int):Int:=k.wrap (BitVec.ofInt k.bits a&&& ~~~ BitVec.ofInt k.bits b).toNat
def aXa (k:IntKind) (a b:Int):Int:=k.wrap (a*2^(min b.toNat k.bits))
def rQ (k:IntKind) (a b:Int):Int:=a.fdiv (2^(min b.toNat k.bits))
def aN7 (s:ByteArray) (i:Int):Option Int:=
 match i with
 | .ofNat n=>s[n]?.map fun b=>(b.toNat:Int)
 | .negSucc _=>none
def ML (l:List (List Int)) (k:List Int):Bool:=l.any fun m=>k==m
def Z2 (l:List (List Int)) (k:List Int):List (List Int):=bif ML l k then l else l++[k]
def rZ (a:List Int) (l:List (List Int)):Bool:=l.all fun b=>bu b.length a.length
def WG (l:List (List Int)) (k:List Int):Option Bool:=bif rZ k l then some (ML l k) else none
def WH (l:List (List Int)) (k:List Int):Option (List (List Int)):=bif rZ k l then some (Z2 l k) else none
def vR {α:Type} (z:α):List (Int×α)->Int->α
 | [],_=>z
 |p::r,k=>bif k==p.1 then p.2 else vR z r k
def tG {α:Type}:List (Int×α)->Int->α->List (Int×α)
 | [],k,a=>[(k,a)]
 |p::r,k,a=>bif k==p.1 then (k,a)::r else p::tG r k a
section
variable {F : qK}
end
end Go.Vm
/- A logical machine over typed values: it turns a function's code into a plain term. What it computes is tied to the logical machine in SvRun. -/
namespace Go.Vm
inductive PT where
 |i (k:IntKind)
 |b
@[reducible] def PT.T : PT -> Type
  | .i _ => Int
  | .b => Bool
@[reducible] def RT : List PT -> Type
  | [] => Unit
  | [p] => p.T
  | p :: q :: r => p.T × RT (q :: r)
inductive SV where
 |junk
 |undef
 |nul
 |nilf
 |int (k:IntKind) (n:Int)
 |bool (b:Bool)
 |str (s:ByteArray)
 |agg (cs:List SV)
 |tup (cs:List SV)
 |sl (r:List PT) (l:List (RT r))
 |nil (e:Nat) (c:Bool)
 |own (t:Nat) (ex:Bool)
 |pre (t len cap:Nat) (ex:Bool)
 |part (t off len cap:Nat) (ex:Bool)
 |pa (t:Nat) (r:List PT) (i:Int) (a:RT r) (off:Nat)
 |pb (t:Nat) (i:Int) (off:Nat)
 |bp (t n off:Nat)
 |rptr (cs:List SV) (off:Nat)
 |clo (f:FuncId) (a b:List SV)
 |mp (t:Nat)
inductive SB where
 |arr (r:List PT) (l:List (RT r))
 |box (cs:List SV)
 |set (l:List (List Int))
 |tab (p:PT) (l:List (RT [.i .i64,p]))
 |dead
abbrev SE:=List (Nat×SV)
structure vS where
 env:SE
 sto:List SB
 fz:List Nat
 kn:Nat
structure Rows where
 r:List PT
 l:List (RT r)
def PT.same:PT->PT->Bool
 | .i k,.i l=>gE k l
 | .b,.b=>true
 |_,_=>false
def IZ:List PT->List PT->Bool
 | [],[]=>true
 |p::r,q::s=>p.same q&&IZ r s
 |_,_=>false
theorem PT.same_eq: ∀{p q:PT},p.same q=true->p=q
 | .i k,.i l,h=>by rw [fW.1 h]
 | .b,.b,_=>rfl
 | .i _,.b,h=>by cases h
 | .b,.i _,h=>by cases h
theorem BJ: ∀{r s:List PT},IZ r s=true->r=s
 | [],[],_=>rfl
 |p::r,q::s,h=>by
  simp only [IZ,bn] at h;rw [PT.same_eq h.1,BJ h.2]
 | [],_::_,h=>by cases h
 |_::_,[],h=>by cases h
def xY (r q:List PT) (l:List (RT r)):Option (List (RT q)):=if h:IZ r q=true then some (BJ h▸l) else none
def PT.pv:(p:PT)->p.T->PV
 | .i k,n=> .int k n
 | .b,x=> .bool x
def RT.pv:(r:List PT)->RT r->List PV
 | [],_=>[]
 | [p],a=>[p.pv a]
 |p::q::r,a=>p.pv a.1::RT.pv (q::r) a.2
def PT.sv:(p:PT)->p.T->SV
 | .i k,n=> .int k n
 | .b,x=> .bool x
def RT.sv:(r:List PT)->RT r->List SV
 | [],_=>[]
 | [p],a=>[p.sv a]
 |p::q::r,a=>p.sv a.1::RT.sv (q::r) a.2
def PT.of:(p:PT)->SV->Option p.T
 | .i k,.int l n=>bif gE l k then some n else none
 | .b,.bool x=>some x
 |_,_=>none
def RT.of:(r:List PT)->List SV->Option (RT r)
 | [],[]=>some ()
 | [p],[v]=>p.of v
 |p::q::r,v::vs=>match p.of v,RT.of (q::r) vs with
  |some a,some b=>some (a,b)
  |_,_=>none
 |_,_=>none
def PT.zero:(p:PT)->p.T
 | .i _=>(0:Int)
 | .b=>false
def RT.zero:(r:List PT)->RT r
 | []=>()
 | [p]=>p.zero
 |p::q::r=>(p.zero,RT.zero (q::r))
def iU:PV->Option PT
 | .int k n=>match n with
  | .ofNat 0=>some (.i k)
  |_=>none
 | .bool b=>match b with
  |false=>some .b
  |true=>none
 |_=>none
def N6:List PV->Option (List PT)
 | []=>some []
 |v::vs=>match iU v,N6 vs with
  |some p,some r=>some (p::r)
  |_,_=>none
def nth {α:Type}:List α->Nat->Option α
 | [],_=>none
 |x::_,0=>some x
 |_::r,n+1=>nth r n
theorem cM {α:Type}: ∀(l:List α) (n:Nat),nth l n=l[n]?
 | [],n=>by simp [nth]
 |x::r,0=>by simp [nth]
 |x::r,n+1=>by simp [nth,cM r n]
def QT (t:Nat):SE->SV
 | []=> .undef
 |(s,v)::r=>bif bu s t then v else QT t r
def setS (t:Nat) (v:SV):SE->SE
 | []=>[]
 |(s,x)::r=>bif bu s t then (s,v)::r else (s,x)::setS t v r
mutual
def aGl:PV->SV
 | .undef=> .undef
 | .nul=> .nul
 | .nilf=> .nilf
 | .int k n=> .int k n
 | .bool b=> .bool b
 | .str s=> .str s
 | .agg cs=> .agg (ofPVL cs)
 | .tup cs=> .tup (ofPVL cs)
 | .sl e c rows=>match rows with
  | []=> .nil e c
  |_=> .junk
 | .clo f a b=> .clo f (ofPVL a) (ofPVL b)
 |_=> .junk
def ofPVL:List PV->List SV
 | []=>[]
 |x::xs=>aGl x::ofPVL xs
end
def bZ (e:SE):gH->SV
 | .t n=>QT n e
 | .c v=>aGl v
def lV (e:SE):List gH->List SV
 | []=>[]
 |x::xs=>bZ e x::lV e xs
def SV.isOne:SV->Bool
 | .junk| .undef| .nul| .agg _| .tup _=>false
 |_=>true
def allOne:List SV->Bool
 | []=>true
 |x::xs=>x.isOne&&allOne xs
def SV.cells:SV->List SV
 | .agg cs=>cs
 |v=>[v]
def SV.stored (v:SV):Option (List SV):=bif allOne v.cells then some v.cells else none
def GR (agg:Option Nat) (off:Nat) (cs:List SV):Option SV:=
 match agg with
 |some s=>bif cz (off+s) cs.length then some (.agg ((cs.drop off).take s)) else none
 |none=>nth cs off
def uJ (off:Nat) (new old:List SV):List SV:=old.take off++new++old.drop (off+new.length)
def GS (s:List SB):SV->Option Rows
 | .sl r l=>some ⟨r,l⟩
 | .own t _=>match nth s t with
  |some (.arr r l)=>some ⟨r,l⟩
  |_=>none
 | .pre t len _ _=>match nth s t with
  |some (.arr r l)=>some ⟨r,l.take len⟩
  |_=>none
 | .part t off len _ _=>match nth s t with
  |some (.arr r l)=>some ⟨r,(l.drop off).take len⟩
  |_=>none
 |_=>none
def CC:SV->List Nat
 | .own t _=>[t]
 | .pre t _ _ _=>[t]
 | .part t _ _ _ _=>[t]
 |_=>[]
structure gZ where
 v:SV
 news:List SB:=[]
 wr:List (Nat×SB):=[]
 rd:List Nat:=[]
 fr:List Nat:=[]
def iK (R:Type):= ∀ρ:Type,(R->ρ)->Option ρ
section
variable {R : Type}
def RQ (b:R):iK R:=fun _ w=>some (w b)
def aP:iK R:=fun _ _=>none
def nZ {α:Type} (x:Option α) (f:α->iK R):iK R:=fun ρ w=>aN5 x fun a=>f a ρ w
def iO (c:Bool) (a b:iK R):iK R:=fun ρ w=>aN6 c (a ρ w) (b ρ w)
def aGm (v:SV) (k:SV->iK R):iK R:=
 match v with
 | .junk=>k .junk
 | .undef=>k .undef
 | .nul=>k .nul
 | .nilf=>k .nilf
 | .int a b=>k (.int a b)
 | .bool a=>k (.bool a)
 | .str a=>k (.str a)
 | .agg a=>k (.agg a)
 | .tup a=>k (.tup a)
 | .sl a b=>k (.sl a b)
 | .nil a b=>k (.nil a b)
 | .own a b=>k (.own a b)
 | .pre a b c d=>k (.pre a b c d)
 | .part a b c d x=>k (.part a b c d x)
 | .pa a b c d e=>k (.pa a b c d e)
 | .pb a b c=>k (.pb a b c)
 | .bp a b c=>k (.bp a b c)
 | .rptr a b=>k (.rptr a b)
 | .clo a b c=>k (.clo a b c)
 | .mp a=>k (.mp a)
theorem TR (v:SV) (k:SV->iK R):aGm v k=k v:=by cases v<;>rfl
def Z3 (op:BinOp) (k:IntKind) (a b:Int) (c:SV->iK R):iK R:=
 match op with
 | .add=>c (.int k (aA k (a+b)))
 | .sub=>c (.int k (aA k (a-b)))
 | .mul=>c (.int k (aA k (a*b)))
 | .quo=>iO (b==0) aP (c (.int k (aA k (Int.tdiv a b))))
 | .rem=>iO (b==0) aP (c (.int k (Int.tmod a b)))
 | .and=>c (.int k (HK k a b))
 | .or=>c (.int k (bOr k a b))
 | .xor=>c (.int k (aW9 k a b))
 | .andNot=>c (.int k (aGk k a b))
 | .eql=>c (.bool (a==b))
 | .neq=>c (.bool (a !=b))
 | .lss=>c (.bool (decide (a<b)))
 | .leq=>c (.bool (decide (a<=b)))
 | .gtr=>c (.bool (decide (b<a)))
 | .geq=>c (.bool (decide (b<=a)))
 | .shl| .shr=>aP
def eqS:List SV->List SV->Option Bool
 | [],[]=>some true
 |x::xs,y::ys=>match x,y with
  | .int k a,.int l b=>bif gE k l then (match xs with
   | []=>(match ys with| []=>some (a==b)|_=>none)
   |_::_=>match eqS xs ys with
    |some r=>some (a==b&&r)
    |none=>none) else none
  |_,_=>none
 |_,_=>none
def CD:List (Nat×Nat×SV)->List SV->Option (List SV)
 | [],cs=>some cs
 |(off,sz,v)::r,cs=>match v.stored with
  |some w=>bif bu w.length sz&&cz (off+sz) cs.length then CD r (uJ off w cs) else none
  |none=>none
def EI (e:SE):List (Nat×Nat×gH)->List (Nat×Nat×SV)
 | []=>[]
 |p::r=>(p.1,p.2.1,bZ e p.2.2)::EI e r
def aBi (r:List PT) (e:SE) (n:Nat):List (Nat×gH)->Option (List (Nat×RT r))
 | []=>some []
 |p::ps=>match RT.of r (bZ e p.2).cells,aBi r e n ps with
  |some a,some l=>bif dt p.1 n then some ((p.1,a)::l) else none
  |_,_=>none
def L0 {α:Type} (i:Nat):α->List (Nat×α)->α
 |z,[]=>z
 |z,(j,a)::r=>L0 i (bif bu j i then a else z) r
def TS {α:Type} (f:Nat->α):Nat->Nat->List α
 |_,0=>[]
 |i,n+1=>f i::TS f (i+1) n
def KR (e:SE) (d:Int):Option gH->Option Int
 |none=>some d
 |some x=>match bZ e x with
  | .int _ n=>some n
  |_=>none
def mmS (isMax:Bool) (k:IntKind):Int->List SV->Option SV
 |a,[]=>some (.int k a)
 |a,x::r=>match x with
  | .int l b=>bif gE k l then mmS isMax k (bif isMax then (if b>a then b else a) else (if b<a then b else a)) r else none
  |_=>none
def aBj:List SV->Option (List Int)
 | []=>some []
 |x::xs=>match x,aBj xs with
  | .int .i64 n,some l=>some (n::l)
  |_,_=>none
def aGn (n:Option Nat) (v:SV):Option (List Int):=
 match n,v with
 |none,.int .i64 a=>some [a]
 |some n,.agg cs=>bif bu cs.length n&&!Nat.beq n 1 then aBj cs else none
 |_,_=>none
def WI (n:Nat) (i:Int) (j:Nat) (f:Nat->iK R):iK R:=
 match n with
 |0=>aP
 |n+1=>iO (i==fj j) (f j) (WI n i (j+1) f)
def oI {α:Type} (x:Option α) (k:α->iK R):iK R:=
 match x with
 |some a=>k a
 |none=>aP
def ofV (k:gZ->iK R) (v:SV):iK R:=k {v}
def aN8 (s:List SB) (esz:Nat) (x:SV) (i:Int) (k:gZ->iK R):iK R:=
 match x with
 | .sl r l=>bif bu r.length esz then nZ (aN l i) fun a=>k {v:= .rptr (RT.sv r a) 0} else aP
 | .own t _=>match nth s t with
  |some (.arr r l)=>bif bu r.length esz then nZ (aN l i) fun a=>k {v:= .pa t r i a 0} else aP
  |_=>aP
 | .pre t len _ _=>match nth s t with
  |some (.arr r l)=>bif bu r.length esz then nZ (aN (l.take len) i) fun a=>k {v:= .pa t r i a 0} else aP
  |_=>aP
 | .part t off len _ _=>match nth s t with
  |some (.arr r l)=>bif bu r.length esz then nZ (aN ((l.drop off).take len) i) fun a=>k {v:= .pa t r (.ofNat (off+i.toNat)) a 0} else aP
  |_=>aP
 |_=>aP
def aN9 (s:List SB) (agg:Option Nat) (p:SV) (k:gZ->iK R):iK R:=
 match p with
 | .bp t _ off=>match nth s t with
  |some (.box cs)=>oI (GR agg off cs) fun v=>k {v,rd:=[t]}
  |_=>aP
 | .pa t r _ a off=>match nth s t with
  |some (.arr _ _)=>oI (GR agg off (RT.sv r a)) fun v=>k {v,rd:=[t]}
  |_=>aP
 | .pb t i off=>match nth s t with
  |some (.arr r l)=>nZ (aN l i) fun a=>oI (GR agg off (RT.sv r a)) fun v=>k {v,rd:=[t]}
  |_=>aP
 | .rptr cs off=>oI (GR agg off cs) fun v=>k {v}
 |_=>aP
def aEd (s:List SB) (z:List Nat) (sz:Nat) (p v:SV) (k:gZ->iK R):iK R:=
 match p with
 | .bp t _ off=>match nth s t with
  |some (.box cs)=>oI v.stored fun w=>bif bu w.length sz&&cz (off+sz) cs.length&&!has z t then k {v:= .undef,wr:=[(t,.box (uJ off w cs))]} else aP
  |_=>aP
 | .pa t r i a off=>match nth s t with
  |some (.arr q l)=>bif bu v.cells.length sz&&cz (off+sz) r.length&&!has z t then
   oI (RT.of q (uJ off v.cells (RT.sv r a))) fun b=>k {v:= .undef,wr:=[(t,.arr q (cL l i b))]} else aP
  |_=>aP
 | .pb t i off=>match nth s t with
  |some (.arr q l)=>bif bu v.cells.length sz&&cz (off+sz) q.length&&!has z t then
   (bif bu sz q.length then oI (RT.of q v.cells) fun b=>k {v:= .undef,wr:=[(t,.arr q (cL l i b))]}
   else nZ (aN l i) fun a=>oI (RT.of q (uJ off v.cells (RT.sv q a))) fun b=>k {v:= .undef,wr:=[(t,.arr q (cL l i b))]}) else aP
  |_=>aP
 |_=>aP
def Z4 (e:SE) (t off len cap:Nat) (ex:Bool) (lo hi mx:Option gH) (k:gZ->iK R):iK R:=
 oI (KR e 0 lo) fun a=>oI (KR e (.ofNat len) hi) fun b=>match mx with
  |none=>iO (decide (0<=a)&&decide (a<=b)&&decide (b<= .ofNat cap)) (k {v:= .part t (off+a.toNat) (b.toNat-a.toNat) (cap-a.toNat) ex}) aP
  |some m=>match bZ e m with
   | .int _ c=>iO (decide (0<=a)&&decide (a<=b)&&decide (b<=c)&&decide (c<= .ofNat cap)) (k {v:= .part t (off+a.toNat) (b.toNat-a.toNat) (c.toNat-a.toNat) true}) aP
   |_=>aP
def aUI (e:SE) (s:List SB) (esz:Nat) (x:SV) (lo hi mx:Option gH) (k:gZ->iK R):iK R:=
 match x with
 | .sl r l=>match mx with
  |none=>bif bu r.length esz then oI (KR e 0 lo) fun a=>oI (KR e (fj l.length) hi) fun b=>nZ (jH l a b) fun m=>k {v:= .sl r m} else aP
  |some _=>aP
 | .own t ex=>match nth s t with
  |some (.arr r l)=>bif bu r.length esz then (match lo,hi,mx with
   |none,none,none=>k {v:= .own t ex}
   |none,some h,none=>match bZ e h with
    | .int _ b=>nZ (jH l 0 b) fun _=>k {v:= .pre t b.toNat l.length ex}
    |_=>aP
   |lo,hi,mx=>Z4 e t 0 l.length l.length ex lo hi mx k) else aP
  |_=>aP
 | .pre t len cap ex=>match nth s t with
  |some (.arr r _)=>bif bu r.length esz then (match lo,hi,mx with
   |none,none,none=>iO (cz len cap) (k {v:= .pre t len cap ex}) aP
   |none,some h,none=>match bZ e h with
    | .int _ b=>iO (decide (0<=b)&&decide (b<= .ofNat cap)) (k {v:= .pre t b.toNat cap ex}) aP
    |_=>aP
   |lo,hi,mx=>Z4 e t 0 len cap ex lo hi mx k) else aP
  |_=>aP
 | .part t off len cap ex=>match nth s t with
  |some (.arr r _)=>bif bu r.length esz then Z4 e t off len cap ex lo hi mx k else aP
  |_=>aP
 |_=>aP
def jQ {α:Type} (l:List α) (n:Nat) (m:List α):List α:=l.take n++m++l.drop (n+m.length)
def SV.isPart:SV->Bool
 | .part .. =>true
 |_=>false
def aBk (s:List SB) (z:List Nat) (esz:Nat) (x y:SV) (k:gZ->iK R):iK R:=
 match GS s y with
 |none=>aP
 |some ⟨q,m⟩=>bif bu q.length esz then (match x with
  | .nil _ c=>bif c then nZ (bU m) fun m'=>k {v:= .own s.length false,news:=[.arr q m'],rd:=CC y} else aP
  | .own t ex=>match nth s t with
   |some (.arr r l)=>match xY q r m with
    |none=>aP
    |some m=>match ex with
     |true=>iO l.isEmpty (nZ (bU m) fun m'=>k {v:= .own s.length false,news:=[.arr r m'],rd:=t::CC y})
      (iO m.isEmpty (k {v:= .own t true,rd:=CC y}) (nZ (bN l m) fun l'=>k {v:= .own s.length false,news:=[.arr r l'],rd:=t::CC y}))
     |false=>iO m.isEmpty (k {v:= .own t false,rd:=CC y})
      (bif has z t then aP else nZ (bN l m) fun l'=>k {v:= .own s.length false,news:=[.arr r l'],wr:=[(t,.dead)],rd:=CC y})
   |_=>aP
  | .pre t len cap ex=>match nth s t with
   |some (.arr r l)=>match xY q r m with
    |none=>aP
    |some m=>bif ex then aP else iO m.isEmpty (k {v:= .pre t len cap false,rd:=CC y})
     (iO (cz (len+m.length) cap) (iO (cz (len+m.length) l.length&&!has z t) (k {v:= .pre t (len+m.length) cap false,wr:=[(t,.arr r (jQ l len m))],rd:=CC y}) aP)
      (bif has z t||y.isPart then aP else nZ (bN (l.take len) m) fun l'=>iO (cz len l.length) (k {v:= .own s.length false,news:=[.arr r l'],wr:=[(t,.dead)],rd:=CC y}) aP))
   |_=>aP
  |_=>aP) else aP
def aEe (s:List SB) (z:List Nat) (esz:Nat) (zero:qJ) (x:SV) (k:gZ->iK R):iK R:=
 match x with
 | .part t off len _ _=>match nth s t with
  |some (.arr r l)=>match N6 zero with
   |some q=>bif IZ q r&&bu r.length esz then iO (bu len 0) (k {v:= .undef})
    (iO (cz (off+len) l.length&&!has z t) (k {v:= .undef,wr:=[(t,.arr r (jQ l off (dj len (RT.zero r))))]}) aP) else aP
   |none=>aP
  |_=>aP
 |_=>aP
def aBl (n:Option Nat) (zero:PV) (ok:Bool) (t:Nat) (l:List (List Int)) (q:SV) (k:gZ->iK R):iK R:=
 match zero,ok with
 | .bool false,false=>oI (aGn n q) fun a=>nZ (WG l a) fun b=>k {v:= .bool b,rd:=[t]}
 |_,_=>aP
def aEf (n:Option Nat) (t:Nat) (l:List (List Int)) (q x:SV) (k:gZ->iK R):iK R:=
 match x with
 | .bool true=>oI (aGn n q) fun a=>nZ (WH l a) fun m=>k {v:= .undef,wr:=[(t,.set m)]}
 |_=>aP
def PT.get:(p:PT)->p.T->List (RT [.i .i64,p])->Int->p.T
 | .i _,z,l,k=>vR (α:=Int) z l k
 | .b,z,l,k=>vR (α:=Bool) z l k
def PT.put:(p:PT)->List (RT [.i .i64,p])->Int->p.T->List (RT [.i .i64,p])
 | .i _,l,k,a=>tG (α:=Int) l k a
 | .b,l,k,a=>tG (α:=Bool) l k a
def aBm (n:Option Nat) (zero:PV) (ok:Bool) (t:Nat) (p:PT) (l:List (RT [.i .i64,p])) (q:SV) (k:gZ->iK R):iK R:=
 match n with
 |none=>match ok with
  |false=>match q with
   | .int .i64 a=>oI (p.of (aGl zero)) fun z=>k {v:=p.sv (p.get z l a),rd:=[t]}
   |_=>aP
  |true=>aP
 |some _=>aP
def aEg (n:Option Nat) (t:Nat) (p:PT) (l:List (RT [.i .i64,p])) (q x:SV) (k:gZ->iK R):iK R:=
 match n with
 |none=>match q with
  | .int .i64 a=>oI (p.of x) fun v=>k {v:= .undef,wr:=[(t,.tab p (p.put l a v))]}
  |_=>aP
 |some _=>aP
def N7 (s:List SB) (z:List Nat) (t:Nat) (r:List PT) (l:List (RT r)) (off len:Nat) (y:SV) (k:gZ->iK R):iK R:=
 match GS s y with
 |none=>aP
 |some ⟨q,m⟩=>match xY q r m with
  |none=>aP
  |some m=>iO (m.take len).isEmpty (k {v:= .int .i64 0,rd:=CC y})
   (iO (cz (off+(m.take len).length) l.length&&!has z t) (k {v:= .int .i64 (.ofNat (m.take len).length),wr:=[(t,.arr r (jQ l off (m.take len)))],rd:=CC y}) aP)
def aOa (s:List SB) (z:List Nat) (esz:Nat) (x y:SV) (k:gZ->iK R):iK R:=
 match x with
 | .own t _=>match nth s t with
  |some (.arr r l)=>bif bu r.length esz then N7 s z t r l 0 l.length y k else aP
  |_=>aP
 | .pre t len _ _=>match nth s t with
  |some (.arr r l)=>bif bu r.length esz then N7 s z t r l 0 len y k else aP
  |_=>aP
 | .part t off len _ _=>match nth s t with
  |some (.arr r l)=>bif bu r.length esz then N7 s z t r l off len y k else aP
  |_=>aP
 |_=>aP
def pL (e:SE) (s:List SB) (z:List Nat) (op:nX) (k:gZ->iK R):iK R:=
 match op with
 | .mov x=>k {v:=bZ e x}
 | .pick c a b=>match bZ e c with
  | .bool c=>iO c (k {v:=bZ e a}) (k {v:=bZ e b})
  |_=>aP
 | .bin op x y=>match bZ e x with
  | .int ka a=>match bZ e y with
   | .int kb b=>match op with
    | .shl=>iO (decide (b<0)) aP (k {v:= .int ka (aXa ka a b)})
    | .shr=>iO (decide (b<0)) aP (k {v:= .int ka (rQ ka a b)})
    |op=>bif gE ka kb then Z3 op ka a b (ofV k) else aP
   |_=>aP
  |_=>aP
 | .binb neg x y=>match bZ e x with
  | .bool a=>match bZ e y with
   | .bool b=>k {v:= .bool (bif neg then !(a==b) else a==b)}
   |_=>aP
  |_=>aP
 | .eqc n neg x y=>match bZ e x with
  | .agg xs=>match bZ e y with
   | .agg ys=>bif bu xs.length n&&bu ys.length n then oI (eqS xs ys) fun b=>k {v:= .bool (bif neg then !b else b)} else aP
   |_=>aP
  |_=>aP
 | .un op x=>match op with
  | .neg=>match bZ e x with
   | .int a n=>k {v:= .int a (aA a (0-n))}
   |_=>aP
  | .not=>match bZ e x with
   | .bool b=>k {v:= .bool !b}
   |_=>aP
  |_=>aP
 | .conv a x=>match bZ e x with
  | .int _ n=>k {v:= .int a (aA a n)}
  |_=>aP
 | .len x=>match bZ e x with
  | .nil _ _=>k {v:= .int .i64 0}
  | .pre _ len _ _=>k {v:= .int .i64 (.ofNat len)}
  | .part _ _ len _ _=>k {v:= .int .i64 (.ofNat len)}
  |v=>oI (GS s v) fun c=>k {v:= .int .i64 (.ofNat c.l.length)}
 | .lenc n=>k {v:= .int .i64 (.ofNat n)}
 | .box x=>oI (bZ e x).stored fun cs=>k {v:= .bp s.length cs.length 0,news:=[.box cs]}
 | .alloc cells=>k {v:= .bp s.length cells.length 0,news:=[.box (ofPVL cells)]}
 | .build zero parts=>oI (CD (EI e parts) (ofPVL zero)) fun cs=>k {v:= .agg cs}
 | .mkrow esz n zero parts=>oI (N6 zero) fun r=>bif bu r.length esz then oI (aBi r e n parts) fun ps=>
  k {v:= .own s.length true,news:=[.arr r (TS (fun i=>L0 i (RT.zero r) ps) 0 n)]} else aP
 | .mkbox x y=>match bZ e x with
  | .sl r l=>match bZ e y with
   | .sl q m=>k {v:= .part s.length 0 2 2 true,news:=[.box [.sl r l,.sl q m]]}
   |_=>aP
  |_=>aP
 | .load agg p=>aN9 s agg (bZ e p) k
 | .store sz p v=>aEd s z sz (bZ e p) (bZ e v) k
 | .nilc x=>match bZ e x with
  | .pa t r i a o=>k {v:= .pa t r i a o}
  | .pb t i o=>k {v:= .pb t i o}
  | .bp t n o=>k {v:= .bp t n o}
  | .rptr c o=>k {v:= .rptr c o}
  | .clo f a b=>k {v:= .clo f a b}
  |_=>aP
 | .fadr off p=>match bZ e p with
  | .pa t r i a o=>k {v:= .pa t r i a (o+off)}
  | .pb t i o=>k {v:= .pb t i (o+off)}
  | .bp t n o=>k {v:= .bp t n (o+off)}
  | .rptr c o=>k {v:= .rptr c (o+off)}
  |_=>aP
 | .fld agg off x=>match bZ e x with
  | .agg cs=>oI (GR agg off cs) (ofV k)
  |_=>aP
 | .iadr esz x i=>match bZ e i with
  | .int _ n=>aN8 s esz (bZ e x) n k
  |_=>aP
 | .iadra n esz p i=>match bZ e i with
  | .int _ j=>match bZ e p with
   | .bp t m o=>WI n j 0 fun j=>k {v:= .bp t m (o+j*esz)}
   | .rptr c o=>WI n j 0 fun j=>k {v:= .rptr c (o+j*esz)}
   |_=>aP
  |_=>aP
 | .idx n esz agg x i=>match bZ e i with
  | .int _ j=>match bZ e x with
   | .agg cs=>WI n j 0 fun j=>oI (GR agg (j*esz) cs) (ofV k)
   |_=>aP
  |_=>aP
 | .sidx x i=>match bZ e i with
  | .int _ j=>match bZ e x with
   | .str t=>nZ (aN7 t j) fun b=>k {v:= .int .u8 b}
   |_=>aP
  |_=>aP
 | .slc esz x lo hi mx=>aUI e s esz (bZ e x) lo hi mx k
 | .clear esz zero x=>aEe s z esz zero (bZ e x) k
 | .copy esz x y=>aOa s z esz (bZ e x) (bZ e y) k
 | .mks esz zero l c=>match bZ e l with
  | .int _ n=>match bZ e c with
   | .int _ m=>iO (n==m) (oI (N6 zero) fun r=>bif bu r.length esz then nZ (GQ n (RT.zero r)) fun x=>k {v:= .own s.length true,news:=[.arr r x]} else aP) aP
   |_=>aP
  |_=>aP
 | .mkf fn a b=>k {v:= .clo fn (lV e a) (lV e b)}
 | .mkm z=>match z with
  |none=>k {v:= .mp s.length,news:=[.set []]}
  |some z=>oI (iU z) fun p=>k {v:= .mp s.length,news:=[.tab p []]}
 | .lookup n zero ok m q=>match bZ e m with
  | .mp t=>match nth s t with
   |some (.set l)=>aBl n zero ok t l (bZ e q) k
   |some (.tab p l)=>aBm n zero ok t p l (bZ e q) k
   |_=>aP
  |_=>aP
 | .mapu n m q x=>match bZ e m with
  | .mp t=>match nth s t with
   |some (.set l)=>bif has z t then aP else aEf n t l (bZ e q) (bZ e x) k
   |some (.tab p l)=>bif has z t then aP else aEg n t p l (bZ e q) (bZ e x) k
   |_=>aP
  |_=>aP
 | .ext i x=>match bZ e x with
  | .tup vs=>oI (nth vs i) (ofV k)
  |_=>aP
 | .append esz x y=>aBk s z esz (bZ e x) (bZ e y) k
 | .mm isMax x xs=>match bZ e x with
  | .int a n=>oI (mmS isMax a n (lV e xs)) (ofV k)
  |_=>aP
 |_=>aP
end
mutual
def RR (s:List SB) (bx:Nat->Option (List SV)):SV->Option SV
 | .int k n=>some (.int k n)
 | .bool b=>some (.bool b)
 | .str x=>some (.str x)
 | .nilf=>some .nilf
 | .agg cs=>match exVL s bx cs with|some l=>some (.agg l)|none=>none
 | .tup cs=>match exVL s bx cs with|some l=>some (.tup l)|none=>none
 | .sl r l=>some (.sl r l)
 | .nil e _=>some (.nil e false)
 | .own t _=>match nth s t with
  |some (.arr r l)=>some (.sl r l)
  |_=>none
 | .pre t len _ _=>match nth s t with
  |some (.arr r l)=>some (.sl r (l.take len))
  |_=>none
 | .part t off len _ _=>match nth s t with
  |some (.arr r l)=>some (.sl r ((l.drop off).take len))
  |_=>none
 | .pa t r _ a off=>match nth s t with
  |some (.arr _ _)=>some (.rptr (RT.sv r a) off)
  |_=>none
 | .bp t _ off=>match nth s t with
  |some (.box _)=>match bx t with|some l=>some (.rptr l off)|none=>none
  |_=>none
 | .rptr cs off=>match exVL s bx cs with|some l=>some (.rptr l off)|none=>none
 | .clo f a b=>match exVL s bx a,exVL s bx b with
  |some x,some y=>some (.clo f x y)
  |_,_=>none
 |_=>none
def exVL (s:List SB) (bx:Nat->Option (List SV)):List SV->Option (List SV)
 | []=>some []
 |x::xs=>match RR s bx x,exVL s bx xs with
  |some y,some ys=>some (y::ys)
  |_,_=>none
end
def Z5 (s:List SB) (bx:Nat->Option (List SV)):List SV->Bool
 | []=>true
 |x::xs=>match x with
  | .mp _=>Z5 s bx xs
  |x=>match RR s bx x with
   |some _=>Z5 s bx xs
   |none=>false
def nI (s:List SB):Nat->Nat->Option (List SV)
 |0,_=>none
 |n+1,t=>match nth s t with
  |some (.box cs)=>exVL s (nI s n) cs
  |_=>none
mutual
def Z6 (bx:Nat->List Nat):SV->List Nat
 | .agg cs=>tkVL bx cs
 | .tup cs=>tkVL bx cs
 | .own t _=>[t]
 | .pre t _ _ _=>[t]
 | .part t _ _ _ _=>[t]
 | .pa t _ _ _ _=>t::bx t
 | .pb t _ _=>t::bx t
 | .bp t _ _=>t::bx t
 | .rptr cs _=>tkVL bx cs
 | .mp t=>[t]
 | .clo _ a b=>tkVL bx a++tkVL bx b
 |_=>[]
def tkVL (bx:Nat->List Nat):List SV->List Nat
 | []=>[]
 |x::xs=>Z6 bx x++tkVL bx xs
end
def D1 (s:List SB):Nat->Nat->List Nat
 |0,_=>[]
 |n+1,t=>match nth s t with
  |some (.box cs)=>tkVL (D1 s n) cs
  |_=>[]
mutual
def SV.sure:SV->Bool
 | .junk=>false
 | .agg cs=>sureL cs
 | .tup cs=>sureL cs
 | .rptr cs _=>sureL cs
 | .clo _ a b=>sureL a&&sureL b
 |_=>true
def sureL:List SV->Bool
 | []=>true
 |x::xs=>x.sure&&sureL xs
end
mutual
def HL:SV->Bool
 | .int _ _| .bool _| .str _=>true
 | .agg cs=>norefSL cs
 | .tup cs=>norefSL cs
 |_=>false
def norefSL:List SV->Bool
 | []=>true
 |x::xs=>HL x&&norefSL xs
end
mutual
def imV (s:List SB):SV->Option SV
 | .int k n=>some (.int k n)
 | .bool b=>some (.bool b)
 | .str x=>some (.str x)
 | .agg cs=>match imVL s cs with|some l=>some (.agg l)|none=>none
 | .tup cs=>match imVL s cs with|some l=>some (.tup l)|none=>none
 | .sl r l=>some (.sl r l)
 | .nil e _=>some (.nil e false)
 | .own t _=>match nth s t with
  |some (.arr r l)=>some (.sl r l)
  |_=>none
 | .pre t len _ _=>match nth s t with
  |some (.arr r l)=>some (.sl r (l.take len))
  |_=>none
 | .part t off len _ _=>match nth s t with
  |some (.arr r l)=>some (.sl r ((l.drop off).take len))
  |_=>none
 |_=>none
def imVL (s:List SB):List SV->Option (List SV)
 | []=>some []
 |x::xs=>match imV s x,imVL s xs with
  |some y,some ys=>some (y::ys)
  |_,_=>none
end
mutual
def aC0 (s:List SB) (z:List Nat):List Nat->SV->Option (SV×List Nat)
 |seen,.int k n=>some (.int k n,seen)
 |seen,.bool b=>some (.bool b,seen)
 |seen,.agg cs=>match imOVL s z seen cs with|some p=>some (.agg p.1,p.2)|none=>none
 |seen,.tup cs=>match imOVL s z seen cs with|some p=>some (.tup p.1,p.2)|none=>none
 |seen,.nil e c=>bif c then some (.nil e false,seen) else none
 |seen,.own t _=>match nth s t with
  |some (.arr r l)=>bif has seen t||has z t then none else some (.sl r l,t::seen)
  |_=>none
 |_,_=>none
def imOVL (s:List SB) (z:List Nat):List Nat->List SV->Option (List SV×List Nat)
 |seen,[]=>some ([],seen)
 |seen,x::xs=>match aC0 s z seen x with
  |some p=>match imOVL s z p.2 xs with
   |some q=>some (p.1::q.1,q.2)
   |none=>none
  |none=>none
end
mutual
def EJ:Nat->SV->SV×List SB
 |nx,.sl r l=>(.own nx false,[.arr r l])
 |nx,.nil e _=>(.own nx false,[.arr (dj e (.i .i64)) []])
 |nx,.agg cs=>(.agg (ownOfL nx cs).1,(ownOfL nx cs).2)
 |nx,.tup cs=>(.tup (ownOfL nx cs).1,(ownOfL nx cs).2)
 |_,v=>(v,[])
def ownOfL:Nat->List SV->List SV×List SB
 |_,[]=>([],[])
 |nx,x::xs=>((EJ nx x).1::(ownOfL (nx+(EJ nx x).2.length) xs).1,(EJ nx x).2++(ownOfL (nx+(EJ nx x).2.length) xs).2)
end
def N8:SB->List Nat
 | .box cs=>tkVL zF cs
 |_=>[]
def FT:SB->Bool
 | .box cs=>sureL cs
 |_=>true
def KS (s:List SB):Nat->List Nat->List Nat->Option (List Nat)
 |_,[],seen=>some seen
 |0,_::_,_=>none
 |n+1,t::ts,seen=>
  bif has seen t then KS s n ts seen
  else match nth s t with
   |some b=>bif FT b then KS s n (N8 b++ts) (seen++[t]) else none
   |none=>none
mutual
def vT (m:List Nat):SV->Option SV
 | .agg cs=>match renVL m cs with|some l=>some (.agg l)|none=>none
 | .tup cs=>match renVL m cs with|some l=>some (.tup l)|none=>none
 | .own t ex=>match vJ t m with|some u=>some (.own u ex)|none=>none
 | .pre t len cap ex=>match vJ t m with|some u=>some (.pre u len cap ex)|none=>none
 | .part t off len cap ex=>match vJ t m with|some u=>some (.part u off len cap ex)|none=>none
 | .pa t _ i _ off=>match vJ t m with|some u=>some (.pb u i off)|none=>none
 | .pb t i off=>match vJ t m with|some u=>some (.pb u i off)|none=>none
 | .bp t n off=>match vJ t m with|some u=>some (.bp u n off)|none=>none
 | .rptr cs off=>match renVL m cs with|some l=>some (.rptr l off)|none=>none
 | .mp t=>match vJ t m with|some u=>some (.mp u)|none=>none
 | .clo f a b=>match renVL m a,renVL m b with
  |some x,some y=>some (.clo f x y)
  |_,_=>none
 | .junk=>none
 |v=>some v
def renVL (m:List Nat):List SV->Option (List SV)
 | []=>some []
 |x::xs=>match vT m x,renVL m xs with
  |some y,some ys=>some (y::ys)
  |_,_=>none
end
def Z7 (m:List Nat):SB->Option SB
 | .box cs=>match renVL m cs with|some l=>some (.box l)|none=>none
 |b=>some b
def QX (s:List SB) (m:List Nat):List Nat->Option (List SB)
 | []=>some []
 |t::ts=>match nth s t with
  |some b=>match Z7 m b,QX s m ts with
   |some b',some r=>some (b'::r)
   |_,_=>none
  |none=>none
def DS (rk:List (Nat×List PT)) (esz:Nat):List PT:=
 match rk with
 | []=>dj esz (.i .i64)
 |(n,r)::q=>bif bu n esz&&bu r.length esz then r else DS q esz
def TU:Option Nat->SV->SV
 |some _,.own t _=> .own t false
 |some _,.pre t l c _=> .pre t l c false
 |some _,.part t o l c _=> .part t o l c false
 |_,v=>v
def DT (rk:List (Nat×List PT)) (e:SE) (m:List Nat):Nat->List (Nat×Option Nat)->Option (SE×List SB)
 |_,[]=>some ([],[])
 |nx,(s,k)::r=>
  match k,QT s e with
  |some esz,.nil _ true=>match DT rk e m (nx+1) r with
   |some p=>some ((s,.own nx false)::p.1,.arr (DS rk esz) []::p.2)
   |none=>none
  |_,v=>match vT m v,DT rk e m nx r with
   |some v',some p=>some ((s,TU k v')::p.1,p.2)
   |_,_=>none
def N9 (rk:List (Nat×List PT)) (st:vS) (t c esz:Nat):vS:=
 match nth st.sto t with
 |some (.box cs)=>match nth cs c with
  |some (.nil _ true)=>{st with sto:=st.sto.set t (.box (cs.set c (.own st.sto.length false)))++[.arr (DS rk esz) []]}
  |_=>st
 |_=>st
def aEi:SV->Option Nat
 | .bp t _ 0=>some t
 |_=>none
def aGo:SV->Option Nat
 | .clo _ _ (x::_)=>aEi x
 |x=>aEi x
def oZ (rk:List (Nat×List PT)):List (Nat×Option Nat)->vS->vS
 | [],st=>st
 |(s,k)::r,st=>match k with
  |some n=>bif cz 1000 n then (match aGo (QT s st.env) with
   |some t=>oZ rk r (N9 rk st t (n / 1000-1) (n%1000))
   |none=>oZ rk r st) else oZ rk r st
  |none=>oZ rk r st
def RS (s:List SB) (v:SV):SV:=
 match v with
 | .own t ex=>match nth s t with
  |some (.arr _ l)=> .pre t l.length l.length ex
  |_=>v
 |_=>v
def aBn (s:List SB) (c:Nat):SE->SE
 | []=>[]
 |(t,v)::r=>bif bu t c then (t,RS s v)::r else (t,v)::aBn s c r
def I0:List (Nat×Option Nat)->vS->vS
 | [],st=>st
 |(t,_)::r,st=>bif cz 1000000 t then I0 r {st with env:=aBn st.sto (t-1000000) st.env} else I0 r st
def I1 (e:SE):List (Nat×Option Nat)->Bool
 | []=>true
 |(s,_)::r=>(QT s e).sure&&I1 e r
def OA (e:SE):List (Nat×Option Nat)->List Nat
 | []=>[]
 |(s,_)::r=>Z6 zF (QT s e)++OA e r
def Z8:List SB->Nat->List Nat
 |b::r,n+1=>N8 b++Z8 r n
 |_,_=>[]
def OB:List SB->Nat->Bool
 |b::r,n+1=>FT b&&OB r n
 |_,_=>true
def OC (rk:List (Nat×List PT)) (live:List (Nat×Option Nat)) (st:vS):Option vS:=
 bif I1 st.env live&&OB st.sto st.kn then
  match KS st.sto 4096 (Z8 st.sto st.kn++OA st.env live) (A8 st.kn) with
  |none=>none
  |some m=>match QX st.sto m m,DT rk st.env m m.length live with
   |some s1,some (e1,s2)=>some (I0 live (oZ rk live {env:=e1,sto:=s1++s2,fz:=D5 st.fz 0 m,kn:=st.kn}))
   |_,_=>none
 else none
def OD (rk:List (Nat×List PT)) (live:List (Nat×Option Nat)) (st:vS):Option vS:=
 match OC rk live st with
 |some s=>bif live.any fun p=>p.2.isSome then OC rk live s else some s
 |none=>none
inductive AK where
 |i
 |b
 |n
 |l (r:List PT)
 |s
@[reducible] def AK.T : AK -> Type
  | .i => Int
  | .b => Bool
  | .n => Nat
  | .l r => List (RT r)
  | .s => List (List Int)
@[reducible] def mO : List AK -> Type
  | [] => Unit
  | [a] => a.T
  | a :: q :: r => a.T × mO (q :: r)
inductive D2 where
 |i (n:Int)
 |b (x:Bool)
 |n (x:Nat)
 |l (r:List PT) (x:List (RT r))
 |s (x:List (List Int))
def D2.k:D2->AK
 | .i _=> .i
 | .b _=> .b
 | .n _=> .n
 | .l r _=> .l r
 | .s _=> .s
def AK.at:(a:AK)->a.T->D2
 | .i,x=> .i x
 | .b,x=> .b x
 | .n,x=> .n x
 | .l r,x=> .l r x
 | .s,x=> .s x
def AK.of:(a:AK)->D2->Option a.T
 | .i,.i x=>some x
 | .b,.b x=>some x
 | .n,.n x=>some x
 | .l r,.l q x=>xY q r x
 | .s,.s x=>some x
 |_,_=>none
def pO:(ks:List AK)->mO ks->List D2
 | [],_=>[]
 | [a],x=>[a.at x]
 |a::q::r,x=>a.at x.1::pO (q::r) x.2
def wN:(ks:List AK)->List D2->Option (mO ks)
 | [],[]=>some ()
 | [a],[x]=>a.of x
 |a::q::r,x::xs=>match a.of x,wN (q::r) xs with
  |some y,some ys=>some (y,ys)
  |_,_=>none
 |_,_=>none
mutual
def KT:SV->List D2
 | .int _ n=>[.i n]
 | .bool b=>[.b b]
 | .agg cs=>atsL cs
 | .tup cs=>atsL cs
 | .sl r l=>[.l r l]
 | .pre _ len cap _=>[.n len,.n cap]
 | .part _ off len cap _=>[.n off,.n len,.n cap]
 | .pb _ i _=>[.i i]
 | .rptr cs _=>atsL cs
 | .clo _ a b=>atsL a++atsL b
 |_=>[]
def atsL:List SV->List D2
 | []=>[]
 |x::xs=>KT x++atsL xs
end
def aEj:SB->List D2
 | .arr r l=>[.l r l]
 | .box cs=>atsL cs
 | .set l=>[.s l]
 | .tab p l=>[.l [.i .i64,p] l]
 | .dead=>[]
def TV:List SB->List D2
 | []=>[]
 |b::r=>aEj b++TV r
def aC1:SE->List D2
 | []=>[]
 |(_,v)::r=>KT v++aC1 r
def DU (st:vS):List D2:=aC1 st.env++TV st.sto
mutual
def DV:SV->SV->Bool
 | .undef,.undef=>true
 | .nul,.nul=>true
 | .nilf,.nilf=>true
 | .int k _,.int l _=>gE k l
 | .bool _,.bool _=>true
 | .agg a,.agg b=>likeL a b
 | .tup a,.tup b=>likeL a b
 | .sl r _,.sl q _=>IZ r q
 | .nil e c,.nil f d=>bu e f&&c==d
 | .own t x,.own u y=>bu t u&&x==y
 | .pre t _ _ x,.pre u _ _ y=>bu t u&&x==y
 | .part t _ _ _ x,.part u _ _ _ y=>bu t u&&x==y
 | .pb t _ o,.pb u _ p=>bu t u&&bu o p
 | .bp t n o,.bp u m p=>bu t u&&bu n m&&bu o p
 | .rptr a o,.rptr b p=>likeL a b&&bu o p
 | .clo f a b,.clo g c d=>bu f g&&likeL a c&&likeL b d
 | .mp t,.mp u=>bu t u
 |_,_=>false
def likeL:List SV->List SV->Bool
 | [],[]=>true
 |x::xs,y::ys=>DV x y&&likeL xs ys
 |_,_=>false
end
def aOb:SB->SB->Bool
 | .arr r _,.arr q _=>IZ r q
 | .box a,.box b=>likeL a b
 | .set _,.set _=>true
 | .tab p _,.tab q _=>p.same q
 | .dead,.dead=>true
 |_,_=>false
def OE:List SB->List SB->Bool
 | [],[]=>true
 |x::xs,y::ys=>aOb x y&&OE xs ys
 |_,_=>false
def aBo:SE->SE->Bool
 | [],[]=>true
 |(t,x)::xs,(u,y)::ys=>bu t u&&DV x y&&aBo xs ys
 |_,_=>false
def aBp:List Nat->List Nat->Bool
 | [],[]=>true
 |x::xs,y::ys=>bu x y&&aBp xs ys
 |_,_=>false
def OF (a b:vS):Bool:=aBo a.env b.env&&OE a.sto b.sto&&aBp a.fz b.fz&&bu a.kn b.kn
mutual
def zI:SV->List D2->SV×List D2
 | .int k _,.i n::q=>(.int k n,q)
 | .bool _,.b x::q=>(.bool x,q)
 | .agg cs,q=>(.agg (putL cs q).1,(putL cs q).2)
 | .tup cs,q=>(.tup (putL cs q).1,(putL cs q).2)
 | .sl _ _,.l r l::q=>(.sl r l,q)
 | .pre t _ _ x,.n len:: .n cap::q=>(.pre t len cap x,q)
 | .part t _ _ _ x,.n off:: .n len:: .n cap::q=>(.part t off len cap x,q)
 | .pb t _ o,.i i::q=>(.pb t i o,q)
 | .rptr cs o,q=>(.rptr (putL cs q).1 o,(putL cs q).2)
 | .clo f a b,q=>(.clo f (putL a q).1 (putL b (putL a q).2).1,(putL b (putL a q).2).2)
 |v,q=>(v,q)
def putL:List SV->List D2->List SV×List D2
 | [],q=>([],q)
 |x::xs,q=>((zI x q).1::(putL xs (zI x q).2).1,(putL xs (zI x q).2).2)
end
def Z9:SB->List D2->SB×List D2
 | .arr _ _,.l r l::q=>(.arr r l,q)
 | .box cs,q=>(.box (putL cs q).1,(putL cs q).2)
 | .set _,.s l::q=>(.set l,q)
 | .tab _ _,.l [.i .i64,p] l::q=>(.tab p l,q)
 |b,q=>(b,q)
def HM:List SB->List D2->List SB×List D2
 | [],q=>([],q)
 |b::r,q=>((Z9 b q).1::(HM r (Z9 b q).2).1,(HM r (Z9 b q).2).2)
def WJ:SE->List D2->SE×List D2
 | [],q=>([],q)
 |(t,v)::r,q=>((t,(zI v q).1)::(WJ r (zI v q).2).1,(WJ r (zI v q).2).2)
def GT (st:vS) (q:List D2):vS:={st with env:=(WJ st.env q).1,sto:=(HM st.sto (WJ st.env q).2).1}
def aOA:List D2->List AK
 | []=>[]
 |a::r=>a.k::aOA r
def ptK {β:Type 1} (p:PT) (c:PT->β):β:=
 match p with
 | .i k=>c (.i k)
 | .b=>c .b
def rK {β:Type 1}:List PT->(List PT->β)->β
 | [],c=>c []
 |p::r,c=>ptK p fun p=>rK r fun r=>c (p::r)
def ksK {β:Type 1}:List AK->(List AK->β)->β
 | [],c=>c []
 | .i::r,c=>ksK r fun r=>c (.i::r)
 | .b::r,c=>ksK r fun r=>c (.b::r)
 | .n::r,c=>ksK r fun r=>c (.n::r)
 | .l q::r,c=>rK q fun q=>ksK r fun r=>c (.l q::r)
 | .s::r,c=>ksK r fun r=>c (.s::r)
mutual
def xZ:SV->Option PV
 | .int k n=>some (.int k n)
 | .bool b=>some (.bool b)
 | .str x=>some (.str x)
 | .nilf=>some .nilf
 | .agg cs=>match pvL cs with|some l=>some (.agg l)|none=>none
 | .tup cs=>match pvL cs with|some l=>some (.tup l)|none=>none
 | .sl r l=>some (.sl r.length false (l.map (RT.pv r)))
 | .nil e c=>some (.sl e c [])
 | .rptr cs off=>match pvL cs with|some l=>some (.rptr l off)|none=>none
 | .clo f a b=>match pvL a,pvL b with
  |some x,some y=>some (.clo f x y)
  |_,_=>none
 |_=>none
def pvL:List SV->Option (List PV)
 | []=>some []
 |x::xs=>match xZ x,pvL xs with
  |some y,some ys=>some (y::ys)
  |_,_=>none
end
structure cP (α:Type) where
 enc:α->List SV
 dec:List SV->Option (α×List SV)
 law: ∀{vs:List SV} {a:α} {rest:List SV} {ps:List PV},dec vs=some (a,rest)->pvL vs=some ps-> ∃p q,ps=p++q/\pvL (enc a)=some p/\pvL rest=some q
structure aK (α:Type) where
 enc:α->SV
 dec:SV->Option α
 law: ∀{v:SV} {a:α} {p:PV},dec v=some a->xZ v=some p->xZ (enc a)=some p
structure aC (α:Type) where
 enc:α->List SV
 dec:List SV->Option α
 law: ∀{vs:List SV} {a:α} {ps:List PV},dec vs=some a->pvL vs=some ps->pvL (enc a)=some ps
inductive Kd where
 |pure
 |frz
 |own
structure bI where
 {α β:Type}
 args:aC α
 res:aK β
 fn:α->Option β
 kd:Kd
 ow:Bool
structure eM where
 ka:List AK
 ta:List SV
 tb:List SB
 ko:List AK
 tv:SV
 to:List SB
 fn:mO ka->Option (mO ko)
def I2:(p:PT)->PV->Option p.T
 | .i k,.int l n=>bif gE l k then some n else none
 | .b,.bool x=>some x
 |_,_=>none
def QY:(r:List PT)->List PV->Option (RT r)
 | [],[]=>some ()
 | [p],[v]=>I2 p v
 |p::q::r,v::vs=>match I2 p v,QY (q::r) vs with
  |some a,some b=>some (a,b)
  |_,_=>none
 |_,_=>none
def L1 (r:List PT):List (List PV)->Option (List (RT r))
 | []=>some []
 |x::xs=>match QY r x,L1 r xs with
  |some a,some l=>some (a::l)
  |_,_=>none
structure Srt where
 r:List PT
 g:Option FuncId
 fn:List (RT r)->Option (List (RT r))
def aAa:Srt:=⟨[.i .i64],none,TQ⟩
def aGp:Option FuncId->List PV->Bool
 |none,[]=>true
 |some g,[.clo h [] []]=>bu h g
 |_,_=>false
def TW (q:Srt) (args:List PV) (sto:cV) (fz:List Nat):Option (PV×cV×List Nat):=
 match args with
 | .own t e off len _ _::r=>match sto[t]? with
  |some (.arr e1 rows)=>if bu e q.r.length&&bu off 0&&cz len rows.length&&cz len most&&!has fz t&&aGp q.g r then
   (match L1 q.r (rows.take len) with
   |some l=>match q.fn l with
    |some m=>if bu m.length l.length then some (.tup [],sto.set t (.arr e1 (m.map (RT.pv q.r)++rows.drop len)),fz) else none
    |none=>none
   |none=>none) else none
  |_=>none
 |_=>none
inductive Cd where
 |code (x:aM)
 |ins (esz:Nat)
 |srt (q:Srt)
 |cat
instance:Coe aM Cd:=⟨.code⟩
def Cd.ent:Cd->Ent
 | .code x=> .code x
 | .ins n=> .shp (TB n)
 | .srt q=> .shp (TW q)
 | .cat=> .shp S9
structure Ctx where
 lp:Option Nat
 con:FuncId->List bI
 fpc:FuncId->List eM
 code:FuncId->Option Cd
 rk:List (Nat×List PT)
inductive XRS where
 |loc (r:gZ)
 |shr (v:SV) (s:List SB) (z:List Nat)
def SV.hasPtr:SV->Bool
 | .own .. | .pre .. | .part .. | .pa .. | .pb .. | .bp .. | .mp .. =>true
 |_=>false
def anyPtr:List SV->Bool
 | []=>false
 |x::xs=>x.hasPtr||anyPtr xs
mutual
def dgV (ts:List Nat):SV->SV
 | .pa t r i a off=>bif has ts t then .pb t i off else .pa t r i a off
 | .agg cs=> .agg (dgL ts cs)
 | .tup cs=> .tup (dgL ts cs)
 | .rptr cs off=> .rptr (dgL ts cs) off
 | .clo f a b=> .clo f (dgL ts a) (dgL ts b)
 |v=>v
def dgL (ts:List Nat):List SV->List SV
 | []=>[]
 |x::xs=>dgV ts x::dgL ts xs
end
def dgE (ts:List Nat):SE->SE
 | []=>[]
 |(t,v)::r=>(t,dgV ts v)::dgE ts r
def dgB (ts:List Nat):SB->SB
 | .box cs=> .box (dgL ts cs)
 |b=>b
def KA (ts:List Nat):List SB->List SB
 | []=>[]
 |b::r=>dgB ts b::KA ts r
def aEk:List SB->Nat->SB->List SB
 | [],_,_=>[]
 |_::r,0,b=>b::r
 |x::r,n+1,b=>x::aEk r n b
def wO:List (Nat×SB)->List SB->List SB
 | [],s=>s
 |(t,b)::r,s=>wO r (aEk s t b)
def EK:List (Nat×SB)->List Nat
 | []=>[]
 |(t,_)::r=>t::EK r
def TX (d:Option Nat) (v:SV) (e:SE):SE:=
 match d with
 |some t=>(t,v)::e
 |none=>e
def apS:List SB->List SB->List SB
 | [],l=>l
 |b::r,l=>b::apS r l
def gZ.next (d:Option Nat) (st:vS) (r:gZ):vS:=
 match r.wr with
 | []=>{env:=TX d r.v st.env,sto:=apS st.sto r.news,fz:=r.fr++st.fz,kn:=st.kn}
 |w=>{env:=TX d r.v (dgE (EK w) st.env),sto:=apS (KA (EK w) (wO w st.sto)) r.news,fz:=r.fr++st.fz,kn:=st.kn}
def gZ.ok (z:List Nat) (r:gZ):Bool:=(EK r.wr).all fun t=>!has z t
def gZ.tr (nx:Nat) (r:gZ):Tr:=
 ⟨r.rd++r.fr,EK r.wr,!r.news.isEmpty,false,(r.rd++r.fr).all (dt · nx)&&(EK r.wr).all (dt · nx),nx,nx+r.news.length⟩
def aEl:Tr:=⟨[],[],true,true,true,0,0⟩
def uK {R:Type}:List SB->List SB->iK R->iK R
 | [],_,k=>k
 |x::xs,y::ys,k=>match x with
  | .arr r l=>match y with
   | .arr q m=>bif IZ r q then iO (m.length==l.length) (uK xs ys k) aP else aP
   | .dead=>uK xs ys k
   |_=>aP
  | .dead=>match y with
   | .dead=>uK xs ys k
   |_=>aP
  | .box _=>match y with
   | .box _=>uK xs ys k
   | .dead=>uK xs ys k
   |_=>aP
  |_=>uK xs ys k
 |_,_,_=>aP
abbrev Inl:=FuncId->List SV->List SB->List Nat-> ∀R:Type,(SV->List SB->List Nat->iK R)->iK R
section
variable {R : Type}
def aUJ (_:FuncId) (_:List SV):iK R:=aP
def aXb (_:FuncId) (_:List SV) (_:List SB):iK R:=aP
def aAb (f:FuncId) (m:Bool) (s:List SB) (tk:List Nat) (vs:List SV) (k:XRS->iK R):List bI->iK R
 | []=>aUJ f vs
 |c::r=>match c.args.dec vs with
  |some a=>bif m==c.ow then nZ (c.fn a) fun b=>match c.kd with
   | .pure=>k (.loc {v:=c.res.enc b,rd:=tk})
   | .frz=>k (.loc {v:=c.res.enc b,rd:=tk,fr:=tk})
   | .own=>k (.loc {v:=(EJ s.length (c.res.enc b)).1,news:=(EJ s.length (c.res.enc b)).2,rd:=tk}) else aAb f m s tk vs k r
  |none=>aAb f m s tk vs k r
mutual
def WK (g:Nat->Nat):SV->SV
 | .agg cs=> .agg (backL g cs)
 | .tup cs=> .tup (backL g cs)
 | .own t ex=> .own (g t) ex
 | .pre t len cap ex=> .pre (g t) len cap ex
 | .part t off len cap ex=> .part (g t) off len cap ex
 | .pa t _ i _ off=> .pb (g t) i off
 | .pb t i off=> .pb (g t) i off
 | .bp t n off=> .bp (g t) n off
 | .rptr cs off=> .rptr (backL g cs) off
 | .mp t=> .mp (g t)
 | .clo f a b=> .clo f (backL g a) (backL g b)
 |v=>v
def backL (g:Nat->Nat):List SV->List SV
 | []=>[]
 |x::xs=>WK g x::backL g xs
end
def aEm (g:Nat->Nat):SB->SB
 | .box cs=> .box (backL g cs)
 |b=>b
def GU (g:Nat->Nat):List Nat->List SB->List (Nat×SB)
 |t::r,b::s=>(t,aEm g b)::GU g r s
 |_,_=>[]
def aOd (k:Nat) (v:SV) (s:List SB):Bool:=(Z6 zF v++s.flatMap N8).all fun t=>dt t k
def fpS (f : FuncId) (n : Nat) (tk : List Nat) (vs : List SV) (s0 : List SB) (k : XRS -> iK R) : List eM -> iK R
  | [] => aXb f vs s0
  | c :: r => bif likeL c.ta vs && OE c.tb s0 then (match wN c.ka (atsL vs ++ TV s0) with
      | some a => nZ (c.fn a) fun b =>
          k (.loc { v := WK (mT tk n) (zI c.tv (pO c.ko b)).1, wr := GU (mT tk n) tk (HM c.to (zI c.tv (pO c.ko b)).2).1 })
      | none => fpS f n tk vs s0 k r) else fpS f n tk vs s0 k r
def RU (cx:Ctx) (inl:Inl) (e:SE) (s:List SB) (z:List Nat) (op:nX) (k:XRS->iK R):iK R:=
 match op with
 | .call m f args=>match m with
  | .pur=>match exVL s (nI s fH) (lV e args) with
   |some vs=>aAb f false s (tkVL (D1 s fH) (lV e args)) vs k (cx.con f)
   |none=>aP
  | .own=>match exVL s (nI s fH) (lV e args) with
   |some vs=>aAb f true s (tkVL (D1 s fH) (lV e args)) vs k (cx.con f)
   |none=>aP
  | .shr=>inl f (lV e args) s z R fun v s' z'=>k (.shr v s' z')
  | .fp=>match Z5 s (nI s fH) (lV e args) with
   |false=>aP
   |true=>let tk:=tF (tkVL (D1 s fH) (lV e args))
    bif tk.all (fun t=>!has z t) then (match renVL tk (lV e args),QX s tk tk with
     |some vs,some s0=>fpS f s.length tk vs s0 k (cx.fpc f)
     |_,_=>aP) else aP
 | .callv x args=>match bZ e x with
  | .clo f a b=>bif anyPtr (lV e args++b) then inl f (a++lV e args++b) s z R fun v s' z'=>k (.shr v s' z')
   else match exVL s (nI s fH) (a++lV e args++b) with
   |some vs=>aAb f false s (tkVL (D1 s fH) (a++lV e args++b)) vs k (cx.con f)
   |none=>aP
  |_=>aP
 |op=>pL e s z op fun r=>k (.loc r)
def goS (d:Option Nat) (st:vS) (tr:List Tr) (k:vS->List Tr->iK R) (x:XRS):iK R:=
 match x with
 | .loc r=>bif r.ok st.fz then aGm r.v fun v=>k ({r with v}.next d st) (r.tr st.sto.length::tr) else aP
 | .shr v s z=>aGm v fun v=>uK st.sto s (bif st.fz.all (has z) then k {env:=TX d v (dgE (A8 st.sto.length) st.env),sto:=s,fz:=z,kn:=st.kn} (aEl::tr) else aP)
def tM (cx:Ctx) (inl:Inl):List bX->vS->List Tr->(vS->List Tr->iK R)->iK R
 | [],st,tr,k=>k st tr
 |o::r,st,tr,k=>
  let run:=fun st:vS=>match o.op with
   | .pick (.t c) a b=>match QT c st.env with
    | .bool x=>iO x (goS o.dst {st with env:=setS c (.bool true) st.env} tr (tM cx inl r · · k) (.loc {v:=bZ st.env a}))
     (goS o.dst {st with env:=setS c (.bool false) st.env} tr (tM cx inl r · · k) (.loc {v:=bZ st.env b}))
    |_=>aP
   |op=>RU cx inl st.env st.sto st.fz op (goS o.dst st tr (tM cx inl r · · k))
  let skip:=fun st:vS=>tM cx inl r {st with env:=TX o.dst .nul st.env} (Tr.idle::tr) k
  match o.guard with
  |none=>run st
  |some (s,want)=>match QT s st.env with
   | .bool x=>bif want then iO x (run {st with env:=setS s (.bool true) st.env}) (skip {st with env:=setS s (.bool false) st.env})
    else iO x (skip {st with env:=setS s (.bool true) st.env}) (run {st with env:=setS s (.bool false) st.env})
   | .nul=>skip st
   |_=>aP
def WL (e:SE):List Nat->(SE->iK R)->iK R
 | [],k=>k []
 |s::r,k=>aGm (QT s e) fun v=>WL e r fun e'=>k ((s,v)::e')
noncomputable def I3 (cx:Ctx) (inl:Inl):(c:mL)->(R:Type)->vS->(jM->vS->iK R)->iK R
 | .skip,_,st,k=>k .normal st
 | .region d ops keep,_,st,k=>tM cx inl ops st [] fun st' tr=>
  let fin:=WL st'.env keep fun e=>k .normal {st' with env:=e}
  match d with
  |none=>fin
  |some bf=>match xB 0 (tr.reverse.zip bf) with
   |true=>fin
   |false=>aP
 | .seq a b,R,st,k=>I3 cx inl a R st fun e st'=>match e with
  | .normal=>I3 cx inl b R st' k
  |e=>k e st'
 | .cond c a b,R,st,k=>match bZ st.env c with
  | .bool x=>iO x (I3 cx inl a R st k) (I3 cx inl b R st k)
  |_=>aP
 | .block id b,R,st,k=>I3 cx inl b R st fun e st'=>match e with
  | .exit j=>bif bu j id then k .normal st' else k (.exit j) st'
  |e=>k e st'
 | .loop live b,_,st,k=>match OD cx.rk live st with
  |none=>aP
  |some st1=>ksK (aOA (DU st1)) fun ks=>match wN ks (DU st1) with
   |none=>aP
   |some y0=>fun ρ w=>aEb cx.lp (fun y:mO ks=>I3 cx inl b (bQ (mO ks) ρ) (GT st1 (pO ks y)) (fun e st2=>match e with
    | .normal=>match OD cx.rk live st2 with
     |some st3=>bif OF st1 st3 then (match wN ks (DU st3) with
      |some y'=>RQ (.next y')
      |none=>aP) else aP
     |none=>aP
    |e=>fun ρ' w'=>k e st2 ρ' fun r=>w' (.done (w r))) (bQ (mO ks) ρ) fun z=>z) y0
 | .exit id,_,st,k=>k (.exit id) st
 | .ret,_,st,k=>k .ret st
def aAc (st:vS):RV->Option SV
 | .tmp t=>some (QT t st.env)
 | .cell t agg=>match QT t st.env with
  | .bp t _ off=>match nth st.sto t with
   |some (.box cs)=>GR agg off cs
   |_=>none
  | .rptr cs off=>GR agg off cs
  |_=>none
def FU (st:vS):List RV->Option (List SV)
 | []=>some []
 |r::rs=>match aAc st r,FU st rs with
  |some v,some vs=>some (v::vs)
  |_,_=>none
def KU:List SV->SV
 | [v]=>v
 |vs=> .tup vs
def aAd:Nat->List SV->SE
 |_,[]=>[]
 |i,v::r=>(i,v)::aAd (i+1) r
noncomputable def WM (cx:Ctx) (inl:Inl) (x:aM) (R:Type) (args:List SV) (s:List SB) (z:List Nat) (k:SV->List SB->List Nat->iK R):iK R:=
 bif bu args.length x.nargs then I3 cx inl x.code R {env:=aAd 0 args,sto:=s,fz:=z,kn:=s.length} fun e st=>match e with
  | .exit _=>aP
  |_=>match FU st x.res with
   |some vs=>k (KU vs) st.sto st.fz
   |none=>aP
 else aP
def gZ.stoOf (s:List SB) (r:gZ):List SB:=
 match r.wr with
 | []=>apS s r.news
 |w=>apS (KA (EK w) (wO w s)) r.news
def L2:Option FuncId->List SV->Bool
 |none,[]=>true
 |some g,[.clo h [] []]=>bu h g
 |_,_=>false
structure aUK where
 t:Nat
 r:List PT
 l:List (RT r)
 i:Int
 m:List (RT r)
def aGs (esz:Nat) (args:List SV) (s:List SB) (z:List Nat):Option aUK:=
 match args with
 | [.own t _,.int .i64 i,.own u _]=>match nth s t with
  |some (.arr r l)=>match nth s u with
   |some (.arr q m)=>match xY q r m with
    |some m=>bif bu r.length esz&&!Nat.beq t u&&!has z t then some ⟨t,r,l,i,m⟩ else none
    |none=>none
   |_=>none
  |_=>none
 |_=>none
def aOD (esz:Nat) (args:List SV) (s:List SB) (z:List Nat) (k:SV->List SB->List Nat->iK R):iK R:=
 match aGs esz args s z with
 |some a=>nZ (FQ a.l a.i a.m) fun l'=>k (.own s.length false) (gZ.stoOf s {v:= .own s.length false,news:=[.arr a.r l'],wr:=[(a.t,.dead)]}) z
 |none=>aP
structure aUL where
 t:Nat
 r:List PT
 l:List (RT r)
 m:List (RT r)
def aGt (args:List SV) (s:List SB) (z:List Nat):Option aUL:=
 match args with
 | [.part t off len _ _]=>match nth s t with
  |some (.box [.sl r l,.sl q m])=>match xY q r m with
   |some m=>bif bu r.length 1&&bu off 0&&bu len 2&&!has z t then some ⟨t,r,l,m⟩ else none
   |none=>none
  |_=>none
 |_=>none
def aOE (args:List SV) (s:List SB) (z:List Nat) (k:SV->List SB->List Nat->iK R):iK R:=
 match aGt args s z with
 |some a=>nZ (aCZ a.l a.m) fun l'=>k (.own s.length false) (gZ.stoOf s {v:= .own s.length false,news:=[.arr a.r l'],wr:=[(a.t,.dead)]}) z
 |none=>aP
def aGu (r:List PT) (g:Option FuncId) (args:List SV) (s:List SB) (z:List Nat):Option (Nat×Option Nat×List (RT r)):=
 match args with
 | .own t _::a=>match nth s t with
  |some (.arr q l)=>match xY q r l with
   |some l=>bif !has z t&&L2 g a then some (t,none,l) else none
   |none=>none
  |_=>none
 | .pre t len _ _::a=>match nth s t with
  |some (.arr q l)=>match xY q r l with
   |some l=>bif !has z t&&L2 g a then some (t,some len,l) else none
   |none=>none
  |_=>none
 |_=>none
def aOF (q:Srt) (args:List SV) (s:List SB) (z:List Nat) (k:SV->List SB->List Nat->iK R):iK R:=
 match aGu q.r q.g args s z with
 |some (t,none,l)=>nZ (LZ q.fn l) fun m=>k (.tup []) (gZ.stoOf s {v:= .tup [],wr:=[(t,.arr q.r m)]}) z
 |some (t,some len,l)=>nZ (F0s q.fn len l) fun m=>k (.tup []) (gZ.stoOf s {v:= .tup [],wr:=[(t,.arr q.r m)]}) z
 |none=>aP
noncomputable def aEn (cx:Ctx):Nat->Inl
 |0=>fun _ _ _ _ _ _=>aP
 |n+1=>fun f args s z R k=>match cx.code f with
  |some (.code x)=>WM cx (aEn cx n) x R args s z k
  |some (.ins e)=>aOD e args s z k
  |some (.srt q)=>aOF q args s z k
  |some .cat=>aOE args s z k
  |none=>aP
def aEo (kd:Kd) {β:Type} (res:aK β) (v:SV) (s:List SB) (z:List Nat):iK β:=
 match kd with
 | .pure=>bif HL v then oI (res.dec v) RQ else aP
 | .frz=>bif HL v then aP else oI (imV s v) fun u=>oI (res.dec u) RQ
 | .own=>oI (aC0 s z [] v) fun u=>oI (res.dec u.1) RQ
noncomputable def aOe (cx:Ctx) (x:aM) {α β:Type} (args:aC α) (res:aK β) (kd:Kd) (a:α):Option β:=
 WM cx (aEn cx 8) x β (args.enc a) [] [] (aEo kd res) β fun b=>b
def OG:List SB->Bool
 | []=>true
 |b::r=>FT b&&OG r
def I4 {R:Type}:List SB->List SB->iK R->iK R
 | [],[],k=>k
 |x::xs,y::ys,k=>match x with
  | .arr r l=>match y with
   | .arr q m=>bif IZ r q then iO (m.length==l.length) (I4 xs ys k) aP else aP
   |_=>aP
  | .dead=>match y with
   | .dead=>I4 xs ys k
   |_=>aP
  | .box _=>match y with
   | .box _=>I4 xs ys k
   |_=>aP
  | .set _=>match y with
   | .set _=>I4 xs ys k
   |_=>aP
  | .tab _ _=>match y with
   | .tab _ _=>I4 xs ys k
   |_=>aP
 |_,_,_=>aP
noncomputable def aXc (wd:Bool) (cx:Ctx) (x:aM) (ka:List AK) (ta:List SV) (tb:List SB) (ko:List AK) (tv:SV) (to:List SB) (a:mO ka):Option (mO ko):=
 WM cx (aEn cx 8) x (mO ko) (putL ta (pO ka a)).1 (HM tb (putL ta (pO ka a)).2).1 [] (fun v s z=>match z with
  | []=>let u:=bif wd then RS s v else v
   let s1:=s.take tb.length
   bif DV tv u&&OE to s1&&aOd tb.length u s1&&u.sure&&OG s1 then I4 (HM tb (putL ta (pO ka a)).2).1 s1 (oI (wN ko (KT u++TV s1)) RQ) else aP
  |_=>aP) (mO ko) fun b=>b
end
end Go.Vm
