/- The logical machine, part 2: VmCall3, VmFp, VmRun, VmInv, VmStep, VmShr, VmOp, VmReg, VmReg2, VmNorm, VmNorm2, VmCode, VmSound, VmPrim, VmIns, VmTab, VmComp, VmLaw, VmSym, SvBase, SvDef. -/
import Derived.Test.YtcljjehjppgijaaGreatNVm1
import Derived.Orders
import Derived.Laws.Sem
import Derived.Laws.Externs
import Derived.Lib.SliceRun
import Derived.Laws.CopyRow
import Derived.ProofKit
import Derived.Carry
import Derived.OpenShut
import Derived.Deep.Slices
import Derived.Deep.Grids
open List renaming getElem?_eq_getElem->aa,getElem?_eq_some_iff->ag,getElem?_append_left->ah,getElem?_append_right->ap,mem_append->bg,all_eq_true->bh,mem_singleton->bj,take_of_length_le->bk,length_append->bo,append_assoc->bq,replicate->bu,mem_cons->bv,mem_cons_of_mem->bz,getD_eq_getElem?_getD->ch,pairwise_iff_getElem->ci,flatMap_cons->cm,getElem?_take_of_lt->co,length_drop->cp,length_take->cq,drop_of_length_le->ct,mem_append_right->cw,getElem?_set_ne->cy,mem_append_left->cz,mem_of_mem_take->db,mem_of_mem_drop->dd,flatMap_append->dh,nodup_append->dk,getElem?_set->dl,any_eq_true->dn,length_set->dp,drop_zero->dt
open Bool renaming and_eq_true->ac,false_eq_true->ar,not_eq_true'->au,or_eq_true->cv
open Option.some renaming injEq->ae,inj->cu
open Nat renaming beq->af,le_refl->aj,lt_trichotomy->ax,lt_or_ge->ay,le_trans->az,ble->bd,zero_le->be,eq_or_lt_of_le->bi,lt_of_lt_of_le->bn,blt->bw,le_of_lt->ce,ble_eq->cg,add_mul->da,mul_le_mul_right->de,lt_or_gt_of_ne->di,le_total->dj
open Option renaming map_eq_some_iff->ai
open Prod.mk renaming injEq->am
open Array renaming getElem?_eq_some_iff->aq,getElem?_setIfInBounds->ba,getD_eq_getD_getElem?->bc,getElem?_setIfInBounds_self_of_lt->bl,replicate->bm,getElem?_eq_getElem->cj,size_replicate->c6,size_append->dm,ext'->dq
open Int renaming ofNat_eq_natCast->cd,ofNat->df
open Go.Sem renaming run_bind->cf,run_pure->du
open Go.Result renaming andThen_ok->ck
open Go.World renaming cell?->dv
/- A pure call, whole. -/
namespace Go.Vm
structure qM (im:Im) (loc:bO) (sto:bI) (w:World) (v:PV) (sto':bI) (fz':List Nat) (im':Im) (loc':bO) (w':World) (u:Value):Prop where
 imle:iW im im'
 locle:gV loc loc'
 vr:VR im' loc' v u
 sr:SR im' loc' sto' fz' w'
 os:w'.os=w.os
 tape:w'.tape=w.tape
 output:w'.output=w.output
 size:w.heap.size<=w'.heap.size
 frame: ∀b,b<w.heap.size->(∀t li k,loc t=some li->sto[t]? =some k->k.solid=true->li.blk≠b)->w'.heap[b]? =w.heap[b]?
 imnew: ∀b o,im' b=some o->im b=some o\/w.heap.size<=b\/ ∃t li k,loc t=some li/\sto[t]? =some k/\k.solid=true/\li.blk=b
 locs: ∀t li,loc' t=some li->loc t=some li\/sto.length<=t
 own: ∀t li k,loc' t=some li->sto'[t]? =some k->k.solid=true->(w.heap.size<=li.blk\/ ∃u lu ku,loc u=some lu/\sto[u]? =some ku/\ku.solid=true/\lu.blk=li.blk)
def mX (P:Program) (f:FuncId) (us:Array Value) (w:World) (R:Value->World->Prop):Prop:=
 (∃v w',(callFunc f us).run P w= .ok (.value v) w'/\R v w')\/
 ((callFunc f us).run P w= .ok (.enter f us) w/\Calls P f us w fun e w'=> ∃v,e= .returned v/\R v w')
theorem mX.mono {P:Program} {f:FuncId} {us:Array Value} {w:World} {R R':Value->World->Prop} (h:mX P f us w R) (hr: ∀v w',R v w'->R' v w'):mX P f us w R':=by
 rcases h with ⟨v,w',h1,h2⟩|⟨h1,h2⟩
 · exact .inl ⟨v,w',h1,hr _ _ h2⟩
 exact .inr ⟨h1,h2.mono fun e w' ⟨v,he,hv⟩=>⟨v,he,hr _ _ hv⟩⟩
def xR (P : Program) (rec : fF -> Option mB) : Prop :=
  ∀ (f : FuncId) (args : List PV) (sto : bI) (fz : List Nat) (v : PV) (sto' : bI) (fz' : List Nat), rec (.func f args sto fz) = some (.func v sto' fz') ->
    ∀ (im : Im) (loc : bO) (w : World) (us : List Value), SR im loc sto fz w -> VRL im loc args us ->
      mX P f ⟨us⟩ w fun u w' => ∃ im' loc', qM im loc sto w v sto' fz' im' loc' w' u
def FE (P : Program) (f : FuncId) (p : List PV -> Option (PV × bI)) : Prop :=
  ∀ (args : List PV) (v : PV) (news : bI), p args = some (v, news) -> ∀ (im : Im) (w : World) (us : List Value), SR im eO [] [] w -> VRL im eO args us ->
    mX P f ⟨us⟩ w fun u w' => ∃ im' loc', qM im eO [] w v news [] im' loc' w' u
def NB (P : Program) (f : FuncId) (p : List PV -> bI -> List Nat -> Option (PV × bI × List Nat)) : Prop :=
  ∃ fn c, P.funcs[f]? = some fn /\ (fn.name == "runtime.NumGoroutine") = false /\ fn.body = some c /\
    ∀ (args : List PV) (sto : bI) (fz : List Nat) (v : PV) (sto' : bI) (fz' : List Nat), p args sto fz = some (v, sto', fz') ->
      ∀ (im : Im) (loc : bO) (w : World) (us : List Value), SR im loc sto fz w -> VRL im loc args us ->
        mX P f ⟨us⟩ w fun u w' => ∃ im' loc', qM im loc sto w v sto' fz' im' loc' w' u
def sE (P:Program) (F:iH):Prop:=(∀f k p,F f=some (.prim k p)->k=false/\FE P f p)/\ ∀f p,F f=some (.shp p)->NB P f p
section
variable {P : Program} {F : iH} {rec : fF -> Option mB} {im : Im} {loc : bO} {sto : bI} {w : World}
theorem SR.empty (h: ∀b o,im b=some o->w.heap[b]? =some o):SR im eO [] [] w where
 im_ok:=h
 blk:=fun t li h=>by cases h
 excl:=fun t u li lj k k' h=>by cases h
 free:=fun t li k h=>by cases h
theorem NC {r:iT} {v:PV} {u:Value} {sto1:bI} {fz1:List Nat} {im0 im1:Im} {loc1:bO} {w1:World} (hk:eU im loc sto w r) (hr:r.v=v) (hn:r.news=[]) (hw:r.wr=[]) (hno:v.noref=true)
 (hp:qM im0 eO [] w v sto1 fz1 im1 loc1 w1 u): ∃im' loc',VR im' loc' r.v u/\mG im loc sto w r im' loc' w1:=by
 refine ⟨im,loc,by rw [hr];exact G4 hno hp.vr,?_⟩
 have hfr: ∀b,b<w.heap.size->w1.heap[b]? =w.heap[b]?:=fun b hb=>hp.frame b hb fun t li k h=>by cases h
 exact {
  imle:= .refl _,locle:= .refl _
  im_ok:=fun b o h=>by
   have h1:=hk.im_ok b o h;have hlt:b<w.heap.size:=(aq.1 h1).1;rw [hfr b hlt];exact h1
  imnew:=fun _ _ h=> .inl h
  os:=hp.os,tape:=hp.tape,output:=hp.output,size:=hp.size
  frame:=fun b hb _=>hfr b hb
  wrs:=fun t k h=>by rw [hw] at h;cases h
  wr:=fun t k li h=>by rw [hw] at h;cases h
  locnew:=fun _ _ h=> .inl h
  news:=fun j k li h=>by rw [hn] at h;simp at h
  distinct:=fun i j ki kj li lj h=>by rw [hn] at h;simp at h}
theorem OY {r:iT} {v v':PV} {u:Value} {sto1:bI} {fz1 tk:List Nat} {im1:Im} {loc1:bO} {w1:World} (hr:r.v=v') (hn:r.news=[]) (hw:r.wr=[]) (hf:r.fr=tk)
 (hp:qM (zY im w (uH loc sto tk)) eO [] w v sto1 fz1 im1 loc1 w1 u) (hi:rZ sto1 v=some v'): ∃im' loc',VR im' loc' r.v u/\mG im loc sto w r im' loc' w1:=by
 have hfr: ∀b,b<w.heap.size->w1.heap[b]? =w.heap[b]?:=fun b hb=>hp.frame b hb fun t li k h=>by cases h
 let im2:Im:=fun b=>match im1 b with
  |some o=>some o
  |none=>if (uH loc1 sto1 (eR mA v)).contains b&&bd w.heap.size b then w1.heap[b]? else none
 have hle:iW im1 im2:=fun b o h=>by simp only [im2,h]
 have hok: ∀b o,im2 b=some o->w1.heap[b]? =some o:=by
  intro b o h;simp only [im2] at h;split at h
  · rename_i o' ho;injection h with h;subst h;exact hp.sr.im_ok b _ ho
  split at h
  · exact h
  cases h
 have hover: ∀t,t∈eR mA v->A9 im1 im2 loc1 sto1 w1 t:=by
  intro t ht li hl;obtain ⟨k,hk1,hbr⟩:=hp.sr.blk t li hl;refine ⟨k,hk1,hbr,fun hs=>?_⟩
  have hge:w.heap.size<=li.blk:=by
   rcases hp.own t li k hl hk1 hs with h|⟨u,lu,ku,h,_⟩
   · exact h
   cases h
  simp only [im2];split
  · rename_i o ho;exact (hp.sr.im_ok _ _ ho).symm
  rw [if_pos]
  simp only [ac,cg];exact ⟨by simpa using uI.2 ⟨t,li,k,ht,hl,hk1,hs,rfl⟩,hge⟩
 refine ⟨im2,loc,by rw [hr];exact OW hle hover hp.vr hi,?_⟩
 exact {
  imle:=(FD im w _).trans (hp.imle.trans hle),locle:= .refl _
  im_ok:=hok
  imnew:=fun b o h=>by
   simp only [im2] at h;split at h
   · rename_i o' ho
     injection h with h;subst h;rcases hp.imnew b _ ho with h1|h1|⟨t,li,k,h1,_⟩
     · rcases OV h1 with h2|h2
       · exact .inl h2
       obtain ⟨t,li,k,ht,hl,hkk,hs,hb⟩:=uI.1 h2
       exact .inr (.inr ⟨t,li,k,by rw [hf];exact jS.2 ht,hl,hkk,hs,hb⟩)
     · exact .inr (.inl h1)
     cases h1
   split at h
   · rename_i hc
     simp only [ac,cg] at hc;exact .inr (.inl hc.2)
   cases h
  os:=hp.os,tape:=hp.tape,output:=hp.output,size:=hp.size
  frame:=fun b hb _=>hfr b hb
  wrs:=fun t k h=>by rw [hw] at h;cases h
  wr:=fun t k li h=>by rw [hw] at h;cases h
  locnew:=fun _ _ h=> .inl h
  news:=fun j k li h=>by rw [hn] at h;simp at h
  distinct:=fun i j ki kj li lj h=>by rw [hn] at h;simp at h}
theorem K7 {r:iT} {v v':PV} {u:Value} {sto1:bI} {fz1 seen':List Nat} {im0 im1:Im} {loc1:bO} {w1:World} {news:bI} (hk:eU im loc sto w r) (hr:r.v=v') (hn:r.news=news) (hw:r.wr=[])
 (hp:qM im0 eO [] w v sto1 fz1 im1 loc1 w1 u) (hi:sV sto1 fz1 sto.length [] v=some (v',news,seen')): ∃im' loc',VR im' loc' r.v u/\mG im loc sto w r im' loc' w1:=by
 have hfr: ∀b,b<w.heap.size->w1.heap[b]? =w.heap[b]?:=fun b hb=>hp.frame b hb fun t li k h=>by cases h
 obtain ⟨lis,ts,h1,h2⟩:=OX (fun t li hl=>hp.sr.blk t li hl) hp.vr hi
 let loc2:bO:=fun t=>if t<sto.length then loc t else match lis[t-sto.length]? with
  |some li=>some li
  |none=>loc t
 have hnew: ∀(j:Nat) (li:LI),lis[j]? =some li->loc2 (sto.length+j)=some li:=by
  intro j li hj;simp only [loc2];rw [if_neg (by omega),show sto.length+j-sto.length=j by omega,hj]
 have hle:gV loc loc2:=by
  intro t li hl;simp only [loc2];split
  · exact hl
  rename_i hlt
  split
  · rename_i l2 hl2
    have hj:=(ag.1 hl2).1
    have:=hk.fresh (t-sto.length) (by rw [hn,<- h1.len1];exact hj)
    rw [show sto.length+(t-sto.length)=t by omega,hl] at this
    cases this
  exact hl
 have hli: ∀(j:Nat) (k:fV),news[j]? =some k-> ∃li,lis[j]? =some li:=by
  intro j k hj
  have:=(ag.1 hj).1
  exact ⟨_,aa (by rw [h1.len1];exact this)⟩
 have hts: ∀(j:Nat) (k:fV),news[j]? =some k->k.solid=true-> ∃t,ts[j]? =some (some t):=by
  intro j k hj hs;have hlt:=(ag.1 hj).1;cases hg:ts[j]? with
  |none=>have:=List.getElem?_eq_none_iff.1 hg;have:=h1.len2;omega
  |some x=>
   cases x with
   |some t=>exact ⟨t,rfl⟩
   |none=>rw [h1.dum j k hj hg] at hs;cases hs
 refine ⟨im,loc2,by rw [hr];exact h2 im loc2 hnew,?_⟩
 exact {
  imle:= .refl _,locle:=hle
  im_ok:=fun b o h=>by
   have h1:=hk.im_ok b o h;have hlt:b<w.heap.size:=(aq.1 h1).1;rw [hfr b hlt];exact h1
  imnew:=fun _ _ h=> .inl h
  os:=hp.os,tape:=hp.tape,output:=hp.output,size:=hp.size
  frame:=fun b hb _=>hfr b hb
  wrs:=fun t k h=>by rw [hw] at h;cases h
  wr:=fun t k li h=>by rw [hw] at h;cases h
  locnew:=fun t li h=>by
   simp only [loc2] at h;split at h
   · exact .inl h
   rename_i hlt
   split at h
   · rename_i l2 hl2
     have hj:=(ag.1 hl2).1;exact .inr ⟨by omega,by rw [hn,<- h1.len1];omega⟩
   exact .inl h
  news:=xN fun j k hj=>by
   rw [hn] at hj;obtain ⟨li,hl⟩:=hli j k hj;obtain ⟨⟨e,rows,rfl⟩,hbr⟩:=h1.br j k li hj hl;refine ⟨li,hnew j li hl,hbr,fun hs=>?_⟩
   obtain ⟨t,ht⟩:=hts j _ hj hs;obtain ⟨a1,a2,a3,_,_⟩:=h1.own j _ li t hj hl ht;have hge:w.heap.size<=li.blk:=by
    rcases hp.own t li _ a1 a2 hs with h|⟨u,lu,ku,h,_⟩
    · exact h
    cases h
   refine ⟨?_,.inl hge⟩;cases hb:im li.blk with
   |none=>rfl
   |some o=>
    have:=(aq.1 (hk.im_ok _ _ hb)).1
    omega
  distinct:=fun i j ki kj li lj hi' hj' hsi hsj hli' hlj' hbb=>by
   rw [hn] at hi' hj';obtain ⟨l1,hl1⟩:=hli i ki hi';obtain ⟨l2,hl2⟩:=hli j kj hj';have e1:=hnew i l1 hl1;have e2:=hnew j l2 hl2;rw [hli'] at e1;rw [hlj'] at e2;injection e1 with e1;injection e2 with e2;subst e1 e2;obtain ⟨t1,ht1⟩:=hts i ki hi' hsi;obtain ⟨t2,ht2⟩:=hts j kj hj' hsj;obtain ⟨a1,a2,_⟩:=h1.own i ki li t1 hi' hl1 ht1;obtain ⟨b1,b2,_⟩:=h1.own j kj lj t2 hj' hl2 ht2
   have:=hp.sr.excl t1 t2 li lj ki kj a1 b1 a2 b2 hsi hsj hbb
   subst this;exact h1.inj i j t1 ht1 ht2}
theorem uJ {own:Bool} {f:FuncId} {args':List PV} {tk:List Nat} {r:iT}
 (h:(match rec (.func f args' [] []) with
  |some (.func v s1 z1)=>
   if own then match sV s1 z1 sto.length [] v with
    |some (v',n2,_)=>some {v:=v',news:=n2,rd:=tk}
    |none=>none
   else if v.noref then some {v,rd:=tk}
   else match rZ s1 v with
    |some v'=>some {v:=v',rd:=tk,fr:=tk}
    |none=>none
  |_=>none)=some r):r.rd=tk:=by
 split at h
 · split at h
   · split at h
     · injection h with h;subst h;rfl
     cases h
   split at h
   · injection h with h;subst h;rfl
   split at h
   · injection h with h;subst h;rfl
   cases h
 cases h
theorem qN (hrec:xR P rec) {own:Bool} {f:FuncId} {args':List PV} {tk:List Nat} {r:iT} {us:List Value}
 (h:(match rec (.func f args' [] []) with
  |some (.func v s1 z1)=>
   if own then match sV s1 z1 sto.length [] v with
    |some (v',n2,_)=>some {v:=v',news:=n2,rd:=tk}
    |none=>none
   else if v.noref then some {v,rd:=tk}
   else match rZ s1 v with
    |some v'=>some {v:=v',rd:=tk,fr:=tk}
    |none=>none
  |_=>none)=some r) (ha:VRL (zY im w (uH loc sto tk)) eO args' us) (hk:eU im loc sto w r):
 mX P f ⟨us⟩ w fun u w'=> ∃im' loc',VR im' loc' r.v u/\mG im loc sto w r im' loc' w':=by
 cases hr:rec (.func f args' [] []) with
 |none=>rw [hr] at h;cases h
 |some o=>
  rw [hr] at h;cases o with
  |code e st=>cases h
  |func v s1 z1=>
   dsimp only at h;refine (hrec f args' [] [] v s1 z1 hr _ eO w us (SR.empty (K5 hk.im_ok)) ha).mono fun u w' hq=>?_
   obtain ⟨im1,loc1,hp⟩:=hq;split at h
   · cases hio:sV s1 z1 sto.length [] v with
     |none=>rw [hio] at h;cases h
     |some q2=>
      obtain ⟨v',n2,s2⟩:=q2;rw [hio] at h;simp only [ae] at h;subst h;exact K7 hk rfl rfl rfl hp hio
   split at h
   · rename_i hno
     simp only [ae] at h;subst h;exact NC hk rfl rfl rfl hno hp
   cases hif:rZ s1 v with
   |none=>rw [hif] at h;cases h
   |some v'=>
    rw [hif] at h;simp only [ae] at h;subst h;exact OY rfl rfl rfl rfl hp hif
theorem FF (hrec:xR P rec) (hprim:sE P F) {own:Bool} {f:FuncId} {args:List PV} {fz:List Nat} {r:iT} {us:List Value}
 (h:callPure F rec own f args sto fz=some r) (ha:VRL im loc args us) (hk:eU im loc sto w r):
 mX P f ⟨us⟩ w fun u w'=> ∃im' loc',VR im' loc' r.v u/\mG im loc sto w r im' loc' w':=by
 have imok: ∀(rd:List Nat),(∀b o,im b=some o->w.heap[b]? =some o)-> ∀b o,zY im w (uH loc sto rd) b=some o->w.heap[b]? =some o:=fun rd h=>K5 h
 have hexp: ∀(args':List PV),exL sto (sM sto cE) args=some args'->(∀t,t∈toksL (bN sto cE) args-> ∀li,loc t=some li-> ∃k,sto[t]? =some k/\BR im loc w li k)->(∀b o,im b=some o->w.heap[b]? =some o)->
  VRL (zY im w (uH loc sto (toksL (bN sto cE) args))) eO args' us:=by
  intro args' hx htok hok;refine exL_ok (w:=w) (FD _ _ _) (fun t=>K6 (FD _ _ _) cE t) (fun t ht li hl=>?_) ha hx
  obtain ⟨k,hk1,hbr⟩:=htok t ht li hl;exact ⟨k,hk1,hbr,fun hs=>R0 hok (uI.2 ⟨t,li,k,ht,hl,hk1,hs,rfl⟩)⟩
 unfold callPure at h;cases hx:exL sto (sM sto cE) args with
 |none=>rw [hx] at h;cases h
 |some args'=>
  rw [hx] at h;dsimp only at h;cases hF:F f with
  |none=>
   rw [hF] at h;dsimp only at h;have hrd:r.rd=toksL (bN sto cE) args:=uJ h;exact qN hrec h (hexp args' hx (fun t ht=>hk.tok t (.inl (by rw [hrd];exact ht))) hk.im_ok) hk
  |some en=>
   rw [hF] at h;cases en with
   |prim kills p=>
    dsimp only at h;obtain ⟨rfl,hpo⟩:=hprim.1 f kills p hF;cases hpa:p args' with
    |none=>rw [hpa] at h;cases h
    |some q=>
     obtain ⟨v,news⟩:=q;rw [hpa] at h;dsimp only at h;cases hio:sV news [] sto.length [] v with
     |none=>rw [hio] at h;cases h
     |some q2=>
      obtain ⟨v',n2,s2⟩:=q2;rw [hio] at h;simp only [ar,if_false,ae] at h;subst h;refine (hpo args' v news hpa _ w us (SR.empty (imok _ hk.im_ok)) (hexp args' hx (fun t ht=>hk.tok t (.inl ht)) hk.im_ok)).mono fun u w' hq=>?_
      obtain ⟨im1,loc1,hp⟩:=hq;exact K7 hk rfl rfl rfl hp hio
   |code x=>
    dsimp only at h;have hrd:r.rd=toksL (bN sto cE) args:=uJ h;exact qN hrec h (hexp args' hx (fun t ht=>hk.tok t (.inl (by rw [hrd];exact ht))) hk.im_ok) hk
   |shp x=>
    dsimp only at h;have hrd:r.rd=toksL (bN sto cE) args:=uJ h;exact qN hrec h (hexp args' hx (fun t ht=>hk.tok t (.inl (by rw [hrd];exact ht))) hk.im_ok) hk
end
end Go.Vm
/- A call that works on the blocks that its arguments lead to, numbered anew: what it does to the memory. -/
namespace Go.Vm
theorem dL {α:Type} {l:List α} {i:Nat} {x:α} (h:l[i]? =some x):i<l.length:=(ag.1 h).1
theorem xS: ∀{l:List Nat} {t:Nat},t∈jH l↔t∈l
 | [],t=>by simp [jH]
 |a::r,t=>by
  rw [jH];split
  · rename_i h
    rw [xS]
    have:=jS.1 h
    constructor
    · exact fun h=>by simp [h]
    intro h
    rcases bv.1 h with h|h
    · subst h;exact this
    exact h
  simp [xS]
theorem mL: ∀{l:List Nat},(jH l).Nodup
 | []=>by simp [jH]
 |a::r=>by
  rw [jH];split
  · exact mL
  rename_i h
  rw [List.nodup_cons];exact ⟨fun hm=>h (jS.2 (xS.1 hm)),mL⟩
theorem BA: ∀{a b:bI},oA a b=true-> ∀(i:Nat) (x:fV),a[i]? =some x-> ∃y,b[i]? =some y/\x.solid=y.solid
 | [],_,_,i,x,h=>by simp at h
 |c::r,d::q,hf,i,x,h=>by
  simp only [oA,ac] at hf;cases i with
  |zero=>
   simp at h;subst h;refine ⟨d,rfl,?_⟩
   have:=hf.1
   split at this<;>first|(rename_i h1 h2;rw [h1,h2])|cases this
  |succ i=>simpa using BA hf.2 i x (by simpa using h)
 |_::_,[],hf,_,_,_=>by cases hf
theorem BB {g:Nat->Nat}: ∀{tk:List Nat} {s:bI} {t:Nat} {k:fV},(t,k)∈jJ g tk s↔ ∃(i:Nat) (b:fV),tk[i]? =some t/\s[i]? =some b/\k=sW g b
 | [],s,t,k=>by simp [jJ]
 |a::r,[],t,k=>by simp [jJ]
 |a::r,b::s,t,k=>by
  simp only [jJ,bv,am,BB];constructor
  · rintro (⟨rfl,rfl⟩|⟨i,c,h1,h2,h3⟩)
    · exact ⟨0,b,rfl,rfl,rfl⟩
    exact ⟨i+1,c,by simpa using h1,by simpa using h2,h3⟩
  rintro ⟨i,c,h1,h2,h3⟩
  cases i with
  |zero=>simp at h1 h2;subst h1;subst h2;exact .inl ⟨rfl,h3⟩
  |succ i=>exact .inr ⟨i,c,by simpa using h1,by simpa using h2,h3⟩
theorem DZ {g:Nat->Nat}: ∀(s:bI) (i:Nat),(vL g s)[i]? =(s[i]?).map (sW g)
 | [],i=>by simp [vL]
 |b::r,0=>by simp [vL]
 |b::r,i+1=>by simpa [vL] using DZ r i
theorem vR {g:Nat->Nat}: ∀(s:bI),(vL g s).length=s.length
 | []=>rfl
 |b::r=>by simp [vL,vR r]
section
variable {P : Program} {F : iH} {rec : fF -> Option mB} {im : Im} {loc : bO} {sto : bI} {w : World} {tk : List Nat} {g : Nat -> Nat} {l1 l2 : bO}
mutual
theorem VR.renFA: ∀{x:PV} {v:Value},VR im l1 x v->(∀u,u∈eR mA x-> ∀li,l1 u=some li->l2 (g u)=some li)->VR im l2 (renF g x) v
 |_,_,.undef v,_=> .undef v
 |_,_,.nul,_=> .nul
 |_,_,.int k n,_=> .int k n
 |_,_,.bool b,_=> .bool b
 |_,_,.str s,_=> .str s
 |_,_,.agg cs vs h,hg=> .agg _ vs (VRL.renFA h (fun u hu=>hg u (by simpa [eR] using hu)))
 |_,_,.tup cs vs h,hg=> .tup _ vs (VRL.renFA h (fun u hu=>hg u (by simpa [eR] using hu)))
 |_,_,.sl esz clip rows a cap hc hk h,_=> .sl esz clip rows a cap hc hk h
 |_,_,.own t esz off len cap ex li a cap' h1 h2 h3 h4 h5 h6 h7,hg=> .own _ esz off len cap ex li a cap' (hg _ (by simp [eR]) _ h1) h2 h3 h4 h5 h6 h7
 |_,_,.ptr t esz row off li h1 h2 h3,hg=> .ptr _ esz row off li (hg _ (by simp [eR]) _ h1) h2 h3
 |_,_,.rptr cs off b o vs h hv,hg=> .rptr _ off b o vs (VRL.renFA h (fun u hu=>hg u (by simpa [eR] using hu))) hv
 |_,_,.mp t li h,hg=> .mp _ li (hg _ (by simp [eR]) _ h)
 |_,_,.clo fn a b as bs ha hb,hg=> .clo fn _ _ as bs (VRL.renFA ha (fun u hu=>hg u (by simp [eR,hu]))) (VRL.renFA hb (fun u hu=>hg u (by simp [eR,hu])))
 |_,_,.nilf,_=> .nilf
theorem VRL.renFA: ∀{x:List PV} {v:List Value},VRL im l1 x v->(∀u,u∈toksL mA x-> ∀li,l1 u=some li->l2 (g u)=some li)->VRL im l2 (renFL g x) v
 |_,_,.nil,_=> .nil
 |_,_,.cons x v xs vs h hs,hg=> .cons _ v _ vs (VR.renFA h (fun u hu=>hg u (by simp [toksL,hu]))) (VRL.renFA hs (fun u hu=>hg u (by simp [toksL,hu])))
end
theorem VR.renF {x:PV} {v:Value} (hg: ∀u,u∈eR mA x-> ∀li,l1 u=some li->l2 (g u)=some li) (h:VR im l1 x v):VR im l2 (Vm.renF g x) v:=h.renFA hg
theorem VRL.renF {x:List PV} {v:List Value} (hg: ∀u,u∈toksL mA x-> ∀li,l1 u=some li->l2 (g u)=some li) (h:VRL im l1 x v):VRL im l2 (renFL g x) v:=h.renFA hg
theorem vS: ∀(x:List PV),(renFL g x).length=x.length
 | []=>rfl
 |x::xs=>by simp [renFL,vS xs]
theorem BR.renF {li:LI} {k:fV} (hg: ∀u,u∈kW k-> ∀li,l1 u=some li->l2 (g u)=some li) (h:BR im l1 w li k):BR im l2 w li (sW g k):=by
 cases k with
 |arr e rows=>exact h
 |box cs=>
  obtain ⟨a1,a2,a3,vs,el,a4,a5,a6⟩:=h;exact ⟨by rw [vS];exact a1,a2,a3,vs,el,a4,a5,a6.renF hg⟩
 |map es=>exact h
 |dead=>trivial
theorem qO (k:fV):(sW g k).solid=k.solid:=by cases k<;>rfl
theorem JM (hrec:xR P rec) {f:FuncId} {args:List PV} {fz:List Nat} {r:iT} {us:List Value}
 (h:mT rec f args sto fz=some r) (ha:VRL im loc args us) (hk:eU im loc sto w r):
 mX P f ⟨us⟩ w fun u w'=> ∃im' loc',VR im' loc' r.v u/\mG im loc sto w r im' loc' w':=by
 unfold mT at h;have hnd:(jH (toksL (bN sto cE) args)).Nodup:=mL;generalize htk:jH (toksL (bN sto cE) args)=tk at h hnd;split at h
 · cases h
 rename_i a s0 hlend;unfold RY at hlend;split at hlend
 case isFalse=>cases hlend
 rename_i hnfz;simp only [bh,au] at hnfz;split at hlend
 case h_2=>cases hlend
 rename_i a' s0' hra hrs;simp only [ae,am] at hlend;obtain ⟨rfl,rfl⟩:=hlend;split at h
 case h_2=>cases h
 rename_i v s hr;unfold AW at h;split at h
 case isFalse=>cases h
 rename_i hfirm;injection h with h;obtain ⟨hl0,hget⟩:=xK hrs;have hf0:=BA hfirm;have hle:tk.length<=s.length:=by
  rcases Nat.eq_zero_or_pos tk.length with h0|h0
  · omega
  obtain ⟨y,hy,_⟩:=hf0 (tk.length-1) (s0'[tk.length-1]'(by omega)) (aa _)
  have:=dL hy;omega
 let locC:bO:=fun u=>match tk[u]? with|some t=>loc t|none=>none
 have hren:Ren tk loc locC:=fun u t hu=>by simp only [locC,hu]
 have hC: ∀u li,locC u=some li-> ∃t,tk[u]? =some t/\loc t=some li:=by
  intro u li hl;simp only [locC] at hl;split at hl
  · rename_i t ht;exact ⟨t,ht,hl⟩
  cases hl
 have hwrm: ∀t k,(t,k)∈r.wr↔ ∃(i:Nat) (b:fV),tk[i]? =some t/\s[i]? =some b/\k=sW (fM tk sto.length) b:=fun t k=>by rw [<- h];exact BB
 have hwrt: ∀u t,tk[u]? =some t->(t∈r.rd\/ ∃b,(t,b)∈r.wr):=fun u t ht=>by
  have:=dL ht
  exact .inr ⟨_,(hwrm t _).2 ⟨u,_,ht,aa (by omega),rfl⟩⟩
 have hold: ∀(u t:Nat) (k:fV),tk[u]? =some t->s0'[u]? =some k-> ∃k0:fV,sto[t]? =some k0/\k.solid=k0.solid:=fun u t k ht hs=>by
  obtain ⟨k0,k',g1,g2,g3⟩:=hget u t ht;rw [hs] at g3;injection g3 with g3;subst g3;exact ⟨k0,g1,vN g2⟩
 have hSR:SR im locC s0' [] w:={
  im_ok:=hk.im_ok
  blk:=fun u li hl=>by
   obtain ⟨t,h1,h2⟩:=hC u li hl;obtain ⟨k,hk1,hbr⟩:=hk.tok t (hwrt u t h1) li h2;obtain ⟨k0,k',g1,g2,g3⟩:=hget u t h1;rw [hk1] at g1;injection g1 with g1;subst g1;exact ⟨k',g3,DW hren g2 hbr⟩
  excl:=fun t u li lj k k' hl hl' hs hs' hso hso' hb=>by
   obtain ⟨a1,h1,h2⟩:=hC t li hl;obtain ⟨a2,h3,h4⟩:=hC u lj hl';obtain ⟨k0,g1,g2⟩:=hold t a1 k h1 hs;obtain ⟨k0',g1',g2'⟩:=hold u a2 k' h3 hs'
   have:=hk.excl a1 a2 li lj k0 k0' (hwrt t a1 h1) (hwrt u a2 h3) h2 h4 g1 g1' (by rw [<- g2];exact hso) (by rw [<- g2'];exact hso') hb
   subst this;have pw:=ci.1 hnd;obtain ⟨l1,e1⟩:=ag.1 h1;obtain ⟨l2,e2⟩:=ag.1 h3;rcases ax t u with h|h|h
   · exact absurd (e1.trans e2.symm) (pw t u l1 l2 h)
   · exact h
   exact absurd (e2.trans e1.symm) (pw u t l2 l1 h)
  free:=fun t li k hl hs hso _=>by
   obtain ⟨a1,h1,h2⟩:=hC t li hl;obtain ⟨k0,g1,g2⟩:=hold t a1 k h1 hs;have hlt:=dL h1;exact hk.free a1 _ ((hwrm a1 _).2 ⟨t,_,h1,aa (by omega),rfl⟩) li k0 h2 g1 (by rw [<- g2];exact hso)}
 refine (hrec f a' s0' [] v s [] hr im locC w us hSR (renL_ok hren ha hra)).mono fun u w' ⟨im',locM,hf⟩=>?_
 let loc':bO:=fun t=>match loc t with
  |some li=>some li
  |none=>if sto.length<=t/\t-sto.length<r.news.length then locM (t-sto.length+tk.length) else none
 have hLle:gV loc loc':=fun t li hl=>by simp only [loc',hl]
 have hnl:(dZ tk.length v s=true/\r.news=[])\/(dZ tk.length v s=false/\r.news=vL (fM tk sto.length) (s.drop tk.length)):=by
  rw [<- h];cases hko:dZ tk.length v s with
  |true=>exact .inl ⟨rfl,by simp⟩
  |false=>exact .inr ⟨rfl,by simp⟩
 have hnlen:dZ tk.length v s=false->r.news.length=s.length-tk.length:=fun h1=>by
  rcases hnl with ⟨h2,_⟩|⟨_,h2⟩
  · rw [h1] at h2;cases h2
  rw [h2];simp [vR]
 have hMlt: ∀u li,locM u=some li->u<s.length:=fun u li hl=>let ⟨k,hk1,_⟩:=hf.sr.blk u li hl;dL hk1
 have hnewl: ∀j li,loc' (sto.length+j)=some li->j<r.news.length->locM (tk.length+j)=some li:=fun j li hl hj=>by
  simp only [loc',hk.fresh j hj] at hl;rw [if_pos ⟨by omega,by omega⟩] at hl
  rw [show sto.length+j-sto.length+tk.length=tk.length+j by omega] at hl
  exact hl
 have hg: ∀u,(u<tk.length\/dZ tk.length v s=false)-> ∀li,locM u=some li->loc' (fM tk sto.length u)=some li:=by
  intro u hu0 li hl;unfold fM;split
  · rename_i t ht
    rcases hf.locs u li hl with h1|h1
    · obtain ⟨t',h2,h3⟩:=hC u li h1
      rw [ht] at h2;injection h2 with h2;subst h2;exact hLle _ _ h3
    have:=dL ht;omega
  rename_i hn
  have hu:tk.length<=u:=by simpa using hn
  rcases hu0 with hu0|hu0
  · omega
  have hlt:=hMlt u li hl;have hnl:=hnlen hu0;simp only [loc',hk.fresh (u-tk.length) (by omega)]
  rw [if_pos ⟨by omega,by omega⟩,show sto.length+(u-tk.length) -sto.length+tk.length=u by omega]
  exact hl
 have hko: ∀u,dZ tk.length v s=true->(u∈eR mA v\/ ∃i b,i<tk.length/\s[i]? =some b/\u∈kW b)->u<tk.length:=fun u h1 h2=>by
  unfold dZ at h1;have h3:=bh.1 h1 u (by
   rcases h2 with h2|⟨i,b,g1,g2,g3⟩
   · simp [h2]
   refine bg.2 (.inr (List.mem_flatMap.2 ⟨b,?_,g3⟩))
   exact List.mem_of_getElem? (i:=i) (by rw [List.getElem?_take];simp [g1,g2]))
  simpa using h3
 have hgv: ∀u,u∈eR mA v-> ∀li,locM u=some li->loc' (fM tk sto.length u)=some li:=fun u hu=>hg u (by
  cases hq:dZ tk.length v s with
  |true=>exact .inl (hko u hq (.inl hu))
  |false=>exact .inr rfl)
 have hgb: ∀i b,i<tk.length->s[i]? =some b-> ∀u,u∈kW b-> ∀li,locM u=some li->loc' (fM tk sto.length u)=some li:=fun i b hi hb u hu=>hg u (by
  cases hq:dZ tk.length v s with
  |true=>exact .inl (hko u hq (.inr ⟨i,b,hi,hb,hu⟩))
  |false=>exact .inr rfl)
 have hMC: ∀u t li,tk[u]? =some t->loc t=some li->locM u=some li:=fun u t li ht hl=>hf.locle u li (by simp only [locC,ht];exact hl)
 refine ⟨im',loc',by rw [<- h];exact hf.vr.renF hgv,?_⟩
 have hnews: ∀(j:Nat) (k:fV),r.news[j]? =some k-> ∃b,s[tk.length+j]? =some b/\k=sW (fM tk sto.length) b:=fun j k hj=>by
  rcases hnl with ⟨_,h0⟩|⟨_,h0⟩
  · rw [h0] at hj;simp at hj
  rw [h0] at hj;simp only [DZ,List.getElem?_drop,ai] at hj;obtain ⟨b,h1,h2⟩:=hj;exact ⟨b,h1,h2.symm⟩
 have hnewloc: ∀t li,locM t=some li->tk.length<=t-> ∀k,s[t]? =some k->k.solid=true->w.heap.size<=li.blk:=by
  intro t li hl ht k hs hso;rcases hf.own t li k hl hs hso with h1|⟨u,lu,ku,h1,h2,h3,h4⟩
  · exact h1
  exfalso
  obtain ⟨a1,g1,g2⟩:=hC u lu h1;obtain ⟨y,y1,y2⟩:=hf0 u ku h2
  have:=hf.sr.excl u t lu li y k (hMC u a1 lu g1 g2) hl y1 hs (by rw [<- y2];exact h3) hso h4
  subst this
  have:=dL g1;omega
 exact {
  imle:=hf.imle,locle:=hLle
  im_ok:=hf.sr.im_ok
  imnew:=fun b o hb=>by
   rcases hf.imnew b o hb with h1|h1|⟨t,li,k,h1,h2,h3,h4⟩
   · exact .inl h1
   · exact .inr (.inl h1)
   exfalso
   obtain ⟨a1,g1,g2⟩:=hC t li h1;obtain ⟨y,y1,y2⟩:=hf0 t k h2
   have:=hf.sr.free t li y (hMC t a1 li g1 g2) y1 (by rw [<- y2];exact h3) rfl
   rw [h4,hb] at this;cases this
  os:=hf.os,tape:=hf.tape,output:=hf.output,size:=hf.size
  frame:=fun b hb hh=>hf.frame b hb fun t li k hl hs hso=>by
   obtain ⟨a1,g1,g2⟩:=hC t li hl;obtain ⟨k0,e1,e2⟩:=hold t a1 k g1 hs;have hlt:=dL g1;exact hh a1 _ li k0 ((hwrm a1 _).2 ⟨t,_,g1,aa (by omega),rfl⟩) g2 e1 (by rw [<- e2];exact hso)
  wrs:=fun t k hm hso=>by
   obtain ⟨i,b,g1,g2,rfl⟩:=(hwrm t k).1 hm;rw [qO] at hso;have hlt:=dL g1;have e:=aa (l:=s0') (i:=i) (by omega)
   obtain ⟨y,y1,y2⟩:=hf0 i _ e;rw [g2] at y1;injection y1 with y1;subst y1;obtain ⟨k0,e1,e2⟩:=hold i t _ g1 e;exact ⟨k0,e1,by rw [<- e2,y2];exact hso⟩
  wr:=fun t k li hm hl=>by
   obtain ⟨i,b,g1,g2,rfl⟩:=(hwrm t k).1 hm;obtain ⟨k',hk1,hbr⟩:=hf.sr.blk i li (hMC i t li g1 hl);rw [g2] at hk1;injection hk1 with hk1;subst hk1;exact hbr.renF (hgb i b (dL g1) g2)
  locnew:=fun t li hl=>by
   simp only [loc'] at hl;cases hl0:loc t with
   |some lj=>rw [hl0] at hl;exact .inl hl
   |none=>
    rw [hl0] at hl;dsimp only at hl;split at hl
    · rename_i hn
      exact .inr ⟨hn.1,by omega⟩
    cases hl
  news:=fun j k li hj hl=>by
   have hjl:j<r.news.length:=dL hj;obtain ⟨b,hb,rfl⟩:=hnews j k hj;have hl0:=hnewl j li hl hjl;obtain ⟨k',hk1,hbr⟩:=hf.sr.blk _ li hl0;rw [hb] at hk1;injection hk1 with hk1;subst hk1;have hq:dZ tk.length v s=false:=by
    rcases hnl with ⟨_,h0⟩|⟨h0,_⟩
    · rw [h0] at hjl;simp at hjl
    exact h0
   refine ⟨hbr.renF (fun u _=>hg u (.inr hq)),fun hso=>?_⟩
   rw [qO] at hso;exact ⟨hf.sr.free _ li b hl0 hb hso rfl,.inl (hnewloc _ li hl0 (by omega) b hb hso)⟩
  distinct:=fun i j ki kj li lj hi hj hsi hsj hli hlj hb=>by
   obtain ⟨b1,e1,rfl⟩:=hnews i ki hi;obtain ⟨b2,e2,rfl⟩:=hnews j kj hj;rw [qO] at hsi hsj;have h1:=hnewl i li hli (dL hi);have h2:=hnewl j lj hlj (dL hj)
   have:=hf.sr.excl _ _ li lj b1 b2 h1 h2 e1 e2 hsi hsj hb
   omega}
end
end Go.Vm
/- A region's run in the order of the text, step by step; what a block holds when some of its operations are done. -/
namespace Go.Vm
structure qP (F:iH) (rec:fF->Option mB) (ops:List aY) (S:Nat->St) (X:Nat->Option XR):Prop where
 steps: ∀(i:Nat) (o:aY),ops[i]? =some o->
  (wanted o.guard (S i).env=some true/\ ∃x,pM F rec (S i).env (S i).sto (S i).fz o.op=some x/\x.ok (S i).fz=true/\X i=some x/\S (i+1)=x.next o.dst (S i))\/
  (wanted o.guard (S i).env=some false/\X i=none/\S (i+1)={S i with env:=eI o.dst .nul (S i).env})
def sN (x:Option XR) (s:St):Tr:=
 match x with
 |some x=>x.tr s.sto.length
 |none=>Tr.idle
def sY (S:Nat->St) (X:Nat->Option XR) (n:Nat):List Tr:=(List.range n).map fun i=>sN (X i) (S i)
theorem JN (S:Nat->St) (X:Nat->Option XR) (n:Nat):sY S X (n+1)=sN (X 0) (S 0)::sY (fun i=>S (i+1)) (fun i=>X (i+1)) n:=by
 unfold sY;rw [List.range_succ_eq_map];simp [List.map_map,Function.comp_def]
theorem xT {F:iH} {rec:fF->Option mB}: ∀(ops:List aY) (st:St) (tr:List Tr) (st':St) (tr':List Tr),hH F rec ops st tr=some (st',tr')->
 ∃S X,S 0=st/\S ops.length=st'/\qP F rec ops S X/\tr'=(sY S X ops.length).reverse++tr
 | [],st,tr,st',tr',h=>by
  simp only [hH,ae,am] at h;obtain ⟨rfl,rfl⟩:=h;exact ⟨fun _=>st,fun _=>none,rfl,rfl,⟨fun i o h=>by simp at h⟩,by simp [sY]⟩
 |o::l,st,tr,st',tr',h=>by
  simp only [hH] at h;have mk: ∀(s1:St) (x:Option XR) (t1:Tr),sN x st=t1->hH F rec l s1 (t1::tr)=some (st',tr')->
   ((wanted o.guard st.env=some true/\ ∃y,pM F rec st.env st.sto st.fz o.op=some y/\y.ok st.fz=true/\x=some y/\s1=y.next o.dst st)\/
    (wanted o.guard st.env=some false/\x=none/\s1={st with env:=eI o.dst .nul st.env}))->
   ∃S X,S 0=st/\S (o::l).length=st'/\qP F rec (o::l) S X/\tr'=(sY S X (o::l).length).reverse++tr:=by
   intro s1 x t1 ht he hs;obtain ⟨S,X,h0,hn,hrun,htr⟩:=xT l s1 (t1::tr) st' tr' he;refine ⟨fun i=>match i with|0=>st|i+1=>S i,fun i=>match i with|0=>x|i+1=>X i,rfl,hn,⟨fun i o' ho=>?_⟩,?_⟩
   · cases i with
     |zero=>
      simp at ho;subst ho;rcases hs with ⟨a,y,b,c,d,e⟩|⟨a,b,c⟩
      · exact .inl ⟨a,y,b,c,d,by rw [<- e];exact h0⟩
      exact .inr ⟨a,b,by rw [<- c];exact h0⟩
     |succ i=>exact hrun.steps i o' (by simpa using ho)
   rw [List.length_cons,JN,htr]
   simp [ht]
  cases hw:wanted o.guard st.env with
  |none=>rw [hw] at h;cases h
  |some b=>
   rw [hw] at h;cases b with
   |false=>exact mk _ none _ rfl h (.inr ⟨hw,rfl,rfl⟩)
   |true=>
    dsimp only at h;cases hx:pM F rec st.env st.sto st.fz o.op with
    |none=>rw [hx] at h;cases h
    |some x=>
     rw [hx] at h;dsimp only at h;split at h
     · rename_i hok
       exact mk _ (some x) _ rfl h (.inl ⟨hw,x,hx,hok,rfl,rfl⟩)
     cases h
theorem cU: ∀(wr:List (Nat×fV)) (s:bI),(dC wr s).length=s.length
 | [],s=>rfl
 |(t,b)::r,s=>by rw [dC,cU r];simp
theorem mY: ∀(wr:List (Nat×fV)) (s:bI) (t:Nat),(∀k,(t,k)∉wr)->(dC wr s)[t]? =s[t]?
 | [],s,t,_=>rfl
 |(u,b)::r,s,t,h=>by
  rw [dC,mY r _ t (fun k hk=>h k (by simp [hk]))]
  have:u≠t:=fun e=>h b (by rw [e];simp)
  rw [cy this]
theorem BC: ∀(wr:List (Nat×fV)) (s:bI),oB wr=true-> ∀{t:Nat} {k:fV},(t,k)∈wr->t<s.length->(dC wr s)[t]? =some k
 |(u,b)::r,s,hn,t,k,hm,hlt=>by
  simp only [oB,ac,bh,au] at hn;rw [dC];rcases bv.1 hm with h|h
  · injection h with h1 h2
    subst h1 h2;rw [mY r _ t fun k' hk=>by simpa using hn.1 (t,k') hk]
    simp [hlt]
  exact BC r _ hn.2 h (by simpa using hlt)
section
variable {F : iH} {rec : fF -> Option mB} {ops : List aY} {S : Nat -> St} {X : Nat -> Option XR}
def W (X:Nat->Option XR) (i t:Nat):Prop:=
 match X i with
 |some (.loc r)=> ∃k,(t,k)∈r.wr
 |some (.shr ..)=>True
 |none=>False
def FR (X:Nat->Option XR) (i t:Nat):Prop:=
 match X i with
 |some (.loc r)=>t∈r.fr
 |some (.shr _ _ z)=>t∈z
 |none=>False
def vT (S:Nat->St) (X:Nat->Option XR) (n:Nat) (done:Nat->Prop) (t:Nat) (k:fV):Prop:=
 ∃m,m<=n/\(∀i,i<n->W X i t->(done i↔i<m))/\(∀c,c<n->(S c).sto.length<=t->t<(S (c+1)).sto.length->c<m)/\(S m).sto[t]? =some k
theorem K8 {e:lZ} {sto:bI} {fz:List Nat} {op:fX} {v:PV} {s:bI} {z:List Nat} (h:pM F rec e sto fz op=some (.shr v s z)):sto.length<=s.length/\ ∀t,t∈fz->t∈z:=by
 have key: ∀{f:FuncId} {args:List PV},cZ rec f args sto fz=some (.shr v s z)->sto.length<=s.length/\ ∀t,t∈fz->t∈z:=by
  intro f args h;unfold cZ at h;split at h
  · split at h
    · rename_i hc
      simp only [ac,cg,bh] at hc;simp only [ae,XR.shr.injEq] at h;obtain ⟨rfl,rfl,rfl⟩:=h;exact ⟨hc.1,fun t ht=>jS.1 (hc.2 t ht)⟩
    cases h
  cases h
 cases op with
 |call m f args=>
  cases m with
  |pur=>simp [pM] at h
  |own=>simp [pM] at h
  |shr=>exact key h
  |fp=>simp [pM] at h
 |callv x args=>
  simp only [pM] at h;split at h
  · split at h
    · exact key h
    simp at h
  cases h
 |_=>simp [pM] at h
theorem qP.len_le (hr:qP F rec ops S X) {i:Nat} (hi:i<ops.length):(S i).sto.length<=(S (i+1)).sto.length:=by
 rcases hr.steps i _ (aa hi) with ⟨_,x,hx,_,_,hn⟩|⟨_,_,hn⟩
 · rw [hn]
   cases x with
   |loc r=>simp [XR.next,kZ,cU]
   |shr v s z=>exact (K8 hx).1
 rw [hn];exact aj _
theorem qP.len_mono (hr : qP F rec ops S X) {i j : Nat} (hij : i <= j) (hj : j <= ops.length) : (S i).sto.length <= (S j).sto.length := by
  induction j with
  | zero => have : i = 0 := by omega
            subst this; exact aj _
  | succ j ih =>
    rcases bi hij with h | h
    · subst h; exact aj _
    exact az (ih (by omega) (by omega)) (hr.len_le (by omega))
theorem qP.same (hr:qP F rec ops S X) {i t:Nat} (hi:i<ops.length) (hw: ¬W X i t) (ht:t<(S i).sto.length):(S (i+1)).sto[t]? =(S i).sto[t]?:=by
 rcases hr.steps i _ (aa hi) with ⟨_,x,hx,_,hX,hn⟩|⟨_,_,hn⟩
 · rw [hn]
   cases x with
   |loc r=>
    simp only [XR.next,kZ]
    rw [ah (by rw [cU];exact ht)]
    exact mY _ _ _ fun k hk=>hw (by unfold W;rw [hX];exact ⟨k,hk⟩)
   |shr v s z=>exact absurd (by unfold W;rw [hX];trivial) hw
 rw [hn]
theorem qP.same_to (hr : qP F rec ops S X) {m m' t : Nat} (hm : m <= m') (hm' : m' <= ops.length) (hw : ∀ i, m <= i -> i < m' -> ¬ W X i t) (ht : t < (S m).sto.length) : (S m').sto[t]? = (S m).sto[t]? := by
  induction m' with
  | zero => have : m = 0 := by omega
            subst this; rfl
  | succ j ih =>
    rcases bi hm with h | h
    · subst h; rfl
    rw [hr.same (by omega) (hw j (by omega) (by omega)) (bn ht (hr.len_mono (by omega) (by omega)))]
    exact ih (by omega) (by omega) fun i h1 h2 => hw i h1 (by omega)
theorem bL {α:Type} {l:List α} {i:Nat} {x:α} (h:l[i]? =some x):i<l.length:=(ag.1 h).1
theorem vT.unique (hr:qP F rec ops S X) {done:Nat->Prop} {t:Nat} {k k':fV} (h:vT S X ops.length done t k) (h':vT S X ops.length done t k'):k=k':=by
 obtain ⟨m,hm,hw,hc,hs⟩:=h;obtain ⟨m',hm',hw',hc',hs'⟩:=h';rcases dj m m' with h|h
 · have:=hr.same_to h hm' (fun i h1 h2 hW=>by
    have a:=hw i (by omega) hW
    have b:=hw' i (by omega) hW
    have:=a.1 (b.2 h2);omega) (bL hs)
   rw [hs,hs'] at this;exact (cu this).symm
 have:=hr.same_to h hm (fun i h1 h2 hW=>by
  have a:=hw i (by omega) hW
  have b:=hw' i (by omega) hW
  have:=b.1 (a.2 h2);omega) (bL hs')
 rw [hs,hs'] at this;exact cu this
theorem qP.env_same (hr:qP F rec ops S X) {i t:Nat} (hi:i<ops.length) (hd:(ops[i]).dst≠some t):lk t (S (i+1)).env=lk t (S i).env:=by
 have key: ∀(d:Option Nat) (v:PV) (e:lZ),d≠some t->lk t (eI d v e)=lk t e:=by
  intro d v e h;cases d with
  |none=>rfl
  |some s=>
   simp only [eI];rw [lB,if_neg (fun e=>h (by rw [e]))]
 rcases hr.steps i _ (aa hi) with ⟨_,x,hx,_,hX,hn⟩|⟨_,_,hn⟩
 · rw [hn]
   cases x with
   |loc r=>exact key _ _ _ hd
   |shr v s z=>exact key _ _ _ hd
 rw [hn];exact key _ _ _ hd
theorem qP.env_to (hr : qP F rec ops S X) {m m' t : Nat} (hm : m <= m') (hm' : m' <= ops.length) (hd : ∀ i (hi : i < ops.length), m <= i -> i < m' -> (ops[i]).dst ≠ some t) : lk t (S m').env = lk t (S m).env := by
  induction m' with
  | zero => have : m = 0 := by omega
            subst this; rfl
  | succ j ih =>
    rcases bi hm with h | h
    · subst h; rfl
    rw [hr.env_same (by omega) (hd j (by omega) (by omega) (by omega))]
    exact ih (by omega) (by omega) fun i hi h1 h2 => hd i hi h1 (by omega)
end
end Go.Vm
/- A region: what holds while some of its operations are done, and that one more keeps it. -/
namespace Go.Vm
def uses (x:aY):List Nat:=(x.op.opds.filterMap fun| .t n=>some n| .c _=>none)++(match x.guard with|some (s,_)=>[s]|none=>[])
def nK (ops:Array Oper):Option (Nat×Bool)->Option (Nat×Bool)->Bool
 |none,none=>true
 |some (s,b),some (j,c)=>b==c&&((ops[j]?).bind (·.dst))==some s
 |_,_=>false
def lC (P:Program) (prims:FuncId->Bool) (nt:Nat) (ops:Array Oper) (x:aY) (o:Oper):Bool:=
 x.dst==o.dst&&(match x.dst with|some d=>bw d nt|none=>true)&&nK ops x.guard o.guard&&pO P prims o.type x.op o.op
def kU (X:Nat->Option XR) (i:Nat):Prop:= ∃v s z,X i=some (.shr v s z)
def touches (X:Nat->Option XR) (i:Nat):Prop:=
 match X i with
 |some (.loc r)=>r.rd≠[]\/r.fr≠[]\/r.wr≠[]\/r.news≠[]
 |some (.shr ..)=>True
 |none=>False
def A (X:Nat->Option XR) (i t:Nat):Prop:=
 match X i with
 |some (.loc r)=>t∈r.rd\/t∈r.fr
 |_=>False
structure G5 (ops:List aY) (S:Nat->St) (X:Nat->Option XR) (bef:Nat->Nat->Prop):Prop where
 slot1: ∀(i j t:Nat) (x y:aY),i<j->ops[i]? =some x->ops[j]? =some y->x.dst=some t->(t∈uses y\/y.dst=some t)->bef i j
 slot2: ∀(i j t:Nat) (x y:aY),i<j->ops[i]? =some x->ops[j]? =some y->y.dst=some t->t∈uses x->bef i j
 tok1: ∀i j t,i<j->j<ops.length->W X i t->(A X j t\/W X j t)->bef i j
 tok2: ∀i j t,i<j->j<ops.length->A X i t->W X j t->bef i j
 tok3: ∀i j t,i<j->j<ops.length-> ¬kU X i->(S i).sto.length<=t->t<(S (i+1)).sto.length-> ¬kU X j->W X j t->bef i j
 bar: ∀i j,i<j->j<ops.length->(kU X i/\touches X j\/touches X i/\kU X j)->bef i j
 cl: ∀i t,i<ops.length-> ¬kU X i->(A X i t\/W X i t)->t<(S i).sto.length\/ ∀c,i<c->c<ops.length->bef i c
structure nZ (ops:List aY) (S:Nat->St) (X:Nat->Option XR) (im0:Im) (loc0:bO) (w0:World) (nt:Nat) (done:Nat->Prop) (im:Im) (loc:bO) (a:Act) (w:World):Prop where
 tm: ∀t,∃m,m<=ops.length/\(∀i x,ops[i]? =some x->x.dst=some t->(done i↔i<m))/\VR im loc (lk t (S m).env) (a.tmps.getD t Go.undef)
 im_ok: ∀b o,im b=some o->w.heap[b]? =some o
 tok: ∀t li,loc t=some li-> ∃k,vT S X ops.length done t k/\BR im loc w li k
 excl: ∀t u li lj k k',loc t=some li->loc u=some lj->vT S X ops.length done t k->vT S X ops.length done u k'->k.solid=true->k'.solid=true->li.blk=lj.blk->t=u
 free: ∀t li k,loc t=some li->vT S X ops.length done t k->k.solid=true->t∉(S 0).fz->(∀i,i<ops.length->done i-> ¬FR X i t)->im li.blk=none
 fresh: ∀i,i<ops.length-> ¬done i-> ∀t,(S i).sto.length<=t->t<(S (i+1)).sto.length->loc t=none
 imle:iW im0 im
 locle:gV loc0 loc
 os:w.os=w0.os
 tape:w.tape=w0.tape
 output:w.output=w0.output
 size:w0.heap.size<=w.heap.size
 frame: ∀b,b<w0.heap.size->(∀t li k,loc0 t=some li->(S 0).sto[t]? =some k->k.solid=true->li.blk≠b)->w.heap[b]? =w0.heap[b]?
 imnew: ∀b o,im b=some o->im0 b=some o\/w0.heap.size<=b\/ ∃t li k,loc0 t=some li/\(S 0).sto[t]? =some k/\k.solid=true/\li.blk=b
 locs: ∀t li,loc t=some li->loc0 t=some li\/(S 0).sto.length<=t
 own: ∀t li k,loc t=some li->vT S X ops.length done t k->k.solid=true->(w0.heap.size<=li.blk\/ ∃u lu ku,loc0 u=some lu/\(S 0).sto[u]? =some ku/\ku.solid=true/\lu.blk=li.blk)
 defers:a.defers=[]
 nts:a.tmps.size=nt
def oH (done:Nat->Prop) (i:Nat):Nat->Prop:=fun j=>done j\/j=i
section
variable {F : iH} {rec : fF -> Option mB} {ops : List aY} {S : Nat -> St} {X : Nat -> Option XR} {bef : Nat -> Nat -> Prop} {im0 : Im} {loc0 : bO} {w0 : World} {nt : Nat}
  {done : Nat -> Prop} {im : Im} {loc : bO} {a : Act} {w : World} {i : Nat}
structure pR (ops:List aY) (bef:Nat->Nat->Prop) (done:Nat->Prop) (i:Nat):Prop where
 lt:i<ops.length
 nd: ¬done i
 pre: ∀j,j<ops.length->bef j i->done j
 clo: ∀k,k<ops.length->done k-> ∀j,j<ops.length->bef j k->done j
theorem pR.later (hp:pR ops bef done i) {k:Nat} (hk:k<ops.length) (h:bef i k): ¬done k:=fun hd=>hp.nd (hp.clo k hk hd i hp.lt h)
theorem nZ.slot (hr:qP F rec ops S X) (ho:G5 ops S X bef) (hv:nZ ops S X im0 loc0 w0 nt done im loc a w) (hp:pR ops bef done i) {x:aY} (hx:ops[i]? =some x) {t:Nat} (ht:t∈uses x):
 VR im loc (lk t (S i).env) (a.tmps.getD t Go.undef):=by
 obtain ⟨m,hm,hd,hvr⟩:=hv.tm t;have hwr: ∀j y,ops[j]? =some y->y.dst=some t->(done j↔j<i):=by
  intro j y hy hyd;rcases ax j i with h|h|h
  · exact ⟨fun _=>h,fun _=>hp.pre j (bL hy) (ho.slot1 j i t y x h hy hx hyd (.inl ht))⟩
  · subst h;exact ⟨fun hd=>absurd hd hp.nd,fun h=>by omega⟩
  exact ⟨fun hdj=>absurd hdj (hp.later (bL hy) (ho.slot2 i j t x y h hx hy hyd ht)),fun h'=>by omega⟩
 have same:lk t (S i).env=lk t (S m).env:=by
  rcases dj m i with h|h
  · refine hr.env_to h (ce hp.lt) fun j hj h1 h2 hdst=>?_
    have a1:=hd j _ (aa hj) hdst;have a2:=hwr j _ (aa hj) hdst
    have:=a1.1 (a2.2 h2);omega
  refine (hr.env_to h hm fun j hj h1 h2 hdst=>?_).symm
  have a1:=hd j _ (aa hj) hdst;have a2:=hwr j _ (aa hj) hdst
  have:=a2.1 (a1.2 h2);omega
 rw [same];exact hvr
theorem nZ.cur (hr:qP F rec ops S X) (ho:G5 ops S X bef) (hv:nZ ops S X im0 loc0 w0 nt done im loc a w) (hp:pR ops bef done i) {t:Nat} {li:LI} (hl:loc t=some li)
 (ht:(A X i t\/W X i t)) {k:fV} (hc:vT S X ops.length done t k):(S i).sto[t]? =some k:=by
 obtain ⟨m,hm,hw,hcr,hs⟩:=hc;have hlen:t<(S i).sto.length:=by
  rcases ay t (S i).sto.length with h|h
  · exact h
  exfalso
  have hmi:i<m:=by
   rcases ay i m with h'|h'
   · exact h'
   have:=hr.len_mono h' (ce hp.lt);have:=bL hs;omega
  have: ∃c,i<=c/\c<m/\(S c).sto.length<=t/\t<(S (c+1)).sto.length:=by
   have hex: ∀d,i+d<=m->t<(S (i+d)).sto.length-> ∃c,i<=c/\c<i+d/\(S c).sto.length<=t/\t<(S (c+1)).sto.length:=by
    intro d
    induction d with
    |zero=>intro _ h2;exact absurd h2 (by simpa using h)
    |succ d ih=>
     intro h1 h2;rcases ay t (S (i+d)).sto.length with h3|h3
     · obtain ⟨c,c1,c2,c3,c4⟩:=ih (by omega) h3
       exact ⟨c,c1,by omega,c3,c4⟩
     exact ⟨i+d,by omega,by omega,h3,h2⟩
   obtain ⟨c,c1,c2,c3,c4⟩:=hex (m-i) (by omega) (by rw [show i+(m-i)=m by omega];exact bL hs)
   exact ⟨c,c1,by omega,c3,c4⟩
  obtain ⟨c,c1,c2,c3,c4⟩:=this;have hcn:c<ops.length:=by omega
  have hndc: ¬done c:=by
   intro hdc;rcases bi c1 with e|e
   · subst e;exact hp.nd hdc
   by_cases hsh:kU X i
   · refine hp.later hcn (ho.bar i c e hcn (.inl ⟨hsh,?_⟩)) hdc
     rcases hr.steps c _ (aa hcn) with ⟨_,x,hx,_,hX,hn⟩|⟨_,_,hn⟩
     · unfold touches;rw [hX]
       cases x with
       |loc r=>
        refine .inr (.inr (.inr fun hnil=>?_))
        rw [hn] at c4;simp [XR.next,kZ,cU,hnil] at c4
        omega
       |shr v s z=>trivial
     rw [hn] at c4;simp at c4;omega
   rcases ho.cl i t hp.lt hsh ht with h'|h'
   · omega
   exact hp.later hcn (h' c e hcn) hdc
  have:=hv.fresh c hcn hndc t c3 c4
  rw [hl] at this;cases this
 have hwr: ∀j,j<ops.length->W X j t->(done j↔j<i):=by
  intro j hj hW;rcases ax j i with h|h|h
  · exact ⟨fun _=>h,fun _=>hp.pre j hj (ho.tok1 j i t h hp.lt hW ht)⟩
  · subst h;exact ⟨fun hd=>absurd hd hp.nd,fun h=>by omega⟩
  refine ⟨fun hdj=>absurd hdj (hp.later hj ?_),fun h'=>by omega⟩
  rcases ht with ht|ht
  · exact ho.tok2 i j t h hj ht hW
  exact ho.tok1 i j t h hj ht (.inr hW)
 rcases dj m i with h|h
 · rw [hr.same_to h (ce hp.lt) (fun j h1 h2 hW=>by
    have a1:=hw j (by have:=hp.lt;omega) hW
    have a2:=hwr j (by have:=hp.lt;omega) hW
    have:=a1.1 (a2.2 h2);omega) (bL hs)]
   exact hs
 rw [<- hr.same_to h hm (fun j h1 h2 hW=>by
  have a1:=hw j (by omega) hW
  have a2:=hwr j (by omega) hW
  have:=a2.1 (a1.2 h2);omega) hlen]
 exact hs
end
end Go.Vm
/- A region: one more operation keeps what holds. -/
namespace Go.Vm
theorem BR.mono' {im im':Im} {loc loc':bO} {w w':World} {li:LI} {k:fV} (h:BR im loc w li k) (hi:iW im im') (hl:gV loc loc')
 (hw:k.solid=true->w'.heap[li.blk]? =w.heap[li.blk]?):BR im' loc' w' li k:=by
 cases hs:k.solid with
 |true=>exact h.mono hi hl (hw hs)
 |false=>
  cases k with
  |arr e rows=>
   cases rows with
   |nil=>exact ⟨h.1,h.2.1,fun hne=>absurd rfl hne⟩
   |cons _ _=>cases hs
  |box _=>cases hs
  |map _=>cases hs
  |dead=>trivial
section
variable {F : iH} {rec : fF -> Option mB} {ops : List aY} {S : Nat -> St} {X : Nat -> Option XR} {bef : Nat -> Nat -> Prop} {im0 : Im} {loc0 : bO} {w0 : World} {nt : Nat}
  {done : Nat -> Prop} {im : Im} {loc : bO} {a : Act} {w : World} {i : Nat}
theorem qP.fz_le (hr:qP F rec ops S X) {j:Nat} (hj:j<ops.length): ∀t,t∈(S j).fz->t∈(S (j+1)).fz:=by
 intro t ht;rcases hr.steps j _ (aa hj) with ⟨_,x,hx,_,_,hn⟩|⟨_,_,hn⟩
 · rw [hn]
   cases x with
   |loc r=>simp only [XR.next];exact cw _ ht
   |shr v s z=>exact (K8 hx).2 t ht
 rw [hn];exact ht
theorem qP.fz_mono (hr : qP F rec ops S X) {m m' : Nat} (h : m <= m') (hm : m' <= ops.length) : ∀ t, t ∈ (S m).fz -> t ∈ (S m').fz := by
  induction m' with
  | zero => have : m = 0 := by omega
            subst this; exact fun _ h => h
  | succ j ih =>
    rcases bi h with e | e
    · subst e; exact fun _ h => h
    exact fun t ht => hr.fz_le (by omega) t (ih (by omega) (by omega) t ht)
theorem qP.fr_fz (hr:qP F rec ops S X) {j:Nat} (hj:j<ops.length) {t:Nat} (h:FR X j t):t∈(S (j+1)).fz:=by
 rcases hr.steps j _ (aa hj) with ⟨_,x,hx,_,hX,hn⟩|⟨_,hX,_⟩
 · rw [hn]
   unfold FR at h;rw [hX] at h;cases x with
   |loc r=>exact cz _ h
   |shr v s z=>exact h
 unfold FR at h;rw [hX] at h;exact h.elim
theorem aGK {j t:Nat} (h:FR X j t):A X j t\/W X j t:=by
 unfold FR at h;unfold A W;cases hX:X j with
 |none=>rw [hX] at h;exact h.elim
 |some x=>
  rw [hX] at h;cases x with
  |loc r=>exact .inl (.inr h)
  |shr v s z=>exact .inr trivial
theorem nZ.not_frozen (hr:qP F rec ops S X) (ho:G5 ops S X bef) (hp:pR ops bef done i) {t:Nat} (hW:W X i t) (hz:t∉(S i).fz):
 t∉(S 0).fz/\ ∀j,j<ops.length->done j-> ¬FR X j t:=by
 refine ⟨fun h=>hz (hr.fz_mono (be _) (ce hp.lt) t h),fun j hj hd hf=>?_⟩
 rcases ax j i with h|h|h
 · exact hz (hr.fz_mono h (ce hp.lt) t (hr.fr_fz hj hf))
 · subst h;exact hp.nd hd
 exact hp.later hj (ho.tok1 i j t h hj hW (aGK hf)) hd
theorem nZ.known (hr:qP F rec ops S X) (ho:G5 ops S X bef) (hv:nZ ops S X im0 loc0 w0 nt done im loc a w) (hp:pR ops bef done i) {r:iT} (hX:X i=some (.loc r)) (hok:(XR.loc r).ok (S i).fz=true)
 (hn:(S (i+1)).sto.length=(S i).sto.length+r.news.length):eU im loc (S i).sto w r where
 im_ok:=hv.im_ok
 tok:=fun t ht li hl=>by
  obtain ⟨k,hc,hbr⟩:=hv.tok t li hl;refine ⟨k,hv.cur hr ho hp hl ?_ hc,hbr⟩;rcases ht with ht|ht
  · exact .inl (by unfold A;rw [hX];exact .inl ht)
  exact .inr (by unfold W;rw [hX];exact ht)
 free:=fun t k hm li k' hl hs hsol=>by
  have hW:W X i t:=by unfold W;rw [hX];exact ⟨k,hm⟩
  simp only [XR.ok,ac,bh,au] at hok;have hz:t∉(S i).fz:=fA.1 (hok.1 (t,k) hm);obtain ⟨h0,h1⟩:=nZ.not_frozen hr ho hp hW hz;obtain ⟨k2,hc,_⟩:=hv.tok t li hl
  have:=hv.cur hr ho hp hl (.inr hW) hc
  rw [hs] at this;injection this with this;subst this;exact hv.free t li k' hl hc hsol h0 h1
 fresh:=fun j hj=>hv.fresh i hp.lt hp.nd _ (by omega) (by omega)
 excl:=fun t u li lj k k' ht hu hl hl' hs hs' hsol hsol' hb=>by
  have aw: ∀t,(t∈r.rd\/ ∃b,(t,b)∈r.wr)->A X i t\/W X i t:=fun t h=>by
   rcases h with h|h
   · exact .inl (by unfold A;rw [hX];exact .inl h)
   exact .inr (by unfold W;rw [hX];exact h)
  obtain ⟨k1,hc1,_⟩:=hv.tok t li hl;obtain ⟨k2,hc2,_⟩:=hv.tok u lj hl';have e1:=hv.cur hr ho hp hl (aw t ht) hc1;have e2:=hv.cur hr ho hp hl' (aw u hu) hc2;rw [hs] at e1;injection e1 with e1;subst e1;rw [hs'] at e2;injection e2 with e2;subst e2;exact hv.excl t u li lj _ _ hl hl' hc1 hc2 hsol hsol' hb
theorem nZ.step_loc (hr:qP F rec ops S X) (ho:G5 ops S X bef) (hv:nZ ops S X im0 loc0 w0 nt done im loc a w) (hp:pR ops bef done i) {x:aY} (hx:ops[i]? =some x) {r:iT} (hX:X i=some (.loc r))
 (hok:(XR.loc r).ok (S i).fz=true) (hS:S (i+1)=(XR.loc r).next x.dst (S i)) {v':Value} {im':Im} {loc':bO} {w':World} (hvr:VR im' loc' r.v v') (he:mG im loc (S i).sto w r im' loc' w')
 (hdst: ∀d,x.dst=some d->d<nt):nZ ops S X im0 loc0 w0 nt (oH done i) im' loc' (a.put x.dst v') w':=by
 have hlen:(S (i+1)).sto.length=(S i).sto.length+r.news.length:=by rw [hS];simp [XR.next,kZ,cU]
 have hin:=hp.lt;have hone:oB r.wr=true:=by simp only [XR.ok,ac] at hok;exact hok.2
 have hsto:(S (i+1)).sto=dC r.wr (S i).sto++r.news:=by rw [hS];exact kZ _ _
 have wr_at: ∀t k,(t,k)∈r.wr->t<(S i).sto.length->(S (i+1)).sto[t]? =some k:=by
  intro t k hm hlt;rw [hsto,ah (by rw [cU];exact hlt)]
  exact BC _ _ hone hm hlt
 have new_at: ∀j k,r.news[j]? =some k->(S (i+1)).sto[(S i).sto.length+j]? =some k:=by
  intro j k hj;rw [hsto,ap (by rw [cU];omega),cU,show (S i).sto.length+j- (S i).sto.length=j by omega]
  exact hj
 have wlt: ∀t li,loc t=some li->W X i t->t<(S i).sto.length:=by
  intro t li hl hW;obtain ⟨k,hc,_⟩:=hv.tok t li hl;exact bL (hv.cur hr ho hp hl (.inr hW) hc)
 have cur_wr: ∀t k li,(t,k)∈r.wr->loc t=some li->vT S X ops.length (oH done i) t k:=by
  intro t k li hm hl;have hW:W X i t:=by unfold W;rw [hX];exact ⟨k,hm⟩
  have hlt:=wlt t li hl hW;refine ⟨i+1,hin,fun j hj hWj=>?_,fun c hc h1 h2=>?_,wr_at t k hm hlt⟩
  · rcases ax j i with h|h|h
    · exact ⟨fun _=>by omega,fun _=> .inl (hp.pre j hj (ho.tok1 j i t h hin hWj (.inr hW)))⟩
    · subst h;exact ⟨fun _=>by omega,fun _=> .inr rfl⟩
    refine ⟨fun hd=>?_,fun h'=>by omega⟩
    rcases hd with hd|hd
    · exact absurd hd (hp.later hj (ho.tok1 i j t h hj hW (.inr hWj)))
    omega
  rcases ay c (i+1) with h|h
  · exact h
  have:=hr.len_mono (show i<=c by omega) (by omega);omega
 have cur_new: ∀j k,r.news[j]? =some k->vT S X ops.length (oH done i) ((S i).sto.length+j) k:=by
  intro j k hj;have hjl:=bL hj;refine ⟨i+1,hin,fun q hq hWq=>?_,fun c hc h1 h2=>?_,new_at j k hj⟩
  · rcases ax q i with h|h|h
    · refine ⟨fun _=>by omega,fun _=> .inl ?_⟩
      by_cases hs:kU X q
      ·
       refine hp.pre q hq (ho.bar q i h hin (.inl ⟨hs,?_⟩));unfold touches;rw [hX];exact .inr (.inr (.inr (by intro e;rw [e] at hj;simp at hj)))
      rcases ho.cl q _ hq hs (.inr hWq) with h'|h'
      · have:=hr.len_mono (show q<=i by omega) (by omega);omega
      exact hp.pre q hq (h' i h hin)
    · subst h;exact ⟨fun _=>by omega,fun _=> .inr rfl⟩
    refine ⟨fun hd=>?_,fun h'=>by omega⟩
    rcases hd with hd|hd
    · exfalso
      by_cases hs:kU X q
      · refine hp.later hq (ho.bar i q h hq (.inr ⟨?_,hs⟩)) hd
        unfold touches;rw [hX];exact .inr (.inr (.inr (by intro e;rw [e] at hj;simp at hj)))
      exact hp.later hq (ho.tok3 i q _ h hq (by rintro ⟨v,s,z,e⟩;rw [hX] at e;cases e) (by omega) (by omega) hs hWq) hd
    omega
  rcases ay c (i+1) with h|h
  · exact h
  have:=hr.len_mono (show i+1<=c by omega) (by omega);omega
 have cur_old: ∀t k,¬W X i t->vT S X ops.length done t k->vT S X ops.length (oH done i) t k:=by
  intro t k hW hc;obtain ⟨m,hm,h1,h2,h3⟩:=hc;refine ⟨m,hm,fun j hj hWj=>?_,h2,h3⟩
  have hne:j≠i:=fun e=>hW (e▸hWj)
  have:=h1 j hj hWj
  exact ⟨fun hd=>this.1 (hd.resolve_right hne),fun h=> .inl (this.2 h)⟩
 have not_shr: ¬kU X i:=by rintro ⟨v,s,z,e⟩;rw [hX] at e;cases e
 have cases_t: ∀t li,loc' t=some li->(∃j k,t=(S i).sto.length+j/\r.news[j]? =some k/\loc t=none)\/loc t=some li:=by
  intro t li hl;rcases he.locnew t li hl with h|⟨h1,h2⟩
  · exact .inr h
  refine .inl ⟨t- (S i).sto.length,r.news[t- (S i).sto.length],by omega,aa (by omega),?_⟩
  exact hv.fresh i hin hp.nd t h1 (by omega)
 have old: ∀t li k,loc t=some li->vT S X ops.length (oH done i) t k->k.solid=true-> ∃k0,vT S X ops.length done t k0/\k0.solid=true/\BR im loc w li k0/\(¬W X i t->k0=k)/\(W X i t->(t,k)∈r.wr):=by
  intro t li k hl hc hs;obtain ⟨k0,hc0,hbr⟩:=hv.tok t li hl
  by_cases hW:W X i t
  · have hW2:=hW
    unfold W at hW2;rw [hX] at hW2;obtain ⟨k2,hm⟩:=hW2;have e:=(cur_wr t k2 li hm hl).unique hr hc;subst e;obtain ⟨k3,h3,h4⟩:=he.wrs t k2 hm hs
    have:=hv.cur hr ho hp hl (.inr hW) hc0
    rw [h3] at this;injection this with this;subst this;exact ⟨k3,hc0,h4,hbr,fun h=>absurd hW h,fun _=>hm⟩
  have e:=(cur_old t k0 hW hc0).unique hr hc
  subst e;exact ⟨k0,hc0,hs,hbr,fun _=>rfl,fun h=>absurd h hW⟩
 have wr_cur: ∀t k li k0,(t,k)∈r.wr->loc t=some li->(S i).sto[t]? =some k0->vT S X ops.length done t k0:=by
  intro t k li k0 hm hl hs;obtain ⟨k1,hc1,_⟩:=hv.tok t li hl
  have:=hv.cur hr ho hp hl (.inr (by unfold W;rw [hX];exact ⟨k,hm⟩)) hc1
  rw [hs] at this;injection this with this;subst this;exact hc1
 have fr_cur: ∀t li k0,t∈r.fr->loc t=some li->(S i).sto[t]? =some k0->vT S X ops.length done t k0:=by
  intro t li k0 hm hl hs;obtain ⟨k1,hc1,_⟩:=hv.tok t li hl
  have:=hv.cur hr ho hp hl (.inl (by unfold A;rw [hX];exact .inr hm)) hc1
  rw [hs] at this;injection this with this;subst this;exact hc1
 refine {
  tm:=fun t=>?_
  im_ok:=he.im_ok
  tok:=fun t li hl=>?_
  excl:=fun t u li lj k k' hl hl' hc hc' hs hs' hb=>?_
  free:=fun t li k hl hc hs h0 hf=>?_
  fresh:=fun j hj hnd t h1 h2=>?_
  imle:=hv.imle.trans he.imle
  locle:=hv.locle.trans he.locle
  os:=he.os.trans hv.os
  tape:=he.tape.trans hv.tape
  output:=he.output.trans hv.output
  size:=az hv.size he.size
  frame:=fun b hb hh=>?_
  imnew:=fun b o hb=>?_
  locs:=fun t li hl=>?_
  own:=fun t li k hl hc hs=>?_
  defers:=by
   cases hd:x.dst<;>simp [Act.put,hv.defers]
  nts:=by
   cases hd:x.dst<;>simp [Act.put,hv.nts]}
 ·
  by_cases hd:x.dst=some t
  · refine ⟨i+1,hin,fun j y hy hyd=>?_,?_⟩
    · rcases ax j i with h|h|h
      · exact ⟨fun _=>by omega,fun _=> .inl (hp.pre j (bL hy) (ho.slot1 j i t y x h hy hx hyd (.inr hd)))⟩
      · subst h;exact ⟨fun _=>by omega,fun _=> .inr rfl⟩
      refine ⟨fun hdj=>?_,fun h'=>by omega⟩
      rcases hdj with hdj|hdj
      · exact absurd hdj (hp.later (bL hy) (ho.slot1 i j t x y h hx hy hd (.inr hyd)))
      omega
    rw [hS]
    simp only [XR.next,hd,eI,lB,if_true,Act.put]
    have:=hdst t hd
    simp [hv.nts,this,hvr]
  obtain ⟨m,hm,h1,h2⟩:=hv.tm t
  refine ⟨m,hm,fun j y hy hyd=>?_,?_⟩
  · have hne:j≠i:=by intro e;subst e;rw [hx] at hy;injection hy with hy;subst hy;exact hd hyd
    have:=h1 j y hy hyd
    exact ⟨fun hdj=>this.1 (hdj.resolve_right hne),fun h=> .inl (this.2 h)⟩
  have:=h2.mono he.imle he.locle
  cases hxd:x.dst with
  |none=>simpa [Act.put] using this
  |some d=>
   have hne:d≠t:=fun e=>hd (by rw [hxd,e])
   simpa [Act.put,ba,hne] using this
 ·
  rcases cases_t t li hl with ⟨j,k,rfl,hj,_⟩|hlo
  · obtain ⟨h2,_⟩:=he.news j k li hj hl
    exact ⟨k,cur_new j k hj,h2⟩
  obtain ⟨k0,hc0,hbr⟩:=hv.tok t li hlo
  by_cases hW:W X i t
  · have hW2:=hW
    unfold W at hW2;rw [hX] at hW2;obtain ⟨k2,hm⟩:=hW2;exact ⟨k2,cur_wr t k2 li hm hlo,he.wr t k2 li hm hlo⟩
  refine ⟨k0,cur_old t k0 hW hc0,hbr.mono' he.imle he.locle fun hs=>?_⟩
  refine he.frame _ (hbr.lt hs) fun t2 k2 l2 k3 hm hl2 hs3 hsol hbb=>?_
  have:=hv.excl t2 t l2 li k3 k0 hl2 hlo (wr_cur t2 k2 l2 k3 hm hl2 hs3) hc0 hsol hs hbb
  subst this;exact hW (by unfold W;rw [hX];exact ⟨k2,hm⟩)
 ·
  have newold: ∀t u li lj k k',(∃j k,t=(S i).sto.length+j/\r.news[j]? =some k/\loc t=none)->loc u=some lj->loc' t=some li->vT S X ops.length (oH done i) t k->vT S X ops.length (oH done i) u k'->
   k.solid=true->k'.solid=true->li.blk=lj.blk->False:=by
   intro t u li lj k k' hj hlu hl hc hc' hs hs' hb;obtain ⟨j,k1,rfl,hj,_⟩:=hj;have e:=(cur_new j k1 hj).unique hr hc;subst e;obtain ⟨h2,h3⟩:=he.news j k1 li hj hl;obtain ⟨k0,hc0,hs0,hbr0,hk0,hw0⟩:=old u lj k' hlu hc' hs';have hlt:=hbr0.lt hs0;rcases (h3 hs).2 with h|⟨td,lt,kd,hm,hld,hsd,hsold,hbd⟩
   · omega
   have:=hv.excl td u lt lj kd k0 hld hlu (wr_cur td _ lt kd hm hld hsd) hc0 hsold hs0 (by rw [hbd,hb])
   subst this;have hm2:=hw0 (by unfold W;rw [hX];exact ⟨_,hm⟩)
   have e2:=(cur_wr td _ lj hm hlu).unique hr (cur_wr td _ lj hm2 hlu);subst e2;cases hs'
  rcases cases_t t li hl with h1|h1
  · rcases cases_t u lj hl' with h2|h2
    · obtain ⟨j1,k1,rfl,hj1,_⟩:=h1
      obtain ⟨j2,k2,rfl,hj2,_⟩:=h2;have e1:=(cur_new j1 k1 hj1).unique hr hc;have e2:=(cur_new j2 k2 hj2).unique hr hc';subst e1 e2;rw [he.distinct j1 j2 k1 k2 li lj hj1 hj2 hs hs' hl hl' hb]
    exact (newold t u li lj k k' h1 h2 hl hc hc' hs hs' hb).elim
  rcases cases_t u lj hl' with h2|h2
  · exact (newold u t lj li k' k h2 h1 hl' hc' hc hs' hs hb.symm).elim
  obtain ⟨k0,hc0,hs0,_⟩:=old t li k h1 hc hs
  obtain ⟨k1,hc1,hs1,_⟩:=old u lj k' h2 hc' hs';exact hv.excl t u li lj k0 k1 h1 h2 hc0 hc1 hs0 hs1 hb
 ·
  rcases cases_t t li hl with ⟨j,k1,rfl,hj,_⟩|hlo
  · have e:=(cur_new j k1 hj).unique hr hc
    subst e;obtain ⟨h2,h3⟩:=he.news j k1 li hj hl;exact (h3 hs).1
  obtain ⟨k0,hc0,hs0,hbr0,_,_⟩:=old t li k hlo hc hs
  have hn:=hv.free t li k0 hlo hc0 hs0 h0 (fun j hj hd=>hf j hj (.inl hd))
  cases hb:im' li.blk with
  |none=>rfl
  |some o=>
   rcases he.imnew _ _ hb with h|h|⟨t2,l2,k2,h1,h2,h3,h4,h5⟩
   · rw [hn] at h;cases h
   · have:=hbr0.lt hs0;omega
   have hm:=jS.1 h1
   have:=hv.excl t2 t l2 li k2 k0 h2 hlo (fr_cur t2 l2 k2 hm h2 h3) hc0 h4 hs0 h5
   subst this;exact absurd (by unfold FR;rw [hX];exact hm) (hf i hin (.inr rfl))
 ·
  have hji:j≠i:=fun e=>hnd (.inr e)
  have hndj: ¬done j:=fun h=>hnd (.inl h)
  cases hl:loc' t with
  |none=>rfl
  |some li=>
   exfalso;rcases he.locnew t li hl with h|⟨h3,h4⟩
   · rw [hv.fresh j hj hndj t h1 h2] at h;cases h
   rcases di hji with h|h
   · have:=hr.len_mono (show j+1<=i by omega) (by omega);omega
   have:=hr.len_mono (show i+1<=j by omega) (by omega);omega
 ·
  have hb2:b<w.heap.size:=bn hb hv.size;rw [he.frame b hb2 (fun t k li k0 hm hl hs hsol hbb=>?_)]
  · exact hv.frame b hb hh
  rcases hv.own t li k0 hl (wr_cur t k li k0 hm hl hs) hsol with h|⟨u,lu,ku,h1,h2,h3,h4⟩
  · omega
  exact hh u lu ku h1 h2 h3 (by omega)
 · rcases he.imnew b o hb with h|h|⟨t,li,k,h1,h2,h3,h4,h5⟩
   · exact hv.imnew b o h
   · exact .inr (.inl (az hv.size h))
   rcases hv.own t li k h2 (fr_cur t li k (jS.1 h1) h2 h3) h4 with h|⟨u,lu,ku,g1,g2,g3,g4⟩
   · exact .inr (.inl (by omega))
   exact .inr (.inr ⟨u,lu,ku,g1,g2,g3,by omega⟩)
 · rcases he.locnew t li hl with h|⟨h,_⟩
   · exact hv.locs t li h
   exact .inr (az (hr.len_mono (be _) (by omega)) h)
 rcases cases_t t li hl with ⟨j,k1,rfl,hj,_⟩|hlo
 · have e:=(cur_new j k1 hj).unique hr hc
   subst e;obtain ⟨h2,h3⟩:=he.news j k1 li hj hl;rcases (h3 hs).2 with h|⟨td,lt,kd,hm,hld,hsd,hsold,hbd⟩
   · exact .inl (az hv.size h)
   rcases hv.own td lt kd hld (wr_cur td _ lt kd hm hld hsd) hsold with h|⟨u,lu,ku,g1,g2,g3,g4⟩
   · exact .inl (by omega)
   exact .inr ⟨u,lu,ku,g1,g2,g3,by omega⟩
 obtain ⟨k0,hc0,hs0,_⟩:=old t li k hlo hc hs
 exact hv.own t li k0 hlo hc0 hs0
end
end Go.Vm
/- A region: a call that works on the blocks themselves, and a skipped operation. -/
namespace Go.Vm
section
variable {F : iH} {rec : fF -> Option mB} {ops : List aY} {S : Nat -> St} {X : Nat -> Option XR} {bef : Nat -> Nat -> Prop} {im0 : Im} {loc0 : bO} {w0 : World} {nt : Nat}
  {done : Nat -> Prop} {im : Im} {loc : bO} {a : Act} {w : World} {i : Nat}
theorem D0 {v:PV} {s:bI} {z:List Nat} (hX:X i=some (.shr v s z)) (t:Nat):W X i t:=by unfold W;rw [hX];trivial
theorem oI {j t:Nat} (h:W X j t):touches X j:=by
 unfold W at h;unfold touches;cases hX:X j with
 |none=>rw [hX] at h;exact h.elim
 |some x=>
  rw [hX] at h;cases x with
  |loc r=>
   obtain ⟨k,hk⟩:=h;exact .inr (.inr (.inl (by intro e;rw [e] at hk;cases hk)))
  |shr v s z=>trivial
theorem nZ.sr (hr:qP F rec ops S X) (ho:G5 ops S X bef) (hv:nZ ops S X im0 loc0 w0 nt done im loc a w) (hp:pR ops bef done i) {v:PV} {s:bI} {z:List Nat} (hX:X i=some (.shr v s z)):
 SR im loc (S i).sto (S i).fz w where
 im_ok:=hv.im_ok
 blk:=fun t li hl=>by
  obtain ⟨k,hc,hb⟩:=hv.tok t li hl;exact ⟨k,hv.cur hr ho hp hl (.inr (D0 hX t)) hc,hb⟩
 excl:=fun t u li lj k k' hl hl' hs hs' h h' hb=>by
  obtain ⟨k1,hc1,_⟩:=hv.tok t li hl;obtain ⟨k2,hc2,_⟩:=hv.tok u lj hl';have e1:=hv.cur hr ho hp hl (.inr (D0 hX t)) hc1;have e2:=hv.cur hr ho hp hl' (.inr (D0 hX u)) hc2;rw [hs] at e1;injection e1 with e1;subst e1;rw [hs'] at e2;injection e2 with e2;subst e2;exact hv.excl t u li lj _ _ hl hl' hc1 hc2 h h' hb
 free:=fun t li k hl hs h hz=>by
  obtain ⟨k1,hc1,_⟩:=hv.tok t li hl;have e1:=hv.cur hr ho hp hl (.inr (D0 hX t)) hc1;rw [hs] at e1;injection e1 with e1;subst e1;obtain ⟨h0,h1⟩:=nZ.not_frozen hr ho hp (D0 hX t) (fA.1 hz);exact hv.free t li _ hl hc1 h h0 h1
theorem nZ.put_tm {S:Nat->St} (ho:G5 ops S X bef) (hp:pR ops bef done i) {x:aY} (hx:ops[i]? =some x) {v:PV} {v':Value} {im':Im} {loc':bO}
 (hv:nZ ops S X im0 loc0 w0 nt done im loc a w) (hi:iW im im') (hl:gV loc loc') (hS:(S (i+1)).env=eI x.dst v (S i).env) (hvr:VR im' loc' v v') (hdst: ∀d,x.dst=some d->d<nt):
 ∀t,∃m,m<=ops.length/\(∀j y,ops[j]? =some y->y.dst=some t->(oH done i j↔j<m))/\VR im' loc' (lk t (S m).env) ((a.put x.dst v').tmps.getD t Go.undef):=by
 intro t;have hin:=hp.lt
 by_cases hd:x.dst=some t
 · refine ⟨i+1,hin,fun j y hy hyd=>?_,?_⟩
   · rcases ax j i with h|h|h
     · exact ⟨fun _=>by omega,fun _=> .inl (hp.pre j (bL hy) (ho.slot1 j i t y x h hy hx hyd (.inr hd)))⟩
     · subst h;exact ⟨fun _=>by omega,fun _=> .inr rfl⟩
     refine ⟨fun hdj=>?_,fun h'=>by omega⟩
     rcases hdj with hdj|hdj
     · exact absurd hdj (hp.later (bL hy) (ho.slot1 i j t x y h hx hy hd (.inr hyd)))
     omega
   rw [hS]
   simp only [hd,eI,lB,if_true,Act.put]
   have:=hdst t hd
   simp [hv.nts,this,hvr]
 obtain ⟨m,hm,h1,h2⟩:=hv.tm t
 refine ⟨m,hm,fun j y hy hyd=>?_,?_⟩
 · have hne:j≠i:=by intro e;subst e;rw [hx] at hy;injection hy with hy;subst hy;exact hd hyd
   have:=h1 j y hy hyd
   exact ⟨fun hdj=>this.1 (hdj.resolve_right hne),fun h=> .inl (this.2 h)⟩
 have:=h2.mono hi hl
 cases hxd:x.dst with
 |none=>simpa [Act.put] using this
 |some d=>
  have hne:d≠t:=fun e=>hd (by rw [hxd,e])
  simpa [Act.put,ba,hne] using this
theorem BD (a:Act) (d:Option Nat) (v:Value):(a.put d v).defers=a.defers:=by cases d<;>rfl
theorem G6 (a:Act) (d:Option Nat) (v:Value):(a.put d v).tmps.size=a.tmps.size:=by cases d<;>simp [Act.put]
theorem nZ.step_shr (hr:qP F rec ops S X) (ho:G5 ops S X bef) (hv:nZ ops S X im0 loc0 w0 nt done im loc a w) (hp:pR ops bef done i) {x:aY} (hx:ops[i]? =some x) {v:PV} {s:bI} {z:List Nat}
 (hX:X i=some (.shr v s z)) (hS:S (i+1)=(XR.shr v s z).next x.dst (S i)) {v':Value} {im':Im} {loc':bO} {w':World} (hf:qM im loc (S i).sto w v s z im' loc' w' v')
 (hdst: ∀d,x.dst=some d->d<nt):nZ ops S X im0 loc0 w0 nt (oH done i) im' loc' (a.put x.dst v') w':=by
 have hin:=hp.lt;have hsto:(S (i+1)).sto=s:=by rw [hS];rfl
 have cur0: ∀t li,loc t=some li-> ∀k,(S i).sto[t]? =some k->vT S X ops.length done t k:=by
  intro t li hl k hs;obtain ⟨k1,hc1,_⟩:=hv.tok t li hl;have e1:=hv.cur hr ho hp hl (.inr (D0 hX t)) hc1;rw [hs] at e1;injection e1 with e1;subst e1;exact hc1
 have cur1: ∀t k,s[t]? =some k->vT S X ops.length (oH done i) t k:=by
  intro t k hs;refine ⟨i+1,hin,fun j hj hWj=>?_,fun c hc h1 h2=>?_,by rw [hsto];exact hs⟩
  · rcases ax j i with h|h|h
    · exact ⟨fun _=>by omega,fun _=> .inl (hp.pre j hj (ho.bar j i h hin (.inr ⟨oI hWj,⟨v,s,z,hX⟩⟩)))⟩
    · subst h;exact ⟨fun _=>by omega,fun _=> .inr rfl⟩
    refine ⟨fun hd=>?_,fun h'=>by omega⟩
    rcases hd with hd|hd
    · exact absurd hd (hp.later hj (ho.bar i j h hj (.inl ⟨⟨v,s,z,hX⟩,oI hWj⟩)))
    omega
  rcases ay c (i+1) with h|h
  · exact h
  have:=hr.len_mono (show i+1<=c by omega) (by omega)
  have:=bL hs
  rw [hsto] at*;omega
 have cur2: ∀t li,loc' t=some li-> ∀k,vT S X ops.length (oH done i) t k->s[t]? =some k:=by
  intro t li hl k hc;obtain ⟨k1,h1,_⟩:=hf.sr.blk t li hl
  have:=hc.unique hr (cur1 t k1 h1)
  subst this;exact h1
 refine {
  tm:=nZ.put_tm ho hp hx hv hf.imle hf.locle (by rw [hS];rfl) hf.vr hdst
  im_ok:=hf.sr.im_ok
  tok:=fun t li hl=>by
   obtain ⟨k,h1,h2⟩:=hf.sr.blk t li hl;exact ⟨k,cur1 t k h1,h2⟩
  excl:=fun t u li lj k k' hl hl' hc hc' hs hs' hb=>hf.sr.excl t u li lj k k' hl hl' (cur2 t li hl k hc) (cur2 u lj hl' k' hc') hs hs' hb
  free:=fun t li k hl hc hs h0 hfr=>by
   refine hf.sr.free t li k hl (cur2 t li hl k hc) hs (fA.2 ?_)
   have:=hfr i hin (.inr rfl)
   unfold FR at this;rw [hX] at this;exact this
  fresh:=fun j hj hnd t h1 h2=>?_
  imle:=hv.imle.trans hf.imle
  locle:=hv.locle.trans hf.locle
  os:=hf.os.trans hv.os
  tape:=hf.tape.trans hv.tape
  output:=hf.output.trans hv.output
  size:=az hv.size hf.size
  frame:=fun b hb hh=>?_
  imnew:=fun b o hb=>?_
  locs:=fun t li hl=>?_
  own:=fun t li k hl hc hs=>?_
  defers:=by rw [BD];exact hv.defers
  nts:=by rw [G6];exact hv.nts}
 · have hji:j≠i:=fun e=>hnd (.inr e)
   have hndj: ¬done j:=fun h=>hnd (.inl h)
   cases hl:loc' t with
   |none=>rfl
   |some li=>
    exfalso;obtain ⟨k,hk,_⟩:=hf.sr.blk t li hl;have hlt:=bL hk;rcases hf.locs t li hl with h|h
    · rw [hv.fresh j hj hndj t h1 h2] at h;cases h
    rcases di hji with h'|h'
    · have:=hr.len_mono (show j+1<=i by omega) (by omega);omega
    have:=hr.len_mono (show i+1<=j by omega) (by omega)
    rw [hsto] at this;omega
 · rw [hf.frame b (bn hb hv.size) fun t li k hl hs hsol hbb=>?_]
   · exact hv.frame b hb hh
   rcases hv.own t li k hl (cur0 t li hl k hs) hsol with h|⟨u,lu,ku,g1,g2,g3,g4⟩
   · omega
   exact hh u lu ku g1 g2 g3 (by omega)
 · rcases hf.imnew b o hb with h|h|⟨t,li,k,h1,h2,h3,h4⟩
   · exact hv.imnew b o h
   · exact .inr (.inl (az hv.size h))
   rcases hv.own t li k h1 (cur0 t li h1 k h2) h3 with h|⟨u,lu,ku,g1,g2,g3,g4⟩
   · exact .inr (.inl (by omega))
   exact .inr (.inr ⟨u,lu,ku,g1,g2,g3,by omega⟩)
 · rcases hf.locs t li hl with h|h
   · exact hv.locs t li h
   exact .inr (az (hr.len_mono (be _) (by omega)) h)
 rcases hf.own t li k hl (cur2 t li hl k hc) hs with h|⟨u,lu,ku,h1,h2,h3,h4⟩
 · exact .inl (az hv.size h)
 rcases hv.own u lu ku h1 (cur0 u lu h1 ku h2) h3 with h|⟨u',lu',ku',g1,g2,g3,g4⟩
 · exact .inl (by omega)
 exact .inr ⟨u',lu',ku',g1,g2,g3,by omega⟩
theorem nZ.step_skip (_hr:qP F rec ops S X) (ho:G5 ops S X bef) (hv:nZ ops S X im0 loc0 w0 nt done im loc a w) (hp:pR ops bef done i) {x:aY} (hx:ops[i]? =some x)
 (hX:X i=none) (hS:S (i+1)={S i with env:=eI x.dst .nul (S i).env}) (hdst: ∀d,x.dst=some d->d<nt):nZ ops S X im0 loc0 w0 nt (oH done i) im loc (a.put x.dst Go.undef) w:=by
 have hin:=hp.lt;have hnW: ∀t,¬W X i t:=fun t h=>by unfold W at h;rw [hX] at h;exact h
 have hsto:(S (i+1)).sto=(S i).sto:=by rw [hS]
 have cur1: ∀t k,vT S X ops.length done t k->vT S X ops.length (oH done i) t k:=by
  intro t k ⟨m,hm,h1,h2,h3⟩;refine ⟨m,hm,fun j hj hWj=>?_,h2,h3⟩
  have hne:j≠i:=fun e=>hnW t (e▸hWj)
  have:=h1 j hj hWj
  exact ⟨fun hd=>this.1 (hd.resolve_right hne),fun h=> .inl (this.2 h)⟩
 have cur2: ∀t k,vT S X ops.length (oH done i) t k->vT S X ops.length done t k:=by
  intro t k ⟨m,hm,h1,h2,h3⟩;refine ⟨m,hm,fun j hj hWj=>?_,h2,h3⟩
  have hne:j≠i:=fun e=>hnW t (e▸hWj)
  have:=h1 j hj hWj
  exact ⟨fun hd=>this.1 (.inl hd),fun h=>(this.2 h).resolve_right hne⟩
 refine {
  tm:=nZ.put_tm ho hp hx hv (.refl _) (.refl _) (by rw [hS]) .nul hdst
  im_ok:=hv.im_ok
  tok:=fun t li hl=>let ⟨k,h1,h2⟩:=hv.tok t li hl;⟨k,cur1 t k h1,h2⟩
  excl:=fun t u li lj k k' hl hl' hc hc' hs hs' hb=>hv.excl t u li lj k k' hl hl' (cur2 t k hc) (cur2 u k' hc') hs hs' hb
  free:=fun t li k hl hc hs h0 hfr=>hv.free t li k hl (cur2 t k hc) hs h0 fun j hj hd=>hfr j hj (.inl hd)
  fresh:=fun j hj hnd t h1 h2=>hv.fresh j hj (fun h=>hnd (.inl h)) t h1 h2
  imle:=hv.imle
  locle:=hv.locle
  os:=hv.os
  tape:=hv.tape
  output:=hv.output
  size:=hv.size
  frame:=hv.frame
  imnew:=hv.imnew
  locs:=hv.locs
  own:=fun t li k hl hc hs=>hv.own t li k hl (cur2 t k hc) hs
  defers:=by rw [BD];exact hv.defers
  nts:=by rw [G6];exact hv.nts}
theorem nZ.start {st:St} (h0:S 0=st) (hsr:SR im0 loc0 st.sto st.fz w0) (her:ER im0 loc0 st.env a.tmps) (hd:a.defers=[]) (hn:a.tmps.size=nt) (hr:qP F rec ops S X):
 nZ ops S X im0 loc0 w0 nt (fun _=>False) im0 loc0 a w0:=by
 subst h0;have hlt: ∀t li,loc0 t=some li->t<(S 0).sto.length:=fun t li hl=>let ⟨k,h,_⟩:=hsr.blk t li hl;bL h
 have cur: ∀t li k,loc0 t=some li->vT S X ops.length (fun _=>False) t k->(S 0).sto[t]? =some k:=by
  intro t li k hl ⟨m,hm,h1,h2,h3⟩;rw [<- hr.same_to (be m) hm (fun j _ hj hW=>(h1 j (by omega) hW).2 hj) (hlt t li hl)]
  exact h3
 exact {
  tm:=fun t=>⟨0,be _,fun j y _ _=>⟨fun h=>h.elim,fun h=>by omega⟩,her t⟩
  im_ok:=hsr.im_ok
  tok:=fun t li hl=>by
   obtain ⟨k,h1,h2⟩:=hsr.blk t li hl;refine ⟨k,⟨0,be _,fun j _ _=>⟨fun h=>h.elim,fun h=>by omega⟩,fun c hc h3 h4=>?_,h1⟩,h2⟩
   have:=hlt t li hl
   have:=hr.len_mono (be c) (by omega)
   omega
  excl:=fun t u li lj k k' hl hl' hc hc'=>hsr.excl t u li lj k k' hl hl' (cur t li k hl hc) (cur u lj k' hl' hc')
  free:=fun t li k hl hc hs hz _=>hsr.free t li k hl (cur t li k hl hc) hs (fA.2 hz)
  fresh:=fun j hj _ t h1 h2=>by
   cases hl:loc0 t with
   |none=>rfl
   |some li=>
    have:=hlt t li hl
    have:=hr.len_mono (be j) (by omega)
    omega
  imle:= .refl _
  locle:= .refl _
  os:=rfl
  tape:=rfl
  output:=rfl
  size:=aj _
  frame:=fun _ _ _=>rfl
  imnew:=fun _ _ h=> .inl h
  locs:=fun _ _ h=> .inl h
  own:=fun t li k hl hc hs=> .inr ⟨t,li,k,hl,cur t li k hl hc,hs,rfl⟩
  defers:=hd
  nts:=hn}
structure DN (im0:Im) (loc0:bO) (sto0:bI) (w0:World) (st:St) (im:Im) (loc:bO) (w:World):Prop where
 sr:SR im loc st.sto st.fz w
 imle:iW im0 im
 locle:gV loc0 loc
 os:w.os=w0.os
 tape:w.tape=w0.tape
 output:w.output=w0.output
 size:w0.heap.size<=w.heap.size
 frame: ∀b,b<w0.heap.size->(∀t li k,loc0 t=some li->sto0[t]? =some k->k.solid=true->li.blk≠b)->w.heap[b]? =w0.heap[b]?
 imnew: ∀b o,im b=some o->im0 b=some o\/w0.heap.size<=b\/ ∃t li k,loc0 t=some li/\sto0[t]? =some k/\k.solid=true/\li.blk=b
 locs: ∀t li,loc t=some li->loc0 t=some li\/sto0.length<=t
 own: ∀t li k,loc t=some li->st.sto[t]? =some k->k.solid=true->(w0.heap.size<=li.blk\/ ∃u lu ku,loc0 u=some lu/\sto0[u]? =some ku/\ku.solid=true/\lu.blk=li.blk)
theorem nZ.finish (hr : qP F rec ops S X) (hv : nZ ops S X im0 loc0 w0 nt done im loc a w) (hd : ∀ j, j < ops.length -> done j) :
    DN im0 loc0 (S 0).sto w0 (S ops.length) im loc w /\ ER im loc (S ops.length).env a.tmps /\ a.defers = [] /\ a.tmps.size = nt := by
  have cur : ∀ t k, vT S X ops.length done t k -> (S ops.length).sto[t]? = some k := by
    intro t k ⟨m, hm, h1, h2, h3⟩
    rw [hr.same_to hm (aj _) (fun j h4 h5 hW => by have := (h1 j h5 hW).1 (hd j h5); omega) (bL h3)]
    exact h3
  have cur' : ∀ t li k, loc t = some li -> (S ops.length).sto[t]? = some k -> vT S X ops.length done t k := by
    intro t li k hl hs
    obtain ⟨k1, hc, _⟩ := hv.tok t li hl
    have := cur t k1 hc
    rw [hs] at this; injection this with this; subst this; exact hc
  refine ⟨{
    sr := { im_ok := hv.im_ok
            blk := fun t li hl => let ⟨k, h1, h2⟩ := hv.tok t li hl; ⟨k, cur t k h1, h2⟩
            excl := fun t u li lj k k' hl hl' hs hs' => hv.excl t u li lj k k' hl hl' (cur' t li k hl hs) (cur' u lj k' hl' hs')
            free := fun t li k hl hs hsol hz => by
              have hz := fA.1 hz
              refine hv.free t li k hl (cur' t li k hl hs) hsol (fun h => hz (hr.fz_mono (be _) (aj _) t h)) fun j hj _ hf => ?_
              exact hz (hr.fz_mono (show j + 1 <= ops.length from hj) (aj _) t (hr.fr_fz hj hf)) }
    imle := hv.imle, locle := hv.locle, os := hv.os, tape := hv.tape, output := hv.output, size := hv.size, frame := hv.frame, imnew := hv.imnew, locs := hv.locs
    own := fun t li k hl hs => hv.own t li k hl (cur' t li k hl hs) }, fun t => ?_, hv.defers, hv.nts⟩
  obtain ⟨m, hm, h1, h2⟩ := hv.tm t
  rw [hr.env_to hm (aj _) fun j hj h3 h4 hdst => ?_]
  · exact h2
  have := (h1 j _ (aa hj) hdst).1 (hd j hj); omega
end
end Go.Vm
/- One operation of a region, in the model. -/
namespace Go.Vm
theorem xU {P:Program} {o:Oper} {a:Act} {w:World} {f:FuncId} {us:Array Value} {R:Value->World->Prop} {next:Act->World->Prop} {Q:Exit->Act->World->Prop}
 (h:(execOp a.eval o).run P w=(callFunc f us).run P w) (hc:mX P f us w R) (hR: ∀v w',R v w'->next (a.put o.dst v) w'):o.wp P a w next Q:=by
 unfold Oper.wp;rw [h];rcases hc with ⟨v,w',h1,h2⟩|⟨h1,h2⟩
 · rw [h1,Oper.upon_value];exact hR v w' h2
 rw [h1,Oper.upon_enter]
 refine h2.mono fun e w' ⟨v,he,hv⟩=>?_
 subst he;exact hR v w' hv
theorem JO {im:Im} {loc:bO} {e:lZ} {a:Act} (x:cP) (h: ∀t,x= .t t->VR im loc (lk t e) (a.tmps.getD t Go.undef)) (o:Operand) (hc:aR x o=true):VR im loc (x.ev e) (a.eval o):=by
 unfold aR at hc;split at hc
 · rename_i n m
   have:n=m:=by simpa using hc
   subst this;exact h n rfl
 · exact E9 hc
 · rename_i f g
   have:f=g:=by simpa using hc
   subst this;exact .clo f [] [] [] [] .nil .nil
 · exact .undef _
 cases hc
section
variable {P : Program} {F : iH} {rec : fF -> Option mB} {ops : List aY} {S : Nat -> St} {X : Nat -> Option XR} {bef : Nat -> Nat -> Prop} {im0 : Im} {loc0 : bO} {w0 : World} {nt : Nat}
  {done : Nat -> Prop} {im : Im} {loc : bO} {a : Act} {w : World} {i : Nat} {prims : FuncId -> Bool} {mops : Array Oper}
theorem VR.nul_inv {v:Value} (h:VR im loc .nul v):v=Go.undef:=by
 cases h;rfl
theorem oJ {r:iT} {d:Option Nat} {st:St}:((XR.loc r).next d st).sto.length=st.sto.length+r.news.length:=by simp [XR.next,kZ,cU]
theorem D1 {x:aY} {o:Oper} {e:lZ} {b:Bool} (hc:nK mops x.guard o.guard=true) (hs: ∀s c,x.guard=some (s,c)->VR im loc (lk s e) (a.tmps.getD s Go.undef)) (h:wanted x.guard e=some b):
 Region.wanted o (yielded mops a.tmps)=b:=by
 unfold Region.wanted;cases hg:x.guard with
 |none=>
  rw [hg] at hc h;cases ho:o.guard with
  |none=>simp [wanted] at h;subst h;rfl
  |some q=>rw [ho] at hc;simp [nK] at hc
 |some q=>
  obtain ⟨s,c⟩:=q;rw [hg] at hc h;cases ho:o.guard with
  |none=>rw [ho] at hc;simp [nK] at hc
  |some q'=>
   obtain ⟨j,c'⟩:=q';rw [ho] at hc;simp only [nK,ac,beq_iff_eq] at hc;obtain ⟨rfl,hd⟩:=hc;have hv:=hs s c hg;dsimp only;unfold yielded;rw [hd];simp only [wanted] at h;simp only [Option.bind_some];split at h
   · rename_i b' hl
     rw [hl] at hv
     have:=hv.bool_inv
     have ht:a.tmps[s]? =some (.bool b'):=by
      simp only [bc] at this;cases hq:a.tmps[s]? with
      |none=>rw [hq] at this;simp [Go.undef] at this
      |some u=>rw [hq] at this;exact congrArg some this
     rw [ht];rw [ae] at h;rw [<- h];cases b'<;>cases c<;>rfl
   · rename_i hl
     rw [hl] at hv
     have:a.tmps.getD s Go.undef=Go.undef:=hv.nul_inv
     injection h with h;subst h;have ht: ∀b',a.tmps[s]?≠some (.bool b'):=by
      intro b' hq;simp only [bc,hq,Option.getD_some,Go.undef] at this;cases this
     split
     · rename_i b' hq
       exact absurd hq (ht b')
     rfl
   cases h
structure FG (P:Program) (F:iH) (rec:fF->Option mB):Prop where
 func:xR P rec
 prim:sE P F
theorem nZ.wpOp (hE:FG P F rec) (hr:qP F rec ops S X) (ho:G5 ops S X bef) (hv:nZ ops S X im0 loc0 w0 nt done im loc a w) (hp:pR ops bef done i) {x:aY} {o:Oper} (hx:ops[i]? =some x) (hmo:mops[i]? =some o)
 (hc:lC P prims nt mops x o=true) {Q:Exit->Act->World->Prop} {K:Act->World->Prop}
 (hK: ∀im' loc' a' w',nZ ops S X im0 loc0 w0 nt (oH done i) im' loc' a' w'->K a' w'):Go.wpOp P mops Q i K a w:=by
 unfold lC at hc;simp only [ac,beq_iff_eq] at hc;obtain ⟨⟨⟨hdst,hnt⟩,hg⟩,hop⟩:=hc;have hd: ∀d,x.dst=some d->d<nt:=by
  intro d h;rw [h] at hnt;simpa using hnt
 have hslot: ∀t,t∈uses x->VR im loc (lk t (S i).env) (a.tmps.getD t Go.undef):=fun t ht=>hv.slot hr ho hp hx ht
 have hopd: ∀y∈x.op.opds,∀o',aR y o'=true->VR im loc (y.ev (S i).env) (a.eval o'):=by
  intro y hy o' hco;refine JO y (fun t ht=>hslot t ?_) o' hco
  subst ht;exact cz _ (List.mem_filterMap.2 ⟨.t t,hy,rfl⟩)
 have hgs: ∀s c,x.guard=some (s,c)->VR im loc (lk s (S i).env) (a.tmps.getD s Go.undef):=by
  intro s c h;refine hslot s (cw _ ?_);rw [h];simp
 unfold Go.wpOp;simp only [hmo];rcases hr.steps i x hx with ⟨hw,xr,hev,hok,hX,hS⟩|⟨hw,hX,hS⟩
 · rw [D1 hg hgs hw]
   simp only [if_true];left;have loc_call: ∀{own:Bool} {f:FuncId} {args:List PV} {us:List Value} {r:iT},xr= .loc r->callPure F rec own f args (S i).sto (S i).fz=some r->VRL im loc args us->
    (execOp a.eval o).run P w=(callFunc f ⟨us⟩).run P w->o.wp P a w K Q:=by
    intro own f args us r hxr hcp hus hrun;subst hxr;have hk:=hv.known hr ho hp hX hok (by rw [hS];exact oJ)
    refine xU hrun (FF hE.func hE.prim hcp hus hk) fun v' w' ⟨im',loc',hvr,heff⟩=>?_
    exact hK _ _ _ _ (hdst▸hv.step_loc hr ho hp hx hX hok hS hvr heff hd)
   have shr_call: ∀{f:FuncId} {args:List PV} {us:List Value},cZ rec f args (S i).sto (S i).fz=some xr->VRL im loc args us->
    (execOp a.eval o).run P w=(callFunc f ⟨us⟩).run P w->o.wp P a w K Q:=by
    intro f args us hcs hus hrun;unfold cZ at hcs;split at hcs
    · rename_i v s z hrec
      split at hcs
      · injection hcs with hcs;subst hcs
        refine xU hrun (hE.func f args _ _ v s z hrec im loc w us (hv.sr hr ho hp hX) hus) fun v' w' ⟨im',loc',hf⟩=>?_
        exact hK _ _ _ _ (hdst▸hv.step_shr hr ho hp hx hX hS hf hd)
      cases hcs
    cases hcs
   have loc_op: ∀{r:iT},xr= .loc r->aS (S i).env (S i).sto (S i).fz x.op=some r->o.wp P a w K Q:=by
    intro r hxr he;subst hxr;have hk:=hv.known hr ho hp hX hok (by rw [hS];exact oJ)
    obtain ⟨nx,w',loc',hrun,hnx,heff⟩:=OU hop hopd he hk;unfold Oper.wp;rw [hrun];rcases hnx with ⟨rfl,hu⟩|⟨v,rfl,hvr⟩
    · rw [Oper.upon_skip]
      exact hK _ _ _ _ (hdst▸hv.step_loc hr ho hp hx hX hok hS (by rw [hu];exact .undef _) heff hd)
    rw [Oper.upon_value]
    exact hK _ _ _ _ (hdst▸hv.step_loc hr ho hp hx hX hok hS hvr heff hd)
   cases hxo:x.op with
   |call m f args=>
    rw [hxo] at hev hop hopd;have hcall: ∃as ats,o.op= .call {callee:= .value (.func f),args:=as,argTypes:=ats}/\cK args as.toList=true:=by
     cases hoo:o.op with
     |call c=>
      obtain ⟨callee,as,ats⟩:=c;rw [hoo] at hop;cases callee with
      |value g=>
       cases g with
       |func g=>
        simp only [pO,ac,beq_iff_eq] at hop;obtain ⟨⟨rfl,_⟩,h⟩:=hop;exact ⟨as,ats,rfl,h⟩
       |_=>simp [pO] at hop
      |_=>simp [pO] at hop
     |_=>rw [hoo] at hop;simp [pO] at hop
    obtain ⟨as,ats,hoo,hco⟩:=hcall;have hrel:VRL im loc (AS (S i).env args) (as.toList.map a.eval):=iK (fun y hy=>hopd y (by simpa [fX.opds] using hy)) hco
    have hrun:(execOp a.eval o).run P w=(callFunc f ⟨as.toList.map a.eval⟩).run P w:=by
     have:(⟨as.toList.map a.eval⟩:Array Value)=as.map a.eval:=by apply dq;simp
     rw [this];simp [execOp,hoo,resolve,Act.eval,Deferred.ofValue,invoke]
    cases m with
    |pur=>
     simp only [pM,ai] at hev;obtain ⟨r,hr1,hr2⟩:=hev;exact loc_call hr2.symm hr1 hrel hrun
    |own=>
     simp only [pM,ai] at hev;obtain ⟨r,hr1,hr2⟩:=hev;exact loc_call hr2.symm hr1 hrel hrun
    |shr=>exact shr_call hev hrel hrun
    |fp=>
     simp only [pM,ai] at hev;obtain ⟨r,hr1,hr2⟩:=hev;subst hr2;have hk:=hv.known hr ho hp hX hok (by rw [hS];exact oJ)
     refine xU hrun (JM hE.func hr1 hrel hk) fun v' w' ⟨im',loc',hvr,heff⟩=>?_
     exact hK _ _ _ _ (hdst▸hv.step_loc hr ho hp hx hX hok hS hvr heff hd)
   |callv y args=>
    rw [hxo] at hev hop hopd;have hcall: ∃t as ats,o.op= .call {callee:= .value (.tmp t),args:=as,argTypes:=ats}/\aR y (.tmp t)=true/\cK args as.toList=true:=by
     cases hoo:o.op with
     |call c=>
      obtain ⟨callee,as,ats⟩:=c;rw [hoo] at hop;cases callee with
      |value g=>
       cases g with
       |tmp g=>
        simp only [pO,ac] at hop;exact ⟨g,as,ats,rfl,hop.1,hop.2⟩
       |_=>simp [pO] at hop
      |_=>simp [pO] at hop
     |_=>rw [hoo] at hop;simp [pO] at hop
    obtain ⟨t,as,ats,hoo,hcy,hco⟩:=hcall;have hrel:VRL im loc (AS (S i).env args) (as.toList.map a.eval):=iK (fun y hy=>hopd y (by simp [fX.opds,hy])) hco
    have hy:=hopd y (by simp [fX.opds]) (.tmp t) hcy
    simp only [pM] at hev;split at hev
    · rename_i f p q hyv
      rw [hyv] at hy;generalize hgv:a.eval (.tmp t)=gv at hy;cases hy with
      |clo _ _ _ us vs h1 h2=>
      have hargs:=(h1.append hrel).append h2;have hrun:(execOp a.eval o).run P w=(callFunc f ⟨us++as.toList.map a.eval++vs⟩).run P w:=by
       have:(⟨us++as.toList.map a.eval++vs⟩:Array Value)=(⟨us⟩++as.map a.eval)++⟨vs⟩:=by apply dq;simp
       rw [this];simp [execOp,hoo,resolve,hgv,Deferred.ofValue,invoke]
      split at hev
      · exact shr_call hev hargs hrun
      rw [ai] at hev
      obtain ⟨r,hr1,hr2⟩:=hev;exact loc_call hr2.symm hr1 hargs hrun
    cases hev
   |_=>
    rw [hxo] at hev;simp only [pM,ai] at hev;obtain ⟨r,hr1,hr2⟩:=hev;exact loc_op hr2.symm (by rw [hxo];exact hr1)
 rw [D1 hg hgs hw]
 simp only [ar,if_false];exact hK _ _ _ _ (hdst▸hv.step_skip hr ho hp hx hX hS hd)
end
end Go.Vm
/- A region, in the order of the text or in a drawn one. -/
namespace Go.Vm
def nL (P:Program) (prims:FuncId->Bool) (nt:Nat) (mops:Array Oper):List aY->List Oper->Bool
 | [],[]=>true
 |x::xs,o::os=>lC P prims nt mops x o&&nL P prims nt mops xs os
 |_,_=>false
theorem vU {P:Program} {prims:FuncId->Bool} {nt:Nat} {mops:Array Oper}: ∀{xs:List aY} {os:List Oper},nL P prims nt mops xs os=true->
 xs.length=os.length/\ ∀(i:Nat) (x:aY) (o:Oper),xs[i]? =some x->os[i]? =some o->lC P prims nt mops x o=true
 | [],[],_=>⟨rfl,fun i x o h=>by simp at h⟩
 |x::xs,o::os,h=>by
  simp only [nL,ac] at h;obtain ⟨h1,h2⟩:=vU h.2;refine ⟨by simp [h1],fun i y p hy hp=>?_⟩
  cases i with
  |zero=>simp at hy hp;subst hy hp;exact h.1
  |succ i=>exact h2 i y p (by simpa using hy) (by simpa using hp)
 | [],_::_,h=>by simp [nL] at h
 |_::_,[],h=>by simp [nL] at h
def RU (m i:Nat):Bool:=Nat.testBit m i
def iL (masks:List Nat) (j:Nat):List Edge->Option Nat
 | []=>some 0
 |e::es=>match iL masks j es with
  |some m=>if Region.binds .any e then (if bw e.on j then some (m|||((masks.getD e.on 0)|||(1<<<e.on))) else none) else some m
  |none=>none
def nM (masks:List Nat):Nat->List Nat->List Oper->Bool
 |_,[],[]=>true
 |j,m::ms,o::os=>(match iL masks j o.after.toList with|some m'=>m==m'|none=>false)&&nM masks (j+1) ms os
 |_,_,_=>false
def nN (i : Nat) (x : aY) (ux : List Nat) : List aY -> List Nat -> Bool
  | [], _ => true
  | y :: ys, m :: ms => (RU m i || ((match x.dst with
      | some d => !has (uses y) d && (match y.dst with | some d' => !(af d d') | none => true)
      | none => true) && (match y.dst with | some d => !has ux d | none => true))) && nN i x ux ys ms
  | _ :: _, [] => false
def nO:Nat->List aY->List Nat->Bool
 |_,[],_=>true
 |i,x::xs,_::ms=>nN i x (uses x) xs ms&&nO (i+1) xs ms
 |_,_::_,[]=>false
def xV (P:Program) (prims:FuncId->Bool) (nt:Nat) (draw:Option (List Nat)) (xops:List aY) (mops:Array Oper) (flag:Bool):Bool:=
 nL P prims nt mops xops mops.toList&&match draw with
 |none=>!flag
 |some bf=>flag&&af bf.length xops.length&&nM bf 0 bf mops.toList&&nO 0 xops bf
section
variable {P : Program} {F : iH} {rec : fF -> Option mB} {ops : List aY} {S : Nat -> St} {X : Nat -> Option XR} {bef : Nat -> Nat -> Prop} {im0 : Im} {loc0 : bO} {w0 : World} {nt : Nat}
  {done : Nat -> Prop} {im : Im} {loc : bO} {a : Act} {w : World} {i : Nat} {prims : FuncId -> Bool} {mops : Array Oper}
theorem G5.text:G5 ops S X (· < ·) where
 slot1:=fun _ _ _ _ _ h _ _ _ _=>h
 slot2:=fun _ _ _ _ _ h _ _ _ _=>h
 tok1:=fun _ _ _ h _ _ _=>h
 tok2:=fun _ _ _ h _ _ _=>h
 tok3:=fun _ _ _ h _ _ _ _ _ _=>h
 bar:=fun _ _ h _ _=>h
 cl:=fun _ _ _ _ _=> .inr fun _ h _=>h
theorem BE (hE:FG P F rec) (hr:qP F rec ops S X) (hc: ∀(i:Nat) (x:aY) (o:Oper),ops[i]? =some x->mops[i]? =some o->lC P prims nt mops x o=true) (hlen:ops.length=mops.size)
 {Q:Exit->Act->World->Prop} (hQ: ∀im loc a w,nZ ops S X im0 loc0 w0 nt (fun i=>i<ops.length) im loc a w->Q .normal a w):
 ∀(d n:Nat) (im:Im) (loc:bO) (a:Act) (w:World),n+d=ops.length->nZ ops S X im0 loc0 w0 nt (fun i=>i<n) im loc a w->wpOps P mops Q (List.range' n d) a w
 |0,n,im,loc,a,w,hn,hv=>by
  have:n=ops.length:=by omega
  subst this;exact hQ im loc a w hv
 |d+1,n,im,loc,a,w,hn,hv=>by
  rw [List.range'_succ,wpOps_cons];have hx:=aa (show n<ops.length by omega)
  have ho:=cj (show n<mops.size by omega)
  refine nZ.wpOp hE hr G5.text hv {lt:=by omega,nd:=by omega,pre:=fun j _ h=>h,clo:=fun k _ h1 j _ h2=>by omega} hx ho (hc n _ _ hx ho) fun im' loc' a' w' h'=>?_
  refine BE hE hr hc hlen hQ d (n+1) im' loc' a' w' (by omega) ?_
  have e:oH (fun i=>i<n) n=fun i=>i<n+1:=by
   funext j;unfold oH;apply propext;omega
  rw [e] at h';exact h'
def R1 (masks:List Nat) (i j:Nat):Prop:=RU (masks.getD j 0) i=true
theorem oK {masks:List Nat} {j:Nat}: ∀{es:List Edge} {m:Nat},iL masks j es=some m->(∀e∈es,Region.binds .any e=true->e.on<j)/\
 ∀i,RU m i=true-> ∃e∈es,Region.binds .any e=true/\(e.on=i\/RU (masks.getD e.on 0) i=true)
 | [],m,h=>by
  simp only [iL,ae] at h;subst h;exact ⟨fun e h=>(by cases h),fun i h=>by simp [RU] at h⟩
 |e::es,m,h=>by
  simp only [iL] at h;split at h
  · rename_i m' hm'
    obtain ⟨h1,h2⟩:=oK hm';split at h
    · rename_i hb
      split at h
      · rename_i hlt
        injection h with h;subst h;refine ⟨fun e' he' hb'=>?_,fun i hi=>?_⟩
        · rcases bv.1 he' with rfl|he'
          · simpa using hlt
          exact h1 e' he' hb'
        simp only [RU,Nat.testBit_or,cv] at hi
        rcases hi with hi|hi|hi
        · obtain ⟨e',he',h3⟩:=h2 i hi
          exact ⟨e',bz _ he',h3⟩
        · exact ⟨e,by simp,hb,.inr hi⟩
        refine ⟨e,by simp,hb,.inl ?_⟩
        rw [Nat.one_shiftLeft,Nat.testBit_two_pow] at hi;simpa using hi
      cases h
    rename_i hb
    injection h with h;subst h;refine ⟨fun e' he' hb'=>?_,fun i hi=>?_⟩
    · rcases bv.1 he' with rfl|he'
      · exact absurd hb' hb
      exact h1 e' he' hb'
    obtain ⟨e',he',h3⟩:=h2 i hi
    exact ⟨e',bz _ he',h3⟩
  cases h
theorem zB {masks:List Nat}: ∀{j:Nat} {ms:List Nat} {os:List Oper},nM masks j ms os=true->ms.length=os.length/\
 ∀(k:Nat) (m:Nat) (o:Oper),ms[k]? =some m->os[k]? =some o->iL masks (j+k) o.after.toList=some m
 |j,[],[],_=>⟨rfl,fun k m o h=>by simp at h⟩
 |j,m::ms,o::os,h=>by
  simp only [nM,ac] at h;obtain ⟨h1,h2⟩:=h;obtain ⟨h3,h4⟩:=zB h2;refine ⟨by simp [h3],fun k m' o' hm ho=>?_⟩
  cases k with
  |zero=>
   simp at hm ho;subst hm ho;split at h1
   · rename_i m2 hm2
     have:m=m2:=by simpa using h1
     subst this;exact hm2
   cases h1
  |succ k=>
   have:=h4 k m' o' (by simpa using hm) (by simpa using ho)
   rw [show j+(k+1)=j+1+k by omega];exact this
 |j,[],_::_,h=>by simp [nM] at h
 |j,_::_,[],h=>by simp [nM] at h
theorem vV {i:Nat} {x:aY} {ux:List Nat}: ∀{ys:List aY} {ms:List Nat},nN i x ux ys ms=true-> ∀(k:Nat) (y:aY),ys[k]? =some y->
 RU (ms.getD k 0) i=true\/((∀d,x.dst=some d->d∉uses y/\y.dst≠some d)/\ ∀d,y.dst=some d->d∉ux)
 | [],_,_,k,y,h=>by simp at h
 |z::ys,[],h,k,y,hy=>by simp [nN] at h
 |z::ys,m::ms,h,k,y,hy=>by
  simp only [nN,ac,cv] at h;obtain ⟨h1,h2⟩:=h;cases k with
  |succ k=>simpa using vV h2 k y (by simpa using hy)
  |zero=>
   simp at hy;subst hy;rcases h1 with h1|⟨h1,h3⟩
   · exact .inl (by simpa using h1)
   refine .inr ⟨fun d hd=>?_,fun d hd=>?_⟩
   · rw [hd] at h1
     simp only [ac,au] at h1;refine ⟨fA.1 h1.1,fun hz=>?_⟩
     rw [hz] at h1;simp at h1
   rw [hd] at h3
   simp only [au] at h3;exact fA.1 h3
theorem qQ: ∀{i0:Nat} {xs:List aY} {ms:List Nat},nO i0 xs ms=true-> ∀(i j:Nat) (x y:aY),i<j->xs[i]? =some x->xs[j]? =some y->
 RU (ms.getD j 0) (i0+i)=true\/((∀d,x.dst=some d->d∉uses y/\y.dst≠some d)/\ ∀d,y.dst=some d->d∉uses x)
 |i0,[],_,_,i,j,x,y,_,hx,_=>by simp at hx
 |i0,z::xs,[],h,i,j,x,y,_,hx,_=>by simp [nO] at h
 |i0,z::xs,m::ms,h,i,j,x,y,hij,hx,hy=>by
  simp only [nO,ac] at h;obtain ⟨h1,h2⟩:=h;cases j with
  |zero=>omega
  |succ j=>
   cases i with
   |zero=>
    simp at hx;subst hx;simpa using vV h1 j y (by simpa using hy)
   |succ i=>
    have:=qQ h2 i j x y (by omega) (by simpa using hx) (by simpa using hy)
    rw [show i0+(i+1)=i0+1+i by omega]
    simpa using this
theorem D2 {i:Nat} {t:Tr}: ∀{l:List (Tr×Nat)},E5 i t l=true-> ∀(k:Nat) (b:Tr) (m:Nat),l[k]? =some (b,m)->t.clash b=true->RU m i=true
 | [],_,k,b,m,h,_=>by simp at h
 |(b',m')::r,h,k,b,m,hk,hc=>by
  simp only [E5,ac,cv,au] at h;cases k with
  |zero=>
   simp at hk;obtain ⟨rfl,rfl⟩:=hk;rcases h.1 with h1|h1
   · rw [hc] at h1;cases h1
   exact h1
  |succ k=>exact D2 h.2 k b m (by simpa using hk) hc
theorem BF: ∀{i0:Nat} {l:List (Tr×Nat)},lA i0 l=true->(∀(i:Nat) (t:Tr) (m:Nat),l[i]? =some (t,m)->t.cl=true)/\
 ∀(i j:Nat) (t b:Tr) (m m':Nat),i<j->l[i]? =some (t,m)->l[j]? =some (b,m')->t.clash b=true->RU m' (i0+i)=true
 |_,[],_=>⟨fun i t m h=>by simp at h,fun i j t b m m' _ h=>by simp at h⟩
 |i0,(t0,m0)::r,h=>by
  simp only [lA,ac] at h;obtain ⟨⟨h1,h2⟩,h3⟩:=h;obtain ⟨h4,h5⟩:=BF h3;refine ⟨fun i t m hi=>?_,fun i j t b m m' hij hi hj hc=>?_⟩
  · cases i with
    |zero=>simp at hi;obtain ⟨rfl,rfl⟩:=hi;exact h1
    |succ i=>exact h4 i t m (by simpa using hi)
  cases j with
  |zero=>omega
  |succ j=>
   cases i with
   |zero=>
    simp at hi;obtain ⟨rfl,rfl⟩:=hi;exact D2 h2 j b m' (by simpa using hj) hc
   |succ i=>
    rw [show i0+(i+1)=i0+1+i by omega]
    exact h5 i j t b m m' (by omega) (by simpa using hi) (by simpa using hj) hc
theorem BG {l m:List Nat} {t:Nat} (h1:t∈l) (h2:t∈m):meets l m=true:=by
 unfold meets;rw [dn];exact ⟨t,h1,jS.2 h2⟩
theorem G5.drawn (hr : qP F rec ops S X) {masks : List Nat} (hml : masks.length = ops.length) (hs : nO 0 ops masks = true) (ho : lA 0 ((sY S X ops.length).zip masks) = true) : G5 ops S X (R1 masks) := by
  obtain ⟨hcl, hcz⟩ := BF ho
  have hget : ∀ i, i < ops.length -> ((sY S X ops.length).zip masks)[i]? = some (sN (X i) (S i), masks.getD i 0) := by
    intro i hi
    rw [List.getElem?_zip_eq_some]
    refine ⟨?_, ?_⟩
    · unfold sY; simp [hi]
    rw [ch, aa (by omega)]; rfl
  have clash : ∀ i j, i < j -> j < ops.length -> (sN (X i) (S i)).clash (sN (X j) (S j)) = true -> R1 masks i j := by
    intro i j hij hj hc
    have := hcz i j _ _ _ _ hij (hget i (by omega)) (hget j hj) hc
    unfold R1; simpa using this
  have tch : ∀ j, touches X j -> (sN (X j) (S j)).touches = true := by
    intro j h
    unfold touches at h
    unfold sN
    cases hX : X j with
    | none => rw [hX] at h; exact h.elim
    | some x =>
      rw [hX] at h
      cases x with
      | shr v s z => rfl
      | loc r =>
        simp only [XR.tr, Tr.touches, Bool.or_false]
        rcases h with h | h | h | h
        · cases hrd : r.rd with
          | nil => exact absurd hrd h
          | cons _ _ => simp
        · cases hrd : r.fr with
          | nil => exact absurd hrd h
          | cons _ _ => simp
        · cases hrd : r.wr with
          | nil => exact absurd hrd h
          | cons _ _ => simp
        cases hrd : r.news with
        | nil => exact absurd hrd h
        | cons _ _ => simp
  have brr : ∀ j, kU X j -> (sN (X j) (S j)).bar = true := by
    rintro j ⟨v, s, z, h⟩; rw [h]; rfl
  have tW : ∀ j t, W X j t -> touches X j := fun j t h => oI h
  have tA : ∀ j t, A X j t -> touches X j := by
    intro j t h
    unfold A at h; unfold touches
    cases hX : X j with
    | none => rw [hX] at h; exact h.elim
    | some x =>
      rw [hX] at h
      cases x with
      | shr v s z => exact h.elim
      | loc r =>
        rcases h with h | h
        · exact .inl (by intro e; rw [e] at h; cases h)
        exact .inr (.inl (by intro e; rw [e] at h; cases h))
  have bar : ∀ i j, i < j -> j < ops.length -> (kU X i /\ touches X j \/ touches X i /\ kU X j) -> R1 masks i j := by
    intro i j hij hj h
    refine clash i j hij hj ?_
    unfold Tr.clash
    rcases h with ⟨h1, h2⟩ | ⟨h1, h2⟩
    · rw [brr i h1, tch j h2]; simp
    rw [brr j h2, tch i h1]; simp
  have wrT : ∀ j t, W X j t -> ¬ kU X j -> t ∈ (sN (X j) (S j)).wr := by
    intro j t h hn
    unfold W at h
    cases hX : X j with
    | none => rw [hX] at h; exact h.elim
    | some x =>
      rw [hX] at h
      cases x with
      | shr v s z => exact absurd ⟨v, s, z, hX⟩ hn
      | loc r =>
        obtain ⟨k, hk⟩ := h
        exact List.mem_map.2 ⟨(t, k), hk, rfl⟩
  have rdT : ∀ j t, A X j t -> t ∈ (sN (X j) (S j)).rd := by
    intro j t h
    unfold A at h
    cases hX : X j with
    | none => rw [hX] at h; exact h.elim
    | some x =>
      rw [hX] at h
      cases x with
      | shr v s z => exact h.elim
      | loc r => exact bg.2 h
  exact {
    slot1 := fun i j t x y hij hx hy hd hu => by
      rcases qQ hs i j x y hij hx hy with h | ⟨h, _⟩
      · unfold R1; simpa using h
      rcases hu with hu | hu
      · exact absurd hu (h t hd).1
      exact absurd hu (h t hd).2
    slot2 := fun i j t x y hij hx hy hd hu => by
      rcases qQ hs i j x y hij hx hy with h | ⟨_, h⟩
      · unfold R1; simpa using h
      exact absurd hu (h t hd)
    tok1 := fun i j t hij hj hW hAW => by
      by_cases hi : kU X i
      · exact bar i j hij hj (.inl ⟨hi, hAW.elim (tA j t) (tW j t)⟩)
      by_cases hsj : kU X j
      · exact bar i j hij hj (.inr ⟨tW i t hW, hsj⟩)
      refine clash i j hij hj ?_
      unfold Tr.clash
      rcases hAW with h | h
      · rw [BG (wrT i t hW hi) (rdT j t h)]; simp
      rw [BG (wrT i t hW hi) (wrT j t h hsj)]; simp
    tok2 := fun i j t hij hj hA hW => by
      by_cases hsj : kU X j
      · exact bar i j hij hj (.inr ⟨tA i t hA, hsj⟩)
      refine clash i j hij hj ?_
      unfold Tr.clash
      rw [BG (rdT i t hA) (wrT j t hW hsj)]; simp
    tok3 := fun i j t hij hj hsi h1 h2 hsj hW => by
      refine clash i j hij hj ?_
      unfold Tr.clash
      have : ((sN (X j) (S j)).wr.any fun t => bd (sN (X i) (S i)).lo t && bw t (sN (X i) (S i)).hi) = true := by
        rw [dn]
        refine ⟨t, wrT j t hW hsj, ?_⟩
        rcases hr.steps i _ (aa (show i < ops.length by omega)) with ⟨_, x, hx, _, hX, hn⟩ | ⟨_, hX, hn⟩
        · cases x with
          | shr v s z => exact absurd ⟨v, s, z, hX⟩ hsi
          | loc r =>
            rw [hn, oJ] at h2
            rw [hX]
            simp only [sN, XR.tr, ac, cg]
            exact ⟨h1, by simpa using h2⟩
        rw [hn] at h2; dsimp only at h2; omega
      rw [this]; simp
    bar := bar
    cl := fun i t hi hsi hAW => by
      left
      have hc := hcl i _ _ (hget i hi)
      cases hX : X i with
      | none => rcases hAW with h | h
                · unfold A at h; rw [hX] at h; exact h.elim
                unfold W at h; rw [hX] at h; exact h.elim
      | some x =>
        cases x with
        | shr v s z => exact absurd ⟨v, s, z, hX⟩ hsi
        | loc r =>
          have hb : ∀ u v : Nat, bw u v = true -> u < v := fun u v h => by simpa using h
          rw [hX] at hc
          simp only [sN, XR.tr, ac, bh] at hc
          rcases hAW with h | h
          · unfold A at h; rw [hX] at h
            exact hb _ _ (hc.1 t (bg.2 h))
          unfold W at h; rw [hX] at h
          obtain ⟨k, hk⟩ := h
          exact hb _ _ (hc.2 (t, k) hk) }
end
end Go.Vm
/- A region: the theorem. -/
namespace Go.Vm
section
variable {P : Program} {F : iH} {rec : fF -> Option mB} {ops : List aY} {S : Nat -> St} {X : Nat -> Option XR} {im0 : Im} {loc0 : bO} {w0 : World} {nt : Nat}
  {im : Im} {loc : bO} {a : Act} {w : World} {i : Nat} {prims : FuncId -> Bool} {mops : Array Oper} {masks : List Nat}
def fN (l:Array Bool) (i:Nat):Prop:=l.getD i false=true
theorem G7 (hE:FG P F rec) (hr:qP F rec ops S X) (ho:G5 ops S X (R1 masks)) (hc: ∀(i:Nat) (x:aY) (o:Oper),ops[i]? =some x->mops[i]? =some o->lC P prims nt mops x o=true) (hlen:ops.length=mops.size)
 (hm: ∀(k:Nat) (o:Oper),mops[k]? =some o->iL masks k o.after.toList=some (masks.getD k 0))
 {Q:Exit->Act->World->Prop} (hQ: ∀im loc a w (done:Nat->Prop),(∀i,i<ops.length->done i)->nZ ops S X im0 loc0 w0 nt done im loc a w->Q .normal a w):
 ∀(fuel:Nat) (l:Array Bool) (im:Im) (loc:bO) (a:Act) (w:World),l.size=ops.length->fuel+l.toList.count true=ops.length->(∀k j,fN l k->R1 masks j k->fN l j)->
  nZ ops S X im0 loc0 w0 nt (fN l) im loc a w->wpAny P .any mops Q fuel l a w:=by
 have full: ∀l:Array Bool,l.size=ops.length->Region.ready .any mops l=[]-> ∀i,i<ops.length->fN l i:=by
  intro l hl hnil i
  induction i using Nat.strongRecOn with
  |_ i ih=>
   intro hi
   by_cases h:fN l i
   · exact h
   exfalso
   have hmem:i∈Region.ready .any mops l:=by
    rw [mem_ready];have ho:=cj (show i<mops.size by omega)
    refine ⟨?_,_,ho,fun e he hb=>?_⟩
    · unfold fN at h
      have hlt:i<l.size:=by omega
      simp [hlt] at h ⊢;exact h
    have:=(oK (hm i _ ho)).1 e (by simpa using he) hb
    exact ih e.on this (by omega)
   rw [hnil] at hmem;cases hmem
 intro fuel
 induction fuel with
 |zero=>
  intro l im loc a w hl hcnt hclo hv;have hall: ∀b∈l.toList,true=b:=by
   have:l.toList.count true=l.toList.length:=by simp only [Array.length_toList];omega
   exact List.count_eq_length.1 this
  have hfull: ∀i,i<ops.length->fN l i:=by
   intro i hi;have hlt:i<l.size:=by omega
   have:=hall (l[i]) (by simp)
   unfold fN;simp [hlt,<- this]
  refine ⟨?_,hQ im loc a w _ hfull hv⟩;cases hrd:Region.ready .any mops l with
  |nil=>rfl
  |cons x xs=>
   exfalso;have hmem:x∈Region.ready .any mops l:=by rw [hrd];simp
   obtain ⟨h0,o,hox,_⟩:=mem_ready.1 hmem;have hlt:=(aq.1 hox).1
   have:=hfull x (by omega)
   unfold fN at this;have hlt':x<l.size:=by omega
   simp [hlt'] at this h0;rw [this] at h0;cases h0
 |succ fuel ih=>
  intro l im loc a w hl hcnt hclo hv;refine ⟨fun hnil=>hQ im loc a w _ (full l hl hnil) hv,fun i hi=>?_⟩
  obtain ⟨h0,o,hox,hall⟩:=mem_ready.1 hi;have hlt:=(aq.1 hox).1;have hlt':i<l.size:=by omega
  have hx:=aa (show i<ops.length by omega)
  have hpre: ∀j,R1 masks j i->fN l j:=by
   intro j hj;obtain ⟨e,he,hb,h⟩:=(oK (hm i o hox)).2 j hj;have hle:fN l e.on:=hall e (by simpa using he) hb
   rcases h with rfl|h
   · exact hle
   exact hclo _ _ hle h
  have hnd: ¬fN l i:=by
   unfold fN;simp [hlt'] at h0 ⊢;exact h0
  refine nZ.wpOp hE hr ho hv {lt:=by omega,nd:=hnd,pre:=fun j _ h=>hpre j h,clo:=fun k _ h1 j _ h2=>hclo k j h1 h2} hx hox (hc i _ _ hx hox) fun im' loc' a' w' h'=>?_
  have e:oH (fN l) i=fN (l.setIfInBounds i true):=by
   funext j
   apply propext;unfold oH fN
   by_cases hij:i=j
   · subst hij;simp [hlt']
   simp only [getD_set_ne false hij]
   exact ⟨fun h=>h.elim id fun h=>absurd h.symm hij,.inl⟩
  rw [e] at h';refine ih _ im' loc' a' w' (by simpa using hl) ?_ ?_ h'
  · rw [Array.toList_setIfInBounds,List.count_set (by simpa using hlt')]
    have:l.toList[i]=false:=by simp [hlt'] at h0;simpa using h0
    rw [this];simp only [Array.count_toList] at hcnt ⊢;simp;omega
  intro k j hk hj
  rw [<- e] at hk ⊢;rcases hk with hk|rfl
  · exact .inl (hclo k j hk hj)
  exact .inl (hpre j hj)
theorem ER.keep {st:lZ} {keep:List Nat} (h:ER im loc st a.tmps):ER im loc (keep.map fun s=>(s,lk s st)) a.tmps:=by
 intro t
 have:lk t (keep.map fun s=>(s,lk s st))=lk t st\/lk t (keep.map fun s=>(s,lk s st))= .undef:=by
  induction keep with
  |nil=>exact .inr rfl
  |cons s r ih=>
   simp only [List.map_cons,lB];split
   · rename_i e;subst e;exact .inl rfl
   exact ih
 rcases this with h'|h'
 · rw [h'];exact h t
 rw [h'];exact .undef _
structure pS (im:Im) (loc:bO) (nt:Nat) (st:St) (a:Act):Prop where
 env:ER im loc st.env a.tmps
 defers:a.defers=[]
 nts:a.tmps.size=nt
theorem DN.world {sto0 : bI} {st : St} {w1 : World} (h : DN im0 loc0 sto0 w1 st im loc w) (hh : w1.heap = w0.heap) (ho : w1.os = w0.os) (ht : w1.tape = w0.tape) (hp : w1.output = w0.output) : DN im0 loc0 sto0 w0 st im loc w :=
  { sr := h.sr, imle := h.imle, locle := h.locle, os := h.os.trans ho, tape := h.tape.trans ht, output := h.output.trans hp, size := by have := h.size; rw [hh] at this; exact this
    frame := by have := h.frame; rw [hh] at this; exact this
    imnew := by have := h.imnew; rw [hh] at this; exact this
    locs := h.locs
    own := by have := h.own; rw [hh] at this; exact this }
theorem SR.world {sto:bI} {fz:List Nat} {w1:World} (h:SR im loc sto fz w) (hh:w1.heap=w.heap):SR im loc sto fz w1 where
 im_ok:=by rw [hh];exact h.im_ok
 blk:=fun t li hl=>let ⟨k,h1,h2⟩:=h.blk t li hl;⟨k,h1,h2.mono (.refl _) (.refl _) (by rw [hh])⟩
 excl:=h.excl
 free:=h.free
theorem JP (hE:FG P F rec) (hmix:P.follows .mixedOrders=true) {draw:Option (List Nat)} {keep:List Nat} {id:Nat} {flag:Bool} {st st':St}
 (hc:xV P prims nt draw ops mops flag=true) (hev:gE F rec draw ops keep st=some st') (hsr:SR im0 loc0 st.sto st.fz w0) (ha:pS im0 loc0 nt st a) {Q:Exit->Act->World->Prop}
 (hQ: ∀im loc a' w',DN im0 loc0 st.sto w0 st' im loc w'->pS im loc nt st' a'->Q .normal a' w'):(Code.region id mops flag).wp P Q a w0:=by
 unfold xV at hc;simp only [ac] at hc;obtain ⟨hops,hd⟩:=hc;obtain ⟨hlen,hchk⟩:=vU hops;have hlen:ops.length=mops.size:=by simpa using hlen
 have hchk: ∀(i:Nat) (x:aY) (o:Oper),ops[i]? =some x->mops[i]? =some o->lC P prims nt mops x o=true:=fun i x o hx ho=>hchk i x o hx (by simpa using ho)
 unfold gE at hev;cases he:hH F rec ops st [] with
 |none=>rw [he] at hev;cases hev
 |some q=>
  obtain ⟨st1,tr⟩:=q;rw [he] at hev;dsimp only at hev;obtain ⟨S,X,h0,hn,hr,htr⟩:=xT ops st [] st1 tr he;have fin: ∀(w1:World),w1.heap=w0.heap->w1.os=w0.os->w1.tape=w0.tape->w1.output=w0.output->st'={st1 with env:=keep.map fun s=>(s,lk s st1.env)}-> ∀im loc a' w' (done:Nat->Prop),(∀i,i<ops.length->done i)->
   nZ ops S X im0 loc0 w1 nt done im loc a' w'->Q .normal a' w':=by
   intro w1 q1 q2 q3 q4 hst im loc a' w' done hdn hv;obtain ⟨hk,her,hdf,hns⟩:=hv.finish hr hdn;rw [hn] at hk her;rw [h0] at hk;subst hst;have hk:=hk.world q1 q2 q3 q4;exact hQ im loc a' w' {sr:=hk.sr,imle:=hk.imle,locle:=hk.locle,os:=hk.os,tape:=hk.tape,output:=hk.output,size:=hk.size,frame:=hk.frame,imnew:=hk.imnew,locs:=hk.locs,own:=hk.own} ⟨her.keep,hdf,hns⟩
  cases draw with
  |none=>
   dsimp only at hd hev
   have:flag=false:=by simpa using hd
   subst this;injection hev with hev;refine wp_region ?_;rw [List.range_eq_range'];refine BE hE hr hchk hlen (fun im loc a w hv=>fin w0 rfl rfl rfl rfl hev.symm im loc a w _ (fun i h=>h) hv) mops.size 0 im0 loc0 a w0 (by omega) ?_
   have:=nZ.start (ops:=ops) (X:=X) (w0:=w0) h0 hsr ha.env ha.defers ha.nts hr
   have e:(fun _:Nat=>False)=fun i=>i<0:=by funext i;apply propext;exact ⟨fun h=>h.elim,fun h=>by omega⟩
   rw [e] at this;exact this
  |some bf=>
   dsimp only at hd hev;simp only [ac] at hd;obtain ⟨⟨⟨rfl,hbl⟩,hmk⟩,hsl⟩:=hd;have hbl:bf.length=ops.length:=by simpa using hbl
   split at hev
   · rename_i hoo
     injection hev with hev;have htr':tr.reverse=sY S X ops.length:=by rw [htr];simp
     rw [htr'] at hoo;obtain ⟨_,hmk⟩:=zB hmk;refine wp_region_any hmix ?_;refine G7 (w0:={w0 with drawn:=w0.drawn+1}) (im0:=im0) (loc0:=loc0) hE hr (G5.drawn hr hbl hsl hoo) hchk hlen ?_ (fun im loc a w done hdn hv=>fin {w0 with drawn:=w0.drawn+1} rfl rfl rfl rfl hev.symm im loc a w done hdn hv) mops.size _ im0 loc0 a _ (by simp [hlen]) ?_ ?_ ?_
     · intro k o ho
       have hlt:=(aq.1 ho).1;have hk:bf[k]? =some (bf.getD k 0):=by
        rw [ch,aa (by omega)];rfl
       simpa using hmk k _ o hk (by simpa using ho)
     · simp [hlen,List.count_replicate]
     · intro k j h
       unfold fN at h
       by_cases hk:k<mops.size<;>simp [hk] at h
     have:=nZ.start (ops:=ops) (X:=X) (w0:={w0 with drawn:=w0.drawn+1}) h0 (hsr.world rfl) ha.env ha.defers ha.nts hr
     have e:(fun _:Nat=>False)=fN (bm mops.size false):=by
      funext i;apply propext
      unfold fN
      by_cases hk:i<mops.size<;>simp [hk]
     rw [e] at this;exact this
   cases hev
end
end Go.Vm
/- What a function keeps from its beginning on; the head of a loop. -/
namespace Go.Vm
theorem DN.trans {im0 im1 im2:Im} {loc0 loc1 loc2:bO} {sto0:bI} {w0 w1 w2:World} {st1 st2:St} (h1:DN im0 loc0 sto0 w0 st1 im1 loc1 w1) (h2:DN im1 loc1 st1.sto w1 st2 im2 loc2 w2) (hl:sto0.length<=st1.sto.length):
 DN im0 loc0 sto0 w0 st2 im2 loc2 w2 where
 sr:=h2.sr
 imle:=h1.imle.trans h2.imle
 locle:=h1.locle.trans h2.locle
 os:=h2.os.trans h1.os
 tape:=h2.tape.trans h1.tape
 output:=h2.output.trans h1.output
 size:=az h1.size h2.size
 frame:=fun b hb hh=>by
  rw [h2.frame b (bn hb h1.size) fun t li k hl hs hsol hbb=>?_]
  · exact h1.frame b hb hh
  rcases h1.own t li k hl hs hsol with h|⟨u,lu,ku,g1,g2,g3,g4⟩
  · omega
  exact hh u lu ku g1 g2 g3 (by omega)
 imnew:=fun b o hb=>by
  rcases h2.imnew b o hb with h|h|⟨t,li,k,g1,g2,g3,g4⟩
  · exact h1.imnew b o h
  · exact .inr (.inl (az h1.size h))
  rcases h1.own t li k g1 g2 g3 with h|⟨u,lu,ku,k1,k2,k3,k4⟩
  · exact .inr (.inl (by omega))
  exact .inr (.inr ⟨u,lu,ku,k1,k2,k3,by omega⟩)
 locs:=fun t li h=>by
  rcases h2.locs t li h with h|h
  · exact h1.locs t li h
  exact .inr (az hl h)
 own:=fun t li k hl hs hsol=>by
  rcases h2.own t li k hl hs hsol with h|⟨u,lu,ku,g1,g2,g3,g4⟩
  · exact .inl (az h1.size h)
  rcases h1.own u lu ku g1 g2 g3 with h|⟨u',lu',ku',k1,k2,k3,k4⟩
  · exact .inl (by omega)
  exact .inr ⟨u',lu',ku',k1,k2,k3,by omega⟩
structure sZ (im0:Im) (loc0:bO) (sto0:bI) (w0:World) (st:St) (im:Im) (loc:bO) (w:World):Prop where
 kept:DN im0 loc0 sto0 w0 st im loc w
 kn:st.kn=sto0.length
 len:sto0.length<=st.sto.length
 dom: ∀t li,loc0 t=some li->t<sto0.length
theorem BH {F:iH} {rec:fF->Option mB}: ∀(ops:List aY) (st:St) (tr:List Tr) (st':St) (tr':List Tr),hH F rec ops st tr=some (st',tr')->st'.kn=st.kn
 | [],st,tr,st',tr',h=>by simp only [hH,ae,am] at h;rw [h.1]
 |o::l,st,tr,st',tr',h=>by
  simp only [hH] at h;split at h
  · split at h
    · rename_i x hx
      split at h
      · have:=BH l _ _ st' tr' h
        rw [this];cases x<;>rfl
      cases h
    cases h
  · have:=BH l _ _ st' tr' h
    exact this
  cases h
theorem FH {F:iH} {rec:fF->Option mB} {draw:Option (List Nat)} {ops:List aY} {keep:List Nat} {st st':St} (h:gE F rec draw ops keep st=some st'):st'.kn=st.kn/\st.sto.length<=st'.sto.length:=by
 unfold gE at h;cases he:hH F rec ops st [] with
 |none=>rw [he] at h;cases h
 |some q=>
  obtain ⟨st1,tr⟩:=q;rw [he] at h;dsimp only at h;obtain ⟨S,X,h0,hn,hr,_⟩:=xT ops st [] st1 tr he;have h1:=BH ops st [] st1 tr he;have h2:=hr.len_mono (be ops.length) (aj _);rw [h0,hn] at h2;cases draw with
  |none=>dsimp only at h;injection h with h;subst h;exact ⟨h1,h2⟩
  |some bf=>
   dsimp only at h;split at h
   · injection h with h;subst h;exact ⟨h1,h2⟩
   cases h
section
variable {im : Im} {loc loc1 : bO} {m : List Nat}
theorem G8 {fz:List Nat}: ∀{l:List Nat} {i0 u t:Nat},l[u]? =some t->(i0+u)∉qF fz i0 l->t∉fz
 | [],i0,u,t,h,_=>by simp at h
 |s::r,i0,u,t,h,hn=>by
  simp only [qF] at hn;cases u with
  |zero=>
   simp at h;subst h;intro hf;rw [if_pos (jS.2 hf)] at hn;exact hn (by simp)
  |succ u=>
   refine G8 (l:=r) (i0:=i0+1) (u:=u) (by simpa using h) fun hmem=>?_
   rw [show i0+(u+1)=i0+1+u by omega] at hn
   split at hn
   · exact hn (bz _ hmem)
   exact hn hmem
theorem BI {sto:bI}: ∀{n:Nat} {ts seen:List Nat} {m:List Nat},vJ sto n ts seen=some m->(∃l,m=seen++l)/\(seen.Nodup->m.Nodup)
 |_,[],seen,m,h=>by
  have h:some seen=some m:=by rw [<- h];unfold vJ;cases ‹Nat› <;>rfl
  injection h with h;subst h;exact ⟨⟨[],by simp⟩,id⟩
 |0,_::_,seen,m,h=>by simp [vJ] at h
 |n+1,t::ts,seen,m,h=>by
  simp only [vJ] at h;split at h
  · exact BI h
  rename_i hn
  split at h
  · obtain ⟨⟨l,hl⟩,h2⟩:=BI h
    refine ⟨⟨t::l,by rw [hl];simp⟩,fun hd=>h2 ?_⟩
    rw [dk];refine ⟨hd,by simp,fun a ha b hb=>?_⟩
    have:b=t:=by simpa using hb
    subst this;intro e;subst e;exact hn (jS.2 ha)
  cases h
theorem G9: ∀{n i:Nat},i<n->(nF n)[i]? =some i
 |n+1,i,h=>by
  have hl: ∀n,(nF n).length=n:=by
   intro n;induction n with
   |zero=>rfl
   |succ n ih=>simp [nF,ih]
  simp only [nF];rcases ay i n with h'|h'
  · rw [ah (by rw [hl];exact h')];exact G9 h'
  rw [ap (by rw [hl];exact h'),hl]
  have:i=n:=by omega
  subst this;simp
theorem HA: ∀{n i:Nat},i∈nF n->i<n
 |n+1,i,h=>by
  simp only [nF,bg,bj] at h;rcases h with h|h
  · have:=HA h;omega
  omega
theorem BJ: ∀n,(nF n).Nodup
 |0=>by simp [nF]
 |n+1=>by
  simp only [nF];rw [dk];refine ⟨BJ n,by simp,fun a ha b hb=>?_⟩
  have:=HA ha
  have:b=n:=by simpa using hb
  omega
end
end Go.Vm
/- The head of a loop. -/
namespace Go.Vm
def ND (s2:bI):Prop:= ∀(j:Nat) (k:fV),s2[j]? =some k-> ∃e,k= .arr e []
theorem VR.exOff {im:Im} {loc:bO} {x:PV} {u:Value} (h:VR im loc x u): ∀k:Option Nat,VR im loc (exOff k x) u
 |none=>h
 |some _=>by
  cases h with
  |own t esz off len cap ex li a cap' hl he hn hc hx hk h=>exact .own t esz off len cap false li a cap' hl he hn hc hx (fun h=>by cases h) h
  |undef=>exact .undef _
  |nul=>exact .nul
  |int k n=>exact .int k n
  |bool b=>exact .bool b
  |str s=>exact .str s
  |agg cs vs h=>exact .agg cs vs h
  |tup cs vs h=>exact .tup cs vs h
  |sl e c r a cap h1 h2 h3=>exact .sl e c r a cap h1 h2 h3
  |ptr t e r o li h1 h2 h3=>exact .ptr t e r o li h1 h2 h3
  |rptr cs off b o vs h hv=>exact .rptr cs off b o vs h hv
  |mp t li hl=>exact .mp t li hl
  |clo fn a b as bs ha hb=>exact .clo fn a b as bs ha hb
  |nilf=>exact .nilf
theorem uK {im:Im} {loc loc1:bO} {m:List Nat} {e:lZ} {tmps:Array Value} (hm:Ren m loc loc1) (he:ER im loc e tmps): ∀{live:List (Nat×Option Nat)} {nx:Nat} {e1:lZ} {s2:bI},kX e m nx live=some (e1,s2)->
 ND s2/\((∀(j:Nat) (esz:Nat),s2[j]? =some (.arr esz [])->loc1 (nx+j)=some ⟨0,0,esz,0,0⟩)->ER im loc1 e1 tmps)
 | [],nx,e1,s2,h=>by
  simp only [kX,ae,am] at h;obtain ⟨rfl,rfl⟩:=h;exact ⟨fun j k h=>by simp at h,fun _ t=> .undef _⟩
 |(s,k)::r,nx,e1,s2,h=>by
  have hs:=he s;simp only [kX] at h;split at h
  · rename_i esz e' hlk
    rw [ai] at h;obtain ⟨⟨e2,s3⟩,h1,h2⟩:=h;simp only [am] at h2;obtain ⟨rfl,rfl⟩:=h2;obtain ⟨g1,g2⟩:=uK hm he h1;refine ⟨fun j k hj=>?_,fun hl t=>?_⟩
    · cases j with
      |zero=>simp at hj;exact ⟨_,hj.symm⟩
      |succ j=>exact g1 j k (by simpa using hj)
    rw [lB]
    split
    · rename_i e;subst e
      rw [hlk] at hs;generalize hg:tmps.getD s Go.undef=v at hs;cases hs with
      |sl _ _ _ a cap h1 h2 h3=>
      have:cap=0:=by simpa using h2 rfl
      subst this;exact .own nx esz 0 0 0 false ⟨0,0,esz,0,0⟩ a 0 (by simpa using hl 0 esz rfl) rfl (aj _) (aj _) (aj _) (fun h=>by cases h) (.inl rfl)
    refine g2 (fun j esz' hj=>?_) t
    have:=hl (j+1) esz' (by simpa using hj)
    rw [show nx+1+j=nx+(j+1) by omega];exact this
  split at h
  · rename_i v' p h1 h2
    injection h with h;simp only [am] at h;obtain ⟨rfl,rfl⟩:=h;obtain ⟨g1,g2⟩:=uK hm he (e1:=p.1) (s2:=p.2) h2;refine ⟨g1,fun hl t=>?_⟩
    rw [lB];split
    · rename_i e;subst e
      exact (OL hm hs h1).exOff _
    exact g2 hl t
  cases h
theorem VRL.setAt {im:Im} {loc:bO} {x:PV}: ∀{xs:List PV} {vs:List Value} {c:Nat} {y:PV},VRL im loc xs vs->xs[c]? =some y->(∀v,VR im loc y v->VR im loc x v)->VRL im loc (xs.set c x) vs
 | [],_,c,y,h,hc,_=>by simp at hc
 |z::zs,vs,c,y,h,hc,hx=>by
  cases h with
  |cons _ v _ us g1 g2=>
   cases c with
   |zero=>simp at hc;subst hc;exact .cons _ _ _ _ (hx v g1) g2
   |succ c=>exact .cons _ _ _ _ g1 (VRL.setAt g2 (by simpa using hc) hx)
theorem JQ {im0 im:Im} {loc0 loc:bO} {sto0:bI} {w0 w:World} {nt:Nat} {st:St} {a:Act} (t c esz:Nat) (hk:sZ im0 loc0 sto0 w0 st im loc w) (ha:pS im loc nt st a):
 ∃loc1,sZ im0 loc0 sto0 w0 (kY st t c esz) im loc1 w/\pS im loc1 nt (kY st t c esz) a:=by
 unfold kY;split
 · rename_i cs hb
   split
   · rename_i e hc
     have sr:=hk.kept.sr;have hdom: ∀u li,loc u=some li->u<st.sto.length:=fun u li h=>by obtain ⟨k,h1,_⟩:=sr.blk u li h;exact bL h1
     have hn:loc st.sto.length=none:=by
      cases h:loc st.sto.length with
      |none=>rfl
      |some li=>exact absurd (hdom _ _ h) (Nat.lt_irrefl _)
     let loc1:bO:=fun u=>if u=st.sto.length then some ⟨0,0,esz,0,0⟩ else loc u
     have hle:gV loc loc1:=fun u li h=>by
      have:=hdom u li h
      simp only [loc1,show u≠st.sto.length by omega,if_false];exact h
     have back: ∀u li,loc1 u=some li->u≠st.sto.length->loc u=some li:=fun u li h hu=>by
      simpa only [loc1,hu,if_false] using h
     have htl:t<st.sto.length:=bL hb;have get: ∀u,u<st.sto.length->(st.sto.set t (.box (cs.set c (.own st.sto.length esz 0 0 0 false)))++[.arr esz []])[u]? =if t=u then some (.box (cs.set c (.own st.sto.length esz 0 0 0 false))) else st.sto[u]?:=fun u hu=>by
      rw [ah (by simpa using hu),dl]
      split
      · rename_i e;subst e;simp
      rfl
     have getn:(st.sto.set t (.box (cs.set c (.own st.sto.length esz 0 0 0 false)))++[.arr esz []])[st.sto.length]? =some (.arr esz []):=by
      rw [ap (by simp)];simp
     have solid: ∀(u:Nat) (k:fV),(st.sto.set t (.box (cs.set c (.own st.sto.length esz 0 0 0 false)))++[.arr esz []])[u]? =some k->k.solid=true->u≠st.sto.length/\ ∃k0:fV,st.sto[u]? =some k0/\k0.solid=true:=by
      intro u k hu hs;have hlt:=bL hu;simp only [bo,dp,List.length_singleton] at hlt;have hne:u≠st.sto.length:=by
       intro e;subst e;rw [getn] at hu;injection hu with hu;subst hu;cases hs
      refine ⟨hne,?_⟩;rw [get u (by omega)] at hu
      split at hu
      · rename_i e;subst e;exact ⟨_,hb,rfl⟩
      exact ⟨k,hu,hs⟩
     refine ⟨loc1,⟨⟨?_,hk.kept.imle,hk.kept.locle.trans hle,hk.kept.os,hk.kept.tape,hk.kept.output,hk.kept.size,hk.kept.frame,hk.kept.imnew,fun u li h=>?_,fun u li k h hs hsol=>?_⟩,hk.kn,?_,hk.dom⟩,⟨ha.env.mono (iW.refl _) hle,ha.defers,ha.nts⟩⟩
     · refine {
        im_ok:=sr.im_ok
        blk:=fun u li hl=>?_
        excl:=fun u u' li lj k k' hl hl' hs hs' hsol hsol' hbk=>?_
        free:=fun u li k hl hs hsol hz=>?_}
       · by_cases hu:u=st.sto.length
         · subst hu
           simp only [loc1,if_true] at hl;injection hl with hl;subst hl;exact ⟨_,getn,rfl,rfl,fun h=>absurd rfl h⟩
         have hl0:=back u li hl hu
         obtain ⟨k,h1,h2⟩:=sr.blk u li hl0
         show∃k,(st.sto.set t (.box (cs.set c (.own st.sto.length esz 0 0 0 false)))++[.arr esz []])[u]? =some k/\BR im loc1 w li k
         rw [get u (bL h1)];split
         · rename_i et;subst et
           rw [hb] at h1;injection h1 with h1;subst h1;obtain ⟨g1,g2,g3,vs,el,g4,g5,g6⟩:=h2;refine ⟨_,rfl,by simpa using g1,g2,g3,vs,el,g4,g5,(g6.mono (iW.refl _) hle).setAt hc fun v hv=>?_⟩
           cases hv with
           |sl _ _ _ a' cap h1 h2 h3=>
           have:cap=0:=by simpa using h2 rfl
           subst this;exact .own _ esz 0 0 0 false ⟨0,0,esz,0,0⟩ a' 0 (by simp only [loc1,if_true]) rfl (aj _) (aj _) (aj _) (fun h=>by cases h) (.inl rfl)
         exact ⟨k,h1,h2.mono (iW.refl _) hle rfl⟩
       · obtain ⟨n1,k0,g1,g2⟩:=solid u k hs hsol
         obtain ⟨n2,k0',g1',g2'⟩:=solid u' k' hs' hsol';exact sr.excl u u' li lj k0 k0' (back _ _ hl n1) (back _ _ hl' n2) g1 g1' g2 g2' hbk
       obtain ⟨n1,k0,g1,g2⟩:=solid u k hs hsol
       exact sr.free u li k0 (back _ _ hl n1) g1 g2 hz
     · by_cases hu:u=st.sto.length
       · right;have:=hk.len;omega
       exact hk.kept.locs u li (back u li h hu)
     · obtain ⟨n1,k0,g1,g2⟩:=solid u k hs hsol
       exact hk.kept.own u li k0 (back _ _ h n1) g1 g2
     have:=hk.len
     show sto0.length<=(st.sto.set t (.box (cs.set c (.own st.sto.length esz 0 0 0 false)))++[fV.arr esz []]).length;simp only [bo,dp];omega
   exact ⟨loc,hk,ha⟩
 exact ⟨loc,hk,ha⟩
theorem kF {im0 im:Im} {loc0:bO} {sto0:bI} {w0 w:World} {nt:Nat} {a:Act}: ∀(live:List (Nat×Option Nat)) {st:St} {loc:bO},sZ im0 loc0 sto0 w0 st im loc w->pS im loc nt st a->
 ∃loc1,sZ im0 loc0 sto0 w0 (fP live st) im loc1 w/\pS im loc1 nt (fP live st) a
 | [],st,loc,hk,ha=>⟨loc,hk,ha⟩
 |(s,k)::r,st,loc,hk,ha=>by
  simp only [fP];split
  · split
    · split
      · rename_i t _
        obtain ⟨loc1,h1,h2⟩:=JQ t _ _ hk ha;exact kF r h1 h2
      exact kF r hk ha
    exact kF r hk ha
  exact kF r hk ha
theorem HB {im0 im:Im} {loc0 loc:bO} {sto0:bI} {w0 w:World} {nt:Nat} {live:List (Nat×Option Nat)} {st st1:St} {a:Act} (h:AU live st=some st1) (hk:sZ im0 loc0 sto0 w0 st im loc w) (ha:pS im loc nt st a):
 ∃loc1,sZ im0 loc0 sto0 w0 st1 im loc1 w/\pS im loc1 nt st1 a:=by
 unfold AU at h;split at h
 · cases h
 rename_i m hreach
 split at h
 · rename_i s1 e1 s2 hs1 hlv
   injection h with h;subst h;refine (fun hh: ∃loc1,sZ im0 loc0 sto0 w0 {env:=e1,sto:=s1++s2,fz:=qF st.fz 0 m,kn:=st.kn} im loc1 w/\pS im loc1 nt {env:=e1,sto:=s1++s2,fz:=qF st.fz 0 m,kn:=st.kn} a=>
    let ⟨_,g1,g2⟩:=hh;kF live g1 g2) ?_
   obtain ⟨⟨ml,hml⟩,hnd⟩:=BI hreach;have hnd:=hnd (BJ _);obtain ⟨hl1,hget⟩:=xK hs1;have hupl: ∀n,(nF n).length=n:=by
    intro n;induction n with
    |zero=>rfl
    |succ n ih=>simp [nF,ih]
   have hid: ∀t,t<st.kn->m[t]? =some t:=by
    intro t ht;rw [hml,ah (by rw [hupl];exact ht)]
    exact G9 ht
   have hmlen:st.kn<=m.length:=by rw [hml];simp [hupl]
   let loc1:bO:=fun u=>if u<m.length then (match m[u]? with|some t=>loc t|none=>none) else match s2[u-m.length]? with
    |some (.arr e [])=>some ⟨0,0,e,0,0⟩
    |_=>none
   have hren:Ren m loc loc1:=by
    intro u t hu
    have:=bL hu
    simp only [loc1,this,if_true,hu]
   obtain ⟨hemp,her⟩:=uK hren ha.env hlv;have old: ∀u li,loc1 u=some li->u<m.length-> ∃t,m[u]? =some t/\loc t=some li:=by
    intro u li hl hu;have e:=aa hu;rw [hren u _ e] at hl;exact ⟨_,e,hl⟩
   have stoL: ∀u,u<m.length->(s1++s2)[u]? =s1[u]?:=fun u hu=>ah (by rw [hl1];exact hu)
   have stoR: ∀u,¬u<m.length->(s1++s2)[u]? =s2[u-m.length]?:=fun u hu=>by rw [ap (by rw [hl1];omega),hl1]
   have solid_old: ∀(u:Nat) (k:fV),(s1++s2)[u]? =some k->k.solid=true->u<m.length:=by
    intro u k hs hsol;rcases ay u m.length with h|h
    · exact h
    rw [stoR u (by omega)] at hs
    obtain ⟨e,rfl⟩:=hemp _ _ hs;cases hsol
   have back: ∀(u:Nat) (k:fV),(s1++s2)[u]? =some k-> ∀t,m[u]? =some t-> ∃k0:fV,st.sto[t]? =some k0/\k.solid=k0.solid:=by
    intro u k hs t ht;obtain ⟨k0,k',g1,g2,g3⟩:=hget u t ht;rw [stoL u (bL ht),g3] at hs;injection hs with hs;subst hs;exact ⟨k0,g1,vN g2⟩
   have sr:=hk.kept.sr;have keptsr:SR im loc1 (s1++s2) (qF st.fz 0 m) w:=by
    refine {
     im_ok:=sr.im_ok
     blk:=fun u li hl=>?_
     excl:=fun u u' li lj k k' hl hl' hs hs' hsol hsol' hb=>?_
     free:=fun u li k hl hs hsol hz=>?_}
    · by_cases hu:u<m.length
      · obtain ⟨t,ht,hlt⟩:=old u li hl hu
        obtain ⟨k0,h1,h2⟩:=sr.blk t li hlt;obtain ⟨k1,k',g1,g2,g3⟩:=hget u t ht;rw [h1] at g1;injection g1 with g1;subst g1;exact ⟨k',by rw [stoL u hu];exact g3,DW hren g2 h2⟩
      simp only [loc1,hu,if_false] at hl
      split at hl
      · rename_i e he
        injection hl with hl;subst hl;exact ⟨.arr e [],by rw [stoR u hu];exact he,rfl,rfl,fun h=>absurd rfl h⟩
      cases hl
    · have hu:=solid_old u k hs hsol
      have hu':=solid_old u' k' hs' hsol';obtain ⟨t,ht,hlt⟩:=old u li hl hu;obtain ⟨t',ht',hlt'⟩:=old u' lj hl' hu';obtain ⟨k0,g1,g2⟩:=back u k hs t ht;obtain ⟨k0',g1',g2'⟩:=back u' k' hs' t' ht'
      have:=sr.excl t t' li lj k0 k0' hlt hlt' g1 g1' (by rw [<- g2];exact hsol) (by rw [<- g2'];exact hsol') hb
      subst this;have pw:=ci.1 hnd;have e1:=(ag.1 ht).2;have e2:=(ag.1 ht').2;rcases ax u u' with h|h|h
      · exact absurd (e1.trans e2.symm) (pw u u' hu hu' h)
      · exact h
      exact absurd (e2.trans e1.symm) (pw u' u hu' hu h)
    have hu:=solid_old u k hs hsol
    obtain ⟨t,ht,hlt⟩:=old u li hl hu;obtain ⟨k0,g1,g2⟩:=back u k hs t ht;refine sr.free t li k0 hlt g1 (by rw [<- g2];exact hsol) (fA.2 ?_)
    exact G8 (i0:=0) ht (by have:=fA.1 hz;simpa using this)
   refine ⟨loc1,⟨⟨keptsr,hk.kept.imle,fun t li hl=>?_,hk.kept.os,hk.kept.tape,hk.kept.output,hk.kept.size,hk.kept.frame,hk.kept.imnew,fun t li hl=>?_,fun u li k hl hs hsol=>?_⟩,hk.kn,?_,hk.dom⟩,
    ⟨her fun j esz hj=>?_,ha.defers,ha.nts⟩⟩
   · have h1:=hk.kept.locle t li hl
     have ht:t<st.kn:=by rw [hk.kn];exact hk.dom t li hl
     rw [hren t t (hid t ht)];exact h1
   · rcases ay t st.kn with ht|ht
     · rw [hren t t (hid t ht)] at hl
       exact hk.kept.locs t li hl
     right;rw [hk.kn] at ht;exact ht
   · have hu:=solid_old u k hs hsol
     obtain ⟨t,ht,hlt⟩:=old u li hl hu;obtain ⟨k0,g1,g2⟩:=back u k hs t ht;exact hk.kept.own t li k0 hlt g1 (by rw [<- g2];exact hsol)
   · rw [<- hk.kn]
     simp only [bo];omega
   simp only [loc1,show¬m.length+j<m.length by omega,if_false,show m.length+j-m.length=j by omega,hj]
 exact (by cases h)
theorem R2 {im0 im:Im} {loc0 loc:bO} {sto0:bI} {w0 w:World} {nt:Nat} {live:List (Nat×Option Nat)} {st st1:St} {a:Act} (h:zX live st=some st1) (hk:sZ im0 loc0 sto0 w0 st im loc w) (ha:pS im loc nt st a):
 ∃loc1,sZ im0 loc0 sto0 w0 st1 im loc1 w/\pS im loc1 nt st1 a:=by
 unfold zX at h;cases h1:AU live st with
 |none=>rw [h1] at h;cases h
 |some s=>
  rw [h1] at h;dsimp only at h;obtain ⟨loc1,hk1,ha1⟩:=HB h1 hk ha;split at h
  · exact HB h hk1 ha1
  injection h with h
  subst h;exact ⟨loc1,hk1,ha1⟩
end Go.Vm
/- The code of a function; what it returns. -/
namespace Go.Vm
def dH (P:Program) (prims:FuncId->Bool) (nt:Nat):fG->Code->Bool
 | .skip,.skip=>true
 | .region d ops _,.region _ mops flag=>xV P prims nt d ops mops flag
 | .seq a b,.seq c d=>dH P prims nt a c&&dH P prims nt b d
 | .cond c a b,.cond c' a' b'=>aR c c'&&dH P prims nt a a'&&dH P prims nt b b'
 | .block id b,.block id' b'=>id==id'&&dH P prims nt b b'
 | .loop _ b,.loop b'=>dH P prims nt b b'
 | .exit id,.exit id'=>id==id'
 | .ret,.ret=>true
 |_,_=>false
def dV.out:dV->Exit
 | .normal=> .normal
 | .exit id=> .exit id
 | .ret=> .ret
section
variable {P : Program} {F : iH} {rec : fF -> Option mB} {im0 : Im} {loc0 : bO} {sto0 : bI} {w0 : World} {nt : Nat} {prims : FuncId -> Bool}
structure At (im0:Im) (loc0:bO) (sto0:bI) (w0:World) (nt:Nat) (st:St) (a:Act) (w:World):Prop where
 ex: ∃im loc,sZ im0 loc0 sto0 w0 st im loc w/\pS im loc nt st a
def xW (P : Program) (prims : FuncId -> Bool) (rec : fF -> Option mB) : Prop :=
  ∀ (live : List (Nat × Option Nat)) (x : fG) (st : St) (e : dV) (st' : St), rec (.loop live x st) = some (.code e st') ->
    ∀ (c : Code) (nt : Nat) (im0 : Im) (loc0 : bO) (sto0 : bI) (w0 : World) (a : Act) (w : World), dH P prims nt x c = true -> At im0 loc0 sto0 w0 nt st a w ->
      ∀ (b : Frame) (k : List Item) (cs : List Frame), ∃ a' w', At im0 loc0 sto0 w0 nt st' a' w' /\ Arrives P (lone (b.at a (.code c :: .inLoop c :: k)) cs w) b k cs e.out a' w'
theorem fR (hE:FG P F rec) (hL:xW P prims rec) (hmix:P.follows .mixedOrders=true): ∀(x:fG) (c:Code) (st:St) (e:dV) (st':St),dH P prims nt x c=true->mC F rec x st=some (e,st')->
 ∀(a:Act) (w:World),At im0 loc0 sto0 w0 nt st a w-> ∀(Q:Exit->Act->World->Prop),(∀a' w',At im0 loc0 sto0 w0 nt st' a' w'->Q e.out a' w')->c.wp P Q a w
 | .skip,c,st,e,st',hc,hev,a,w,ha,Q,hQ=>by
  cases c<;>simp only [dH,ar] at hc
  simp only [mC,ae,am] at hev;obtain ⟨rfl,rfl⟩:=hev;exact wp_skip (hQ _ _ ha)
 | .region d ops keep,c,st,e,st',hc,hev,a,w,ha,Q,hQ=>by
  cases c<;>simp only [dH,ar] at hc
  simp only [mC,ai] at hev;obtain ⟨st1,hev,h⟩:=hev;simp only [am] at h;obtain ⟨rfl,rfl⟩:=h;obtain ⟨im,loc,hk,hact⟩:=ha.ex;refine JP hE hmix hc hev hk.kept.sr hact fun im' loc' a' w' hk' ha'=>hQ a' w' ⟨im',loc',?_,ha'⟩
  obtain ⟨h1,h2⟩:=FH hev;exact ⟨hk.kept.trans hk' hk.len,by rw [h1];exact hk.kn,az hk.len h2,hk.dom⟩
 | .seq x y,c,st,e,st',hc,hev,a,w,ha,Q,hQ=>by
  cases c<;>simp only [dH,ar,ac] at hc
  obtain ⟨h1,h2⟩:=hc;simp only [mC] at hev;refine wp_seq ?_;cases hx:mC F rec x st with
  |none=>rw [hx] at hev;cases hev
  |some q=>
   obtain ⟨e1,st1⟩:=q;rw [hx] at hev;refine fR hE hL hmix x _ st e1 st1 h1 hx a w ha _ fun a' w' ha'=>?_
   cases e1 with
   |normal=>exact fR hE hL hmix y _ st1 e st' h2 hev a' w' ha' Q hQ
   |exit id=>
    simp only [ae,am] at hev;obtain ⟨rfl,rfl⟩:=hev;exact hQ a' w' ha'
   |ret=>
    simp only [ae,am] at hev;obtain ⟨rfl,rfl⟩:=hev;exact hQ a' w' ha'
 | .cond cc x y,c,st,e,st',hc,hev,a,w,ha,Q,hQ=>by
  cases c<;>simp only [dH,ar,ac] at hc
  obtain ⟨⟨h0,h1⟩,h2⟩:=hc;obtain ⟨im,loc,hk,hact⟩:=ha.ex;have hv:=JO (a:=a) (e:=st.env) cc (fun t _=>hact.env t) _ h0
  simp only [mC] at hev;split at hev
  · rename_i hb
    rw [hb] at hv;exact wp_cond_true hv.bool_inv (fR hE hL hmix x _ st e st' h1 hev a w ha Q hQ)
  · rename_i hb
    rw [hb] at hv;exact wp_cond_false hv.bool_inv (fR hE hL hmix y _ st e st' h2 hev a w ha Q hQ)
  cases hev
 | .block id x,c,st,e,st',hc,hev,a,w,ha,Q,hQ=>by
  cases c<;>simp only [dH,ar,ac,beq_iff_eq] at hc
  obtain ⟨rfl,h1⟩:=hc;refine wp_block ?_;simp only [mC] at hev;cases hx:mC F rec x st with
  |none=>rw [hx] at hev;cases hev
  |some q=>
   obtain ⟨e1,st1⟩:=q;rw [hx] at hev;refine fR hE hL hmix x _ st e1 st1 h1 hx a w ha _ fun a' w' ha'=>?_
   cases e1 with
   |normal=>
    simp only [ae,am] at hev;obtain ⟨rfl,rfl⟩:=hev;exact hQ a' w' ha'
   |ret=>
    simp only [ae,am] at hev;obtain ⟨rfl,rfl⟩:=hev;exact hQ a' w' ha'
   |exit j=>
    dsimp only at hev;simp only [dV.out,Exit.inBlock];split at hev
    · rename_i hj
      have:j=id:=by simpa using hj
      simp only [ae,am] at hev;obtain ⟨rfl,rfl⟩:=hev;rw [if_pos this];exact hQ a' w' ha'
    rename_i hj
    have:j≠id:=by simpa using hj
    simp only [ae,am] at hev;obtain ⟨rfl,rfl⟩:=hev;rw [if_neg this];exact hQ a' w' ha'
 | .loop live x,c,st,e,st',hc,hev,a,w,ha,Q,hQ=>by
  cases c<;>simp only [dH,ar] at hc
  simp only [mC] at hev;split at hev
  · rename_i e1 st1 hr
    simp only [ae,am] at hev;obtain ⟨rfl,rfl⟩:=hev;intro b k cs;obtain ⟨a',w',h1,h2⟩:=hL live x st _ _ hr _ nt im0 loc0 sto0 w0 a w hc ha b k cs;exact ⟨_,a',w',hQ a' w' h1,.of_steps (.one step_loop) h2⟩
  cases hev
 | .exit id,c,st,e,st',hc,hev,a,w,ha,Q,hQ=>by
  cases c<;>simp only [dH,ar,beq_iff_eq] at hc
  subst hc;simp only [mC,ae,am] at hev;obtain ⟨rfl,rfl⟩:=hev;exact wp_exit (hQ _ _ ha)
 | .ret,c,st,e,st',hc,hev,a,w,ha,Q,hQ=>by
  cases c<;>simp only [dH,ar] at hc
  simp only [mC,ae,am] at hev;obtain ⟨rfl,rfl⟩:=hev;exact wp_ret (hQ _ _ ha)
theorem NE (hE:FG P F rec) (hL:xW P prims rec) (hmix:P.follows .mixedOrders=true):xW P prims (step F rec):=by
 intro live x st e st' h c nt im0 loc0 sto0 w0 a w hc ha b k cs;simp only [step] at h;cases hn:zX live st with
 |none=>rw [hn] at h;cases h
 |some st1=>
  rw [hn] at h;dsimp only at h;obtain ⟨im,loc,hk,hact⟩:=ha.ex;obtain ⟨loc1,hk1,ha1⟩:=R2 hn hk hact;have hat:At im0 loc0 sto0 w0 nt st1 a w:=⟨im,loc1,hk1,ha1⟩;cases hx:mC F rec x st1 with
  |none=>rw [hx] at h;cases h
  |some q=>
   obtain ⟨e1,st2⟩:=q;rw [hx] at h;have hw:=fR hE hL hmix x c st1 e1 st2 hc hx a w hat (fun e' a' w'=>e'=e1.out/\At im0 loc0 sto0 w0 nt st2 a' w') fun a' w' h=>⟨rfl,h⟩
   obtain ⟨e',a1,w1,⟨rfl,hq⟩,harr⟩:=hw b (.inLoop c::k) cs;cases e1 with
   |normal=>
    dsimp only at h;obtain ⟨a',w',h1,h2⟩:=hL live x st2 e st' h c nt im0 loc0 sto0 w0 a1 w1 hc hq b k cs;exact ⟨a',w',h1,.of_steps (Steps.trans harr (.one step_inLoop)) h2⟩
   |exit id=>
    simp only [ae,mB.code.injEq] at h;obtain ⟨rfl,rfl⟩:=h;exact ⟨a1,w1,hq,.pass (x:= .inLoop c) rfl (fun _ _=> .inl (by simp [dV.out])) harr⟩
   |ret=>
    simp only [ae,mB.code.injEq] at h;obtain ⟨rfl,rfl⟩:=h;exact ⟨a1,w1,hq,.pass (x:= .inLoop c) rfl (fun _ _=> .inl (by simp [dV.out])) harr⟩
def jL (P:Program):List RV->List ResultVar->Bool
 | [],[]=>true
 | .tmp t::r,.tmp t'::s=>t==t'&&jL P r s
 | .cell t agg::r,.cell t' ty::s=>t==t'&&vM P ty agg&&jL P r s
 |_,_=>false
def JR (tmps:Array Value):ResultVar->Sem Value
 | .tmp t=>pure (tmps.getD t undef)
 | .cell a t=>do loadVar t (<- asAddr (tmps.getD a undef))
theorem NF {im:Im} {loc:bO} {sto:bI} {agg:Option Nat} {p:PV} {u:Value} {r:iT} (hp:VR im loc p u) (h:jG sto agg p=some r): ∃ad,u= .pointer (some ad):=by
 cases hp<;>first|(simp [jG] at h;done)|exact ⟨_,rfl⟩
theorem SR.known {im:Im} {loc:bO} {sto:bI} {fz:List Nat} {w:World} (h:SR im loc sto fz w) {r:iT} (hn:r.news=[]) (hw:r.wr=[]):eU im loc sto w r where
 im_ok:=h.im_ok
 tok:=fun t _ li hl=>h.blk t li hl
 free:=fun t k hm=>by rw [hw] at hm;cases hm
 fresh:=fun j hj=>by rw [hn] at hj;simp at hj
 excl:=fun t u li lj k k' _ _=>h.excl t u li lj k k'
theorem JS {sto:bI} {agg:Option Nat} {p:PV} {r:iT} (h:jG sto agg p=some r):r.news=[]/\r.wr=[]:=by
 unfold jG at h;split at h
 · split at h
   · split at h
     · rw [ai] at h;obtain ⟨_,_,rfl⟩:=h;exact ⟨rfl,rfl⟩
     cases h
   · split at h
     · rw [ai] at h;obtain ⟨_,_,rfl⟩:=h;exact ⟨rfl,rfl⟩
     cases h
   cases h
 · rw [ai] at h;obtain ⟨_,_,rfl⟩:=h;exact ⟨rfl,rfl⟩
 cases h
theorem OZ {im : Im} {loc : bO} {st : St} {a : Act} {w : World} (hsr : SR im loc st.sto st.fz w) (ha : ER im loc st.env a.tmps) : ∀ {rs : List RV} {vs : List PV} {os : List ResultVar}, jL P rs os = true -> iV st rs = some vs ->
    ∃ us, (os.mapM (JR a.tmps)).run P w = .ok us w /\ VRL im loc vs us
  | [], vs, os, hc, h => by
    cases os <;> simp only [jL, ar] at hc
    simp only [iV, ae] at h; subst h
    exact ⟨[], by simp, .nil⟩
  | r :: rs, vs, [], hc, h => by cases r <;> simp [jL] at hc
  | r :: rs, vs, o :: os, hc, h => by
    simp only [iV] at h
    split at h
    · rename_i v vs' h1 h2
      injection h with h; subst h
      have hone : ∃ u, (JR a.tmps o).run P w = .ok u w /\ VR im loc v u /\ jL P rs os = true := by
        cases r with
        | tmp t =>
          cases o with
          | tmp t' =>
            simp only [jL, ac, beq_iff_eq] at hc
            obtain ⟨rfl, hc⟩ := hc
            simp only [AX, ae] at h1; subst h1
            exact ⟨_, rfl, ha t, hc⟩
          | cell _ _ => simp [jL] at hc
        | cell t agg =>
          cases o with
          | tmp t' => simp [jL] at hc
          | cell t' ty =>
            simp only [jL, ac, beq_iff_eq] at hc
            obtain ⟨⟨rfl, hag⟩, hc⟩ := hc
            simp only [AX, ai] at h1
            obtain ⟨rr, h3, rfl⟩ := h1
            obtain ⟨g1, g2⟩ := JS h3
            obtain ⟨u, hrun, hvr, _⟩ := GS (P := P) (ha t) hag h3 (hsr.known g1 g2)
            obtain ⟨ad, had⟩ := NF (ha t) h3
            refine ⟨u, ?_, hvr, hc⟩
            simp only [JR, had, asAddr]
            rw [had] at hrun
            simpa [Instr.loadAt, Instr.sureAddr] using hrun
      obtain ⟨u, hu, hvr, hc⟩ := hone
      obtain ⟨us, hus, hvrs⟩ := OZ hsr ha hc h2
      refine ⟨u :: us, ?_, .cons _ _ _ _ hvr hvrs⟩
      rw [List.mapM_cons]
      simp only [cf, hu, ck, hus, du]
    cases h
theorem BK {im:Im} {loc:bO} {st:St} {a:Act} {w:World} {fn:Func} (hsr:SR im loc st.sto st.fz w) (ha:ER im loc st.env a.tmps) {rs:List RV} {vs:List PV} (hc:jL P rs fn.results.toList=true) (h:iV st rs=some vs):
 ∃u,(results fn a.tmps).run P w= .ok u w/\VR im loc (kB vs) u:=by
 obtain ⟨us,h1,h2⟩:=OZ (P:=P) hsr ha hc h;have e:fn.results.mapM (JR a.tmps)=List.toArray<$>fn.results.toList.mapM (JR a.tmps):=Array.mapM_eq_mapM_toList;have h3:(fn.results.mapM (JR a.tmps)).run P w= .ok us.toArray w:=by
  rw [e];rw [map_eq_pure_bind,cf,h1];rfl
 have hres:results fn a.tmps=(do let vs <- fn.results.mapM (JR a.tmps);pure (if h:vs.size=1 then vs[0] else .tuple vs)):=by
  unfold results
  congr 1
 rw [hres];simp only [cf,h3,ck,du];refine ⟨_,rfl,?_⟩;cases h2 with
 |nil=>exact .tup _ _ .nil
 |cons x u xs us g2 g3=>
  cases g3 with
  |nil=>exact g2
  |cons y v ys vs g4 g5=>exact .tup _ _ (.cons _ _ _ _ g2 (.cons _ _ _ _ g4 g5))
end
end Go.Vm
/- What the logical machine answers, the model answers. -/
namespace Go.Vm
def aD (P:Program) (prims:FuncId->Bool) (x:aG) (f:FuncId):Bool:=
 match P.funcs[f]? with
 |some fn=>!(fn.name== "runtime.NumGoroutine")&&bd x.nargs fn.ntmps&&jL P x.res fn.results.toList&&(match fn.body with|some c=>dH P prims fn.ntmps x.code c|none=>false)
 |none=>false
section
variable {P : Program} {F : iH} {rec : fF -> Option mB} {prims : FuncId -> Bool}
def HC (P:Program) (prims:FuncId->Bool) (F:iH):Prop:= ∀f x,F f=some (.code x)->aD P prims x f=true
theorem HD: ∀(args:List PV) (i t:Nat),lk t (nG i args)=if i<=t then (args[t-i]?).getD .undef else .undef
 | [],i,t=>by simp [nG,lk]
 |v::r,i,t=>by
  simp only [nG,lB];rw [HD r (i+1) t]
  by_cases h:i=t
  · subst h;simp
  rw [if_neg h]
  by_cases h2:i<=t
  · rw [if_pos h2,if_pos (by omega)]
    have:t-i=(t- (i+1))+1:=by omega
    rw [this];simp
  rw [if_neg h2,if_neg (by omega)]
theorem D3 {im:Im} {loc:bO} {args:List PV} {us:List Value} (h:VRL im loc args us) (n:Nat):ER im loc (nG 0 args) ((⟨us⟩:Array Value)++bm n Go.undef):=by
 intro t;rw [HD];simp only [be,if_true,Nat.sub_zero];cases ha:args[t]? with
 |none=>exact .undef _
 |some x=>
  obtain ⟨v,hv,hr⟩:=h.get t x ha
  have:((⟨us⟩:Array Value)++bm n Go.undef).getD t Go.undef=v:=by
   have hlt:=bL hv;simp only [bc];rw [Array.getElem?_append_left (by simpa using hlt)]
   simp [hv]
  rw [this];exact hr
theorem gH {f:FuncId} {fn:Func} {c:Code} {us:Array Value} {w:World} (hf:P.funcs[f]? =some fn) (hn:(fn.name== "runtime.NumGoroutine")=false) (hb:fn.body=some c):(callFunc f us).run P w= .ok (.enter f us) w:=by
 unfold callFunc;have hn: ¬fn.name= "runtime.NumGoroutine" :=by simpa using hn
 simp [cf,hf,hn,hb]
theorem NG (hE:FG P F rec) (hL:xW P prims rec) (hT:HC P prims F) (hmix:P.follows .mixedOrders=true):xR P (step F rec):=by
 intro f args sto fz v sto' fz' h im loc w us hsr hus;simp only [step] at h;split at h
 · rename_i x hF
   have hc:=hT f x hF;unfold aD at hc;cases hf:P.funcs[f]? with
   |none=>rw [hf] at hc;cases hc
   |some fn=>
    rw [hf] at hc;simp only [ac,au] at hc;obtain ⟨⟨⟨hname,hna⟩,hres⟩,hbody⟩:=hc;cases hb:fn.body with
    |none=>rw [hb] at hbody;cases hbody
    |some c=>
     rw [hb] at hbody;dsimp only at hbody;refine .inr ⟨gH hf hname hb,calls_of_wp hf hb ?_⟩;split at h
     · rename_i hlen
       have hlen:args.length=x.nargs:=by simpa using hlen
       have hna:x.nargs<=fn.ntmps:=by simpa using hna
       have husl:=hus.length
       let st0:St:={env:=nG 0 args,sto,fz,kn:=sto.length}
       let a0:Act:={tmps:=(⟨us⟩:Array Value)++bm (fn.ntmps- (⟨us⟩:Array Value).size) Go.undef,defers:=[]}
       have hat:At im loc sto w fn.ntmps st0 a0 w:=by
        refine ⟨im,loc,⟨⟨hsr,.refl _,.refl _,rfl,rfl,rfl,aj _,fun _ _ _=>rfl,fun _ _ h=> .inl h,fun _ _ h=> .inl h,fun t li k hl hs hsol=> .inr ⟨t,li,k,hl,hs,hsol,rfl⟩⟩,rfl,aj _,fun t li hl=>?_⟩,⟨D3 hus _,rfl,?_⟩⟩
        · obtain ⟨k,hk,_⟩:=hsr.blk t li hl
          exact bL hk
        simp only [a0,dm,c6]
        show us.length+_=_
        have:(⟨us⟩:Array Value).size=us.length:=rfl
        rw [this];omega
       have fin: ∀(st:St),(iV st x.res).map (fun vs=>mB.func (kB vs) st.sto st.fz)=some (.func v sto' fz')-> ∀a' w',At im loc sto w fn.ntmps st a' w'->
        a'.defers=[]/\ ∃u,(results fn a'.tmps).run P w'= .ok u w'/\ ∃v',Ending.returned u= .returned v'/\ ∃im' loc',qM im loc sto w v sto' fz' im' loc' w' v':=by
        intro st hst a' w' hat
        obtain ⟨im',loc',hk,hact⟩:=hat.ex;rw [ai] at hst;obtain ⟨vs,hvs,he⟩:=hst;simp only [mB.func.injEq] at he;obtain ⟨rfl,rfl,rfl⟩:=he;obtain ⟨u,hu,hvr⟩:=BK (P:=P) (fn:=fn) hk.kept.sr hact.env hres hvs;have K:=hk.kept;exact ⟨hact.defers,u,hu,u,rfl,im',loc',⟨K.imle,K.locle,hvr,K.sr,K.os,K.tape,K.output,K.size,K.frame,K.imnew,K.locs,K.own⟩⟩
       split at h
       · rename_i st hev
         exact fR hE hL hmix x.code c st0 .normal st hbody hev a0 w hat _ fun a' w' hat'=>fin st h a' w' hat'
       · rename_i st hev
         exact fR hE hL hmix x.code c st0 .ret st hbody hev a0 w hat _ fun a' w' hat'=>fin st h a' w' hat'
       cases h
     cases h
 · rename_i p hF
   obtain ⟨fn,c,hf,hname,hb,key⟩:=hE.prim.2 f p hF;rw [ai] at h;obtain ⟨⟨v1,s1,z1⟩,hp,he⟩:=h;simp only [mB.func.injEq] at he;obtain ⟨rfl,rfl,rfl⟩:=he;exact key args sto fz _ _ _ hp im loc w us hsr hus
 cases h
theorem aBG (hT:HC P prims F) (hprim:sE P F) (hmix:P.follows .mixedOrders=true): ∀n,xR P (run F n)/\xW P prims (run F n)
 |0=>⟨fun f args sto fz v sto' fz' h=>by simp [run] at h,fun live x st e st' h=>by simp [run] at h⟩
 |n+1=>by
  obtain ⟨h1,h2⟩:=aBG hT hprim hmix n;have hE:FG P F (run F n):=⟨h1,hprim⟩;exact ⟨NG hE h2 hT hmix,NE hE h2 hmix⟩
theorem NH (hT:HC P prims F) (hprim:sE P F) (hmix:P.follows .mixedOrders=true) {n:Nat} {f:FuncId} {args:List PV} {v:PV} {sto':bI} {fz':List Nat} (h:run F n (.func f args [] [])=some (.func v sto' fz'))
 {im:Im} {w:World} {us:List Value} (him: ∀b o,im b=some o->w.heap[b]? =some o) (hus:VRL im eO args us):
 Calls P f ⟨us⟩ w fun e w'=> ∃u,e= .returned u/\(∃im' loc',VR im' loc' v u/\SR im' loc' sto' fz' w')/\w'.os=w.os/\w'.tape=w.tape/\w'.output=w.output/\w.heap.size<=w'.heap.size/\ ∀b,b<w.heap.size->w'.heap[b]? =w.heap[b]?:=by
 have key:=(aBG hT hprim hmix n).1 f args [] [] v sto' fz' h im eO w us (SR.empty him) hus;rcases key with ⟨u,w',h1,h2⟩|⟨h1,h2⟩
 · exfalso
   cases n with
   |zero=>simp [run] at h
   |succ n=>
    have h:step F (run F n) (.func f args [] [])=some (.func v sto' fz'):=h;simp only [step] at h;split at h
    · rename_i x hF
      have hc:=hT f x hF;unfold aD at hc;cases hf:P.funcs[f]? with
      |none=>rw [hf] at hc;cases hc
      |some fn=>
       rw [hf] at hc;simp only [ac,au] at hc;cases hb:fn.body with
       |none=>rw [hb] at hc;exact (by have hzz:=hc.2;cases hzz)
       |some c=>
        rw [gH hf hc.1.1.1 hb] at h1;cases h1
    · rename_i p hF
      obtain ⟨fn,c,hf,hname,hb,key⟩:=hprim.2 f p hF;rw [gH hf hname hb] at h1;cases h1
    cases h
 refine h2.mono fun e w' ⟨u,he,im',loc',hp⟩=>⟨u,he,⟨im',loc',hp.vr,hp.sr⟩,hp.os,hp.tape,hp.output,hp.size,fun b hb=>hp.frame b hb fun t li k hl=>by cases hl⟩
end
end Go.Vm
/- Functions that are known without their code: math/bits.Add64 and Sub64, slices.Clone. -/
namespace Go.Vm
section
variable {P : Program}
theorem JT {im:Im} {w:World} {v:PV} {u:Value} (hsr:SR im eO [] [] w) (hv:VR im eO v u):qM im eO [] w v [] [] im eO w u where
 imle:= .refl _
 locle:= .refl _
 vr:=hv
 sr:=hsr
 os:=rfl
 tape:=rfl
 output:=rfl
 size:=aj _
 frame:=fun _ _ _=>rfl
 imnew:=fun _ _ h=> .inl h
 locs:=fun _ _ h=> .inl h
 own:=fun t li k h=>by cases h
theorem JU {im:Im} {loc:bO} {k1 k2 k3:IntKind} {a b c:Int} {us:List Value} (h:VRL im loc [.int k1 a,.int k2 b,.int k3 c] us):us=[.int k1 a,.int k2 b,.int k3 c]:=by
 cases h with
 |cons _ _ _ _ h1 h=>
  cases h with
  |cons _ _ _ _ h2 h=>
   cases h with
   |cons _ _ _ _ h3 h=>
    cases h;rw [h1.int_inv,h2.int_inv,h3.int_inv]
theorem JV {f:FuncId} {fn:Func} (hf:P.funcs[f]? =some fn) (hname:(fn.name== "runtime.NumGoroutine")=false) (hb:fn.body.isNone=true) (hn:Extern.findNext fn=none) (he:Extern.find fn=some add64Entry):FE P f uC:=by
 intro args v news hp im w us hsr hus;unfold uC at hp;split at hp
 · rename_i a b c
   split at hp
   · rename_i hc
     have hc:c<=1:=by simpa using hc
     simp only [ae,am] at hp;obtain ⟨rfl,rfl⟩:=hp;obtain rfl:=JU hus;refine .inl ⟨_,w,?_,im,eO,JT hsr (.tup _ [.int .u64 (((a:Int)+b+c)%18446744073709551616),.int .u64 (((a:Int)+b+c) / 18446744073709551616)] (.cons _ _ _ _ ?_ (.cons _ _ _ _ ?_ .nil)))⟩
     · rw [run_callFunc_extern hf hname hb hn he]
       have:=run_add64 (P:=P) (a:Int) b c (by omega) (by omega) (by omega) (by omega) w
       simp only [cd];rw [this];rfl
     · have:df ((a+b+c)%18446744073709551616)=((a:Int)+b+c)%18446744073709551616:=by
        simp only [cd];omega
       rw [this];exact .int _ _
     have:df ((a+b+c) / 18446744073709551616)=((a:Int)+b+c) / 18446744073709551616:=by
      simp only [cd];omega
     rw [this];exact .int _ _
   cases hp
 cases hp
def xcA (esz:Nat):fG:= .region none [⟨some 2,.mov (.c (.sl esz true [])),none⟩] [0]
def xcN (esz:Nat):fG:= .seq (.region none [⟨some 2,.mov (.c (.sl esz true [])),none⟩] [2]) .ret
def xcC (esz:Nat) (zero:iQ):fG:= .seq (.region none [⟨some 5,.mkrow esz 0 zero [],none⟩,⟨some 6,.mov (.t 0),none⟩,⟨some 7,.append esz (.t 5) (.t 6),none⟩,⟨some 2,.mov (.t 7),none⟩] [2]) .ret
def O0 (P:Program) (o:Oper):Bool:=
 o.guard.isNone&&o.dst==some 4&&(match o.op with
  | .binOp .eql t x (.const (.slice none 0 0)) _=>aR (.t 3) x&&lL P t
  |_=>false)
def HE (P:Program) (esz:Nat) (zero:iQ) (f:FuncId):Bool:=
 match P.funcs[f]? with
 |some fn=>!(fn.name== "runtime.NumGoroutine")&&bw 7 fn.ntmps&&jL P [.tmp 2] fn.results.toList&&(match fn.body with
  |some (.seq a (.seq (.seq (.region _ ops false) (.cond c n .skip)) r))=>
   dH P (fun _=>true) fn.ntmps (xcA esz) a&&dH P (fun _=>true) fn.ntmps (xcN esz) n&&dH P (fun _=>true) fn.ntmps (xcC esz zero) r&&aR (.t 4) c&&
    (match ops.toList with
    | [o1,o2]=>lC P (fun _=>true) fn.ntmps ops ⟨some 3,.mov (.t 0),none⟩ o1&&O0 P o2
    |_=>false)
  |_=>false)
 |none=>false
theorem R3:FG P (fun _=>none) (fun _=>none):=⟨(fun _ _args _sto _fz _v _sto' _fz' h=>(by cases h)),⟨(fun _ _k _p h=>(by cases h)),(fun _ _p h=>(by cases h))⟩⟩
theorem K9 {prims:FuncId->Bool}:xW P prims (fun _=>none):=fun _ _x _st _e _st' h=>(by cases h)
theorem iB (hmix:P.follows .mixedOrders=true) {esz:Nat} {zero:iQ} {f:FuncId} (hc:HE P esz zero f=true):FE P f (cQ esz):=by
 intro args v news hp im w us hsr hus;unfold HE at hc;cases hf:P.funcs[f]? with
 |none=>rw [hf] at hc;cases hc
 |some fn=>
  rw [hf] at hc;simp only [ac,au] at hc;obtain ⟨⟨⟨hname,hnt⟩,hres⟩,hbody⟩:=hc;have hnt:7<fn.ntmps:=by simpa using hnt
  split at hbody
  · rename_i ca id ops cc cn cr hb
    simp only [ac] at hbody;obtain ⟨⟨⟨⟨hA,hN⟩,hC⟩,hcc⟩,hops⟩:=hbody;split at hops
    · rename_i o1 o2 hl
      simp only [ac] at hops;obtain ⟨ho1,ho2⟩:=hops;have harg: ∃e c rows,args=[.sl e c rows]:=by
       unfold cQ at hp;split at hp
       · exact ⟨_,_,_,rfl⟩
       cases hp
      obtain ⟨e,cl,rows,rfl⟩:=harg;obtain ⟨u,rfl⟩: ∃u,us=[u]:=by
       cases hus with
       |cons _ u _ us h1 h2=>cases h2;exact ⟨u,rfl⟩
      refine .inr ⟨gH hf hname hb,calls_of_wp hf hb ?_⟩
      let st0:St:={env:=[(0,.sl e cl rows)],sto:=[],fz:=[],kn:=0}
      let a0:Act:={tmps:=(⟨[u]⟩:Array Value)++bm (fn.ntmps- (⟨[u]⟩:Array Value).size) Go.undef,defers:=[]}
      have hat0:At im eO [] w fn.ntmps st0 a0 w:=by
       refine ⟨im,eO,⟨⟨hsr,.refl _,.refl _,rfl,rfl,rfl,aj _,fun _ _ _=>rfl,fun _ _ h=> .inl h,fun _ _ h=> .inl h,fun t li k hl=>by cases hl⟩,rfl,aj _,fun t li hl=>by cases hl⟩,⟨D3 hus _,rfl,?_⟩⟩
       simp only [a0,dm,c6];show 1+(fn.ntmps-1)=_;omega
      have fin: ∀(st:St) (v':PV),lk 2 st.env=v'-> ∀a' w',At im eO [] w fn.ntmps st a' w'->
       a'.defers=[]/\ ∃u,(results fn a'.tmps).run P w'= .ok u w'/\ ∃v'':Value,Ending.returned u= .returned v''/\ ∃im' loc',qM im eO [] w v' st.sto st.fz im' loc' w' v'':=by
       intro st v' hv' a' w' hat
       obtain ⟨im',loc',hk,hact⟩:=hat.ex;obtain ⟨u,hu,hvr⟩:=BK (P:=P) (fn:=fn) hk.kept.sr hact.env hres (vs:=[v']) (by simp [iV,AX,hv'])
       have K:=hk.kept;exact ⟨hact.defers,u,hu,u,rfl,im',loc',⟨K.imle,K.locle,hvr,K.sr,K.os,K.tape,K.output,K.size,K.frame,K.imnew,K.locs,K.own⟩⟩
      refine wp_seq ?_;refine fR R3 K9 hmix (xcA esz) _ st0 .normal {env:=[(0,.sl e cl rows)],sto:=[],fz:=[],kn:=0} hA rfl a0 w hat0 _ fun a1 w1 hat1=>?_
      refine wp_seq (wp_seq ?_);refine wp_region ?_;have hops2:ops= #[o1,o2]:=dq (by simpa using hl)
      subst hops2;obtain ⟨im1,loc1,hk1,hact1⟩:=hat1.ex;have hx0:=hact1.env 0;have hx0:VR im1 loc1 (.sl e cl rows) (a1.tmps.getD 0 Go.undef):=hx0;obtain ⟨ad,cap,hu0,hcap,hck,hrows⟩:=hx0.sl_inv;unfold lC at ho1;simp only [ac,beq_iff_eq] at ho1;obtain ⟨⟨⟨hd1,_⟩,hg1⟩,hop1⟩:=ho1;have hg1':o1.guard=none:=by
       cases hg:o1.guard with
       |none=>rfl
       |some q=>rw [hg] at hg1;simp [nK] at hg1
      have hop1': ∃x,(o1.op= .move x\/o1.op= .assign x)/\aR (.t 0) x=true:=by
       cases ho:o1.op<;>rw [ho] at hop1<;>simp only [pO] at hop1<;>first|exact ⟨_,.inl rfl,hop1⟩|exact ⟨_,.inr rfl,hop1⟩|simp at hop1
      obtain ⟨x1,hx1,hcx1⟩:=hop1';have hx1':a1.eval x1= .slice ad rows.length cap:=by
       have h:=JO (a:=a1) (e:=[(0,PV.sl e cl rows)]) (.t 0) (fun t ht=>by injection ht with ht;subst ht;exact hact1.env 0) x1 hcx1
       cases x1 with
       |tmp t=>
        have:(0:Nat)=t:=by simpa [aR] using hcx1
        subst this;simpa [Act.eval] using hu0
       |_=>simp [aR] at hcx1
      have hrun1:(execOp a1.eval o1).run P w1= .ok (.value (.slice ad rows.length cap)) w1:=by
       rcases hx1 with h|h<;>simp [execOp,h,hx1']
      unfold O0 at ho2;simp only [ac,beq_iff_eq,Option.isNone_iff_eq_none] at ho2;obtain ⟨⟨hg2,hd2⟩,hop2⟩:=ho2;split at hop2
      case h_2=>cases hop2
      rename_i ty x2 ub hop2e;simp only [ac] at hop2;obtain ⟨hx2,hst⟩:=hop2;have hx2':x2= .tmp 3:=by
       cases x2 with
       |tmp t=>
        have:(3:Nat)=t:=by simpa [aR] using hx2
        subst this;rfl
       |_=>simp [aR] at hx2
      subst hx2';unfold lL at hst;split at hst
      case h_2=>cases hst
      rename_i el hty;have hsz1:a1.tmps.size=fn.ntmps:=hact1.nts
      let a2:Act:=a1.put (some 3) (.slice ad rows.length cap)
      have ha2:a2.tmps.getD 3 Go.undef= .slice ad rows.length cap:=by
       simp only [a2,Act.put,bc];rw [bl (by omega)];rfl
      have hrun2:(execOp a2.eval o2).run P w1= .ok (.value (.bool ad.isNone)) w1:=by
       simp only [execOp,hop2e];refine cH ?_;have e3:a2.eval (.tmp 3)= .slice ad rows.length cap:=by simpa [Act.eval] using ha2
       rw [e3];have hg:(eqGuard .eql ty (.tmp 3) (.const (.slice none 0 0)) (.slice ad rows.length cap) (a2.eval (.const (.slice none 0 0)))).run P w1= .ok () w1:=by
        unfold eqGuard;simp
       simp only [cf,hg,ck];exact Lib.run_eql_slice_nil w1 ty el ad rows.length cap 0 0 hty
      let a3:Act:=a2.put (some 4) (.bool ad.isNone)
      have hat3:At im eO [] w fn.ntmps {env:=[(0,.sl e cl rows)],sto:=[],fz:=[],kn:=0} a3 w1:=by
       refine ⟨im1,loc1,hk1,⟨fun t=>?_,hact1.defers,by simp [a3,a2,Act.put,hsz1]⟩⟩
       have h:=hact1.env t;simp only [lB] at h ⊢
       by_cases ht:t=0
       · subst ht
         simp only [if_true] at h ⊢;simpa [a3,a2,Act.put,ba] using h
       rw [if_neg (fun e=>ht e.symm)];exact .undef _
      have ha3:a3.eval cc= .bool ad.isNone:=by
       cases cc with
       |tmp t=>
        have:(4:Nat)=t:=by simpa [aR] using hcc
        subst this;simp only [Act.eval,a3,Act.put,bc];rw [bl (by simp [a2,Act.put];omega)];rfl
       |_=>simp [aR] at hcc
      have hrange:List.range #[o1,o2].size=[0,1]:=rfl;rw [hrange];simp only [wpOps];have e0:(#[o1,o2]:Array Oper)[0]? =some o1:=rfl;have e1:(#[o1,o2]:Array Oper)[1]? =some o2:=rfl;rw [e0];dsimp only;have hw1:Region.wanted o1 (yielded #[o1,o2] a1.tmps)=true:=by unfold Region.wanted;rw [hg1']
      rw [hw1,if_pos rfl];refine .inl ?_;unfold Oper.wp;rw [hrun1,Oper.upon_value,<- hd1,e1];dsimp only;have hw2:Region.wanted o2 (yielded #[o1,o2] (a1.put (some 3) (.slice ad rows.length cap)).tmps)=true:=by unfold Region.wanted;rw [hg2]
      rw [hw2,if_pos rfl];refine .inl ?_;rw [show a1.put (some 3) (.slice ad rows.length cap)=a2 from rfl,hrun2,Oper.upon_value,hd2];show (Code.cond cc cn .skip).wp P _ a3 w1;cases had:ad with
      |none=>
       have hnil:rows=[]:=by
        rcases rows with _|⟨r,rs⟩
        · rfl
        obtain ⟨b,o,h,_⟩:=hrows (by simp)
        rw [had] at h;cases h
       subst hnil;simp only [cQ,ae,am] at hp;obtain ⟨rfl,rfl⟩:=hp;refine wp_cond_true (by rw [ha3,had];rfl) ?_
       refine fR R3 K9 hmix (xcN esz) _ _ .ret {env:=[(2,.sl esz true [])],sto:=[],fz:=[],kn:=0} hN rfl a3 w1 hat3 _ fun a4 w4 hat4=>?_
       obtain ⟨hdf,u',hu',v'',hv'',im',loc',hf'⟩:=fin _ _ rfl a4 w4 hat4;refine ⟨hdf,u',hu',v'',hv'',im',loc'.set 1 ⟨0,0,esz,0,0⟩,?_⟩;have hnone: ∀t,loc' t=none:=fun t=>by
        cases hl:loc' t with
        |none=>rfl
        |some li=>obtain ⟨k,hk,_⟩:=hf'.sr.blk t li hl;simp at hk
       obtain ⟨ad',cap',hv3,_,hck',_⟩:=hf'.vr.sl_inv;have hc0:cap'=0:=by simpa using hck' rfl
       subst hc0;exact {
        imle:=hf'.imle,locle:=fun t li h=>by cases h
        vr:=by rw [hv3];exact .own 1 esz 0 0 0 false ⟨0,0,esz,0,0⟩ ad' 0 (bO.set_same _ _ _) rfl (aj _) (aj _) (aj _) (fun h=>by cases h) (.inl rfl)
        sr:={
         im_ok:=hf'.sr.im_ok
         blk:=fun t li h=>by
          unfold bO.set at h;split at h
          · rename_i ht;subst ht;injection h with h;subst h
            exact ⟨_,rfl,rfl,rfl,fun h=>absurd rfl h⟩
          rw [hnone t] at h;cases h
         excl:=fun t u li lj k k' h h' hs hs' hso=>by
          unfold bO.set at h;split at h
          · rename_i ht;subst ht;simp at hs;subst hs;cases hso
          rw [hnone t] at h;cases h
         free:=fun t li k h hs hso=>by
          unfold bO.set at h;split at h
          · rename_i ht;subst ht;simp at hs;subst hs;cases hso
          rw [hnone t] at h;cases h}
        os:=hf'.os,tape:=hf'.tape,output:=hf'.output,size:=hf'.size,frame:=hf'.frame,imnew:=hf'.imnew
        locs:=fun t li h=> .inr (be _)
        own:=fun t li k h hs hso=>by
         unfold bO.set at h;split at h
         · rename_i ht;subst ht;simp at hs;subst hs;cases hso
         rw [hnone t] at h;cases h}
      |some ad'=>
       refine wp_cond_false (by rw [ha3,had];rfl) (wp_skip ?_)
       rcases rows with _|⟨r,rs⟩
       · simp only [cQ,ae,am] at hp
         obtain ⟨rfl,rfl⟩:=hp;exact fR R3 K9 hmix (xcC esz zero) _ _ .ret {env:=[(2,.own 1 esz 0 0 0 false)],sto:=[.arr esz [],.arr esz []],fz:=[],kn:=0} hC rfl a3 w1 hat3 _ fun a4 w4 hat4=>fin _ _ rfl a4 w4 hat4
       simp only [cQ] at hp
       split at hp
       case isFalse=>cases hp
       rename_i hcond;simp only [ac,Nat.beq_eq,cg] at hcond;obtain ⟨rfl,hmost⟩:=hcond;simp only [ae,am] at hp;obtain ⟨rfl,rfl⟩:=hp;have hap:eL [.arr e []] [] e (.own 0 e 0 0 0 true) (.sl e cl (r::rs))=some {v:= .own 1 e 0 (0+(rs.length+1)) (0+(rs.length+1)) false,news:=[.arr e (r::rs)],rd:=[0]}:=by
        have h1:af e e=true:=by simp
        have h2:bd (rs.length+1) 0=false:=rfl;have h3:bd (0+(rs.length+1)) gP=true:=by simpa using hmost
        simp only [eL,iS,h1,if_true];simp [h2,hmost,eK]
       refine fR R3 K9 hmix (xcC e zero) _ _ .ret {env:=[(2,.own 1 e 0 (0+(rs.length+1)) (0+(rs.length+1)) false)],sto:=[.arr e [],.arr e (r::rs)],fz:=[],kn:=0} hC ?_ a3 w1 hat3 _ fun a4 w4 hat4=>fin _ _ rfl a4 w4 hat4
       simp only [xcC,mC,gE,hH,wanted,pM,aS,cP.ev,lk];simp [jZ,XR.ok,oB,XR.next,eI,GO,dC,lk,hap]
    cases hops
  cases hbody
end
end Go.Vm
/- slices.Insert of one row: what it leaves of the memory. -/
namespace Go.Vm
section
variable {P : Program} {im im' : Im} {loc loc' : bO} {sto : bI} {fz : List Nat} {w w' : World}
theorem jT (w:World) (dT sT ty el:TypeId) (esz g o dLen dCap:Nat) (a:Addr) (sLen sCap:Nat) (cur:Array Value) (t:TypeId) (cs:List Value)
 (hu:P.underlying dT=some (.slice el)) (hs:(P.info? el).map (·.size)=some esz)
 (hg:w.heap[g]? =some (.cells cur t (0,0))) (hn:Nat.min sLen dLen*esz=cs.length)
 (hsrc: ∀j v,cs[j]? =some v->w.cell? (a.add j)=some v) (hfit:o+cs.length<=cur.size) (h1: ∀v∈cs,v.oneCell'=true):
 (Builtin.copy_ #[dT,sT] ty #[.slice (some ⟨g,o,none⟩) dLen dCap,.slice (some a) sLen sCap]).run P w=
  .ok (goInt (Nat.min sLen dLen)) (w.setRow g (spl o cs cur.toList).toArray):=by
 have hl:=run_loadCells_list (P:=P) w a cs hsrc;have hst:=run_storeCells_at P g o t cs 0 cur w hg (by simpa using hfit) h1
 cases hq:P.info? el with
 |none=>simp [hq] at hs
 |some i=>
  have hi:i.size=esz:=by simpa [hq] using hs
  simp [Builtin.copy_,run_underlying hu,Builtin.lenOf,Builtin.firstCells,sizeOf,typeInfo,hq,hi,hn,hl,hst,spl]
theorem BR.keep {li:LI} {k:fV} (h:BR im loc w li k) (hi:iW im im') (hl:gV loc loc') (hw:k.solid=true->w'.heap[li.blk]? =w.heap[li.blk]?):BR im' loc' w' li k:=by
 cases hs:k.solid with
 |true=>exact h.mono hi hl (hw hs)
 |false=>
  cases k with
  |arr e rows=>
   cases rows with
   |nil=>exact ⟨h.1,h.2.1,fun hne=>absurd rfl hne⟩
   |cons r rs=>cases hs
  |box cs=>cases hs
  |map es=>cases hs
  |dead=>trivial
theorem xX {r:iT} {t:Nat} {u:Value} (hsr:SR im loc sto fz w) (he:mG im loc sto w r im' loc' w') (hfr:r.fr=[]) (hw:r.wr=[(t,.dead)]) (ht:t<sto.length) (hv:VR im' loc' r.v u):
 qM im loc sto w r.v (sto.set t .dead++r.news) fz im' loc' w' u:=by
 have hlen:(sto.set t .dead).length=sto.length:=by simp
 have old: ∀t' li,loc t'=some li->t'<sto.length:=fun t' li h=>by
  obtain ⟨k,hk,_⟩:=hsr.blk t' li h;exact (ag.1 hk).1
 have oldk: ∀t' li k,loc t'=some li->(sto.set t .dead++r.news)[t']? =some k->k.solid=true->t'≠t/\sto[t']? =some k:=by
  intro t' li k h hk hs;have hlt:=old t' li h;rw [ah (by omega),dl] at hk
  split at hk
  · first|(injection hk with hk;subst hk;cases hs)|(split at hk<;>first|(injection hk with hk;subst hk;cases hs)|cases hk)
  rename_i hne;exact ⟨fun e=>hne e.symm,hk⟩
 have newk: ∀t' k,sto.length<=t'->(sto.set t .dead++r.news)[t']? =some k->r.news[t'-sto.length]? =some k:=by
  intro t' k h hk
  rwa [ap (by omega),hlen] at hk
 have isnew: ∀t' li,loc' t'=some li->loc t'=some li\/(sto.length<=t'/\t'=sto.length+(t'-sto.length)):=by
  intro t' li h;rcases he.locnew t' li h with h|⟨h,_⟩
  · exact .inl h
  exact .inr ⟨h,by omega⟩
 have imn: ∀b o,im' b=some o->im b=some o\/w.heap.size<=b:=by
  intro b o h;rcases he.imnew b o h with h|h|⟨t0,li,k,h,_⟩
  · exact .inl h
  · exact .inr h
  rw [hfr] at h;cases h
 have keepb: ∀t' li k,loc t'=some li->sto[t']? =some k->t'≠t->k.solid=true->BR im loc w li k->w'.heap[li.blk]? =w.heap[li.blk]?:=by
  intro t' li k hl hk hne hs hb;refine he.frame li.blk (hb.lt hs) fun t0 k1 l0 k0 hm hl0 hk0 hs0 e=>?_
  rw [hw] at hm;obtain ⟨rfl,rfl⟩:t0=t/\k1= .dead:=by simpa using hm
  exact hne (hsr.excl _ _ _ _ _ _ hl hl0 hk hk0 hs hs0 e.symm)
 have newb: ∀t' li k,loc' t'=some li->sto.length<=t'->r.news[t'-sto.length]? =some k->BR im' loc' w' li k/\
  (k.solid=true->im' li.blk=none/\(w.heap.size<=li.blk\/ ∃lt k0,loc t=some lt/\sto[t]? =some k0/\k0.solid=true/\lt.blk=li.blk)):=by
  intro t' li k hl hle hk;obtain ⟨h1,h2⟩:=he.news (t'-sto.length) k li hk (by rw [show sto.length+(t'-sto.length)=t' by omega];exact hl)
  refine ⟨h1,fun hs=>⟨(h2 hs).1,?_⟩⟩
  rcases (h2 hs).2 with h|⟨t0,lt,k0,hm,a,b,c,d⟩
  · exact .inl h
  rw [hw] at hm
  obtain rfl:t0=t:=by have:=bj.1 hm;injection this
  exact .inr ⟨lt,k0,a,b,c,d⟩
 have apart: ∀t1 u1 li lj k k',loc t1=some li->t1≠t->sto[t1]? =some k->k.solid=true->loc' u1=some lj->sto.length<=u1->r.news[u1-sto.length]? =some k'->k'.solid=true->li.blk≠lj.blk:=by
  intro t1 u1 li lj k k' hl hne hk hs hl' hle hk' hs' e;obtain ⟨k2,hk2,hb⟩:=hsr.blk t1 li hl;rw [hk] at hk2;injection hk2 with hk2;subst hk2;rcases ((newb u1 lj k' hl' hle hk').2 hs').2 with h|⟨lt,k0,a,b,c,d⟩
  · have:=hb.lt hs;omega
  exact hne (hsr.excl _ _ _ _ _ _ hl a hk b hs c (by rw [e,d]))
 exact {
  imle:=he.imle,locle:=he.locle,vr:=hv
  sr:={
   im_ok:=he.im_ok
   blk:=fun t' li h=>by
    rcases isnew t' li h with ho|⟨hle,_⟩
    · obtain ⟨k,hk,hb⟩:=hsr.blk t' li ho
      have hlt:=old t' li ho
      by_cases e:t'=t
      · subst e
        exact ⟨.dead,by rw [ah (by omega),List.getElem?_set_self (by omega)],trivial⟩
      refine ⟨k,by rw [ah (by omega),cy (fun x=>e x.symm)];exact hk,hb.keep he.imle he.locle fun hs=>keepb t' li k ho hk e hs hb⟩
    have hn:t'-sto.length<r.news.length:=by
     rcases he.locnew t' li h with ho|⟨_,h2⟩
     · have:=old t' li ho;omega
     omega
    obtain ⟨hb,_⟩:=newb t' li _ h hle (aa hn);exact ⟨_,by rw [ap (by omega),hlen];exact aa hn,hb⟩
   excl:=fun t1 u1 li lj k k' hl hl' hk hk' hs hs' e=>by
    rcases isnew t1 li hl with h1|⟨h1,_⟩<;>rcases isnew u1 lj hl' with h2|⟨h2,_⟩
    · obtain ⟨n1,e1⟩:=oldk _ _ _ h1 hk hs
      obtain ⟨n2,e2⟩:=oldk _ _ _ h2 hk' hs';exact hsr.excl _ _ _ _ _ _ h1 h2 e1 e2 hs hs' e
    · obtain ⟨n1,e1⟩:=oldk _ _ _ h1 hk hs
      exact absurd e (apart _ _ _ _ _ _ h1 n1 e1 hs hl' h2 (newk _ _ h2 hk') hs')
    · obtain ⟨n2,e2⟩:=oldk _ _ _ h2 hk' hs'
      exact absurd e.symm (apart _ _ _ _ _ _ h2 n2 e2 hs' hl h1 (newk _ _ h1 hk) hs)
    have:=he.distinct (t1-sto.length) (u1-sto.length) k k' li lj (newk _ _ h1 hk) (newk _ _ h2 hk') hs hs' (by rw [show sto.length+(t1-sto.length)=t1 by omega];exact hl) (by rw [show sto.length+(u1-sto.length)=u1 by omega];exact hl') e
    omega
   free:=fun t' li k hl hk hs hz=>by
    rcases isnew t' li hl with h1|⟨h1,_⟩
    · obtain ⟨n1,e1⟩:=oldk _ _ _ h1 hk hs
      obtain ⟨k2,hk2,hb⟩:=hsr.blk t' li h1;rw [e1] at hk2;injection hk2 with hk2;subst hk2;have h0:=hsr.free t' li k h1 e1 hs hz;cases hi:im' li.blk with
      |none=>rfl
      |some o=>
       rcases imn _ _ hi with h|h
       · rw [h0] at h;cases h
       have:=hb.lt hs;omega
    exact ((newb t' li k hl h1 (newk _ _ h1 hk)).2 hs).1}
  os:=he.os,tape:=he.tape,output:=he.output,size:=he.size
  frame:=fun b hb h=>he.frame b hb fun t0 k li k0 hm hl hk hs=>h t0 li k0 hl hk hs
  imnew:=fun b o h=>by
   rcases imn b o h with h|h
   · exact .inl h
   exact .inr (.inl h)
  locs:=fun t' li h=>by
   rcases isnew t' li h with h|⟨h,_⟩
   · exact .inl h
   exact .inr h
  own:=fun t' li k hl hk hs=>by
   rcases isnew t' li hl with h1|⟨h1,_⟩
   · obtain ⟨n1,e1⟩:=oldk _ _ _ h1 hk hs
     exact .inr ⟨t',li,k,h1,e1,hs,rfl⟩
   rcases ((newb t' li k hl h1 (newk _ _ h1 hk)).2 hs).2 with h|⟨lt,k0,a,b,c,d⟩
   · exact .inl h
   exact .inr ⟨t,lt,k0,a,b,c,d⟩}
theorem SR.next_free (h:SR im loc sto fz w):loc sto.length=none:=by
 cases hl:loc sto.length with
 |none=>rfl
 |some li=>obtain ⟨k,hk,_⟩:=h.blk _ _ hl;simp at hk
theorem NI {t e:Nat} {li:LI} {rows L:List iQ} {arr fin:Array Value} {el:TypeId} (hsr:SR im loc sto fz w) (hl:loc t=some li) (hst:sto[t]? =some (.arr e rows)) (hne:rows≠[]) (hf:has fz t=false)
 (ha:w.heap[li.blk]? =some (.cells arr el (0,0))) (hh:w'.heap=w.heap.setIfInBounds li.blk (.cells fin el (0,0))) (ho:w'.os=w.os) (ht:w'.tape=w.tape) (hp:w'.output=w.output)
 (hsz:fin.size=li.sz) (hfit:li.sh+L.length*e<=li.sz) (hr:bA (fun k=>fin[k]?) li.sh e L):
 mG im loc sto w {v:= .own sto.length e 0 L.length L.length false,news:=[.arr e L],wr:=[(t,.dead)]} im (loc.set sto.length ⟨li.blk,li.sh,e,L.length,li.sz⟩) w':=by
 have hlt:=(aq.1 ha).1;have hsolid:(fV.arr e rows).solid=true:=lG hne;have hfree:=hsr.free t li _ hl hst hsolid hf;have hfr0:=hsr.next_free;exact {
  imle:= .refl _,locle:=bO.le_set _ hfr0
  im_ok:=fun b o hb=>by
   have h1:=hsr.im_ok b o hb;have hne2:li.blk≠b:=fun e=>by rw [e,hb] at hfree;cases hfree
   rw [hh,ba,if_neg hne2];exact h1
  imnew:=fun _ _ h=> .inl h,os:=ho,tape:=ht,output:=hp
  size:=by rw [hh];simp
  wrs:=fun t' k hm hs=>by
   obtain ⟨rfl,rfl⟩:t'=t/\k= .dead:=by simpa using hm
   cases hs
  frame:=fun b _ hb=>by
   have hne2:=hb t .dead li _ (bj.2 rfl) hl hst hsolid;rw [hh,ba,if_neg hne2]
  wr:=fun t' k li hm hl'=>by
   obtain ⟨rfl,rfl⟩:t'=t/\k= .dead:=by simpa using hm
   trivial
  locnew:=fun t' l h=>by
   unfold bO.set at h;split at h
   · rename_i e;subst e;exact .inr ⟨aj _,by simp⟩
   exact .inl h
  news:=xN fun j k hj=>by
   cases j with
   |zero=>
    simp at hj;subst hj;refine ⟨_,bO.set_same _ _ _,⟨rfl,rfl,fun _=>⟨fin,el,by rw [hh];simp [hlt],hsz,hfit,hr⟩⟩,fun _=>⟨hfree,.inr ⟨t,li,_,bj.2 rfl,hl,hst,hsolid,rfl⟩⟩⟩
   |succ j=>simp at hj
  distinct:=fun i j ki kj li lj h1 h2 _ _ _ _ _=>by
   cases i<;>cases j<;>simp at h1 h2<;>rfl}
theorem NJ {t e:Nat} {L:List iQ} {fin:Array Value} {el:TypeId} (hsr:SR im loc sto fz w)
 (hh:w'.heap=w.heap.push (.cells fin el (0,0))) (ho:w'.os=w.os) (ht:w'.tape=w.tape) (hp:w'.output=w.output)
 (hfit:L.length*e<=fin.size) (hr:bA (fun k=>fin[k]?) 0 e L):
 mG im loc sto w {v:= .own sto.length e 0 L.length L.length false,news:=[.arr e L],wr:=[(t,.dead)]} im (loc.set sto.length ⟨w.heap.size,0,e,L.length,fin.size⟩) w':=by
 have hfr0:=hsr.next_free;have old: ∀b,b<w.heap.size->w'.heap[b]? =w.heap[b]?:=fun b hb=>by rw [hh,Array.getElem?_push,if_neg (by omega)]
 have hlt: ∀b o,im b=some o->b<w.heap.size:=fun b o h=>(aq.1 (hsr.im_ok b o h)).1
 exact {
  imle:= .refl _,locle:=bO.le_set _ hfr0
  im_ok:=fun b o hb=>by rw [old b (hlt b o hb)];exact hsr.im_ok b o hb
  imnew:=fun _ _ h=> .inl h,os:=ho,tape:=ht,output:=hp
  size:=by rw [hh];simp
  wrs:=fun t' k hm hs=>by
   obtain ⟨rfl,rfl⟩:t'=t/\k= .dead:=by simpa using hm
   cases hs
  frame:=fun b hb _=>old b hb
  wr:=fun t' k li hm hl'=>by
   obtain ⟨rfl,rfl⟩:t'=t/\k= .dead:=by simpa using hm
   trivial
  locnew:=fun t' l h=>by
   unfold bO.set at h;split at h
   · rename_i e;subst e;exact .inr ⟨aj _,by simp⟩
   exact .inl h
  news:=xN fun j k hj=>by
   cases j with
   |zero=>
    simp at hj;subst hj;refine ⟨_,bO.set_same _ _ _,⟨rfl,rfl,fun _=>⟨fin,el,by rw [hh];simp,rfl,by simpa using hfit,hr⟩⟩,fun _=>⟨?_,.inl (aj _)⟩⟩
    cases hi:im w.heap.size with
    |none=>rfl
    |some o=>have:=hlt _ _ hi;omega
   |succ j=>simp at hj
  distinct:=fun i j ki kj li lj h1 h2 _ _ _ _ _=>by
   cases i<;>cases j<;>simp at h1 h2<;>rfl}
theorem D4 {esz:Nat}: ∀{rows:List iQ} (_: ∀r∈rows,r.length=esz) (i:Nat),(rows.take i).flatMap aQ=(rows.flatMap aQ).take (i*esz)
 | [],_,i=>by simp
 |r::rs,h,0=>by simp
 |r::rs,h,i+1=>by
  have hr:(aQ r).length=esz:=by rw [gG];exact h r (by simp)
  have e1:(aQ r).take ((i+1)*esz)=aQ r:=bk (by rw [hr,da];omega)
  rw [List.take_succ_cons,cm,D4 (fun x hx=>h x (by simp [hx])) i,cm,List.take_append,e1,hr,show (i+1)*esz-esz=i*esz by rw [da];omega]
theorem D5 {esz:Nat}: ∀{rows:List iQ} (_: ∀r∈rows,r.length=esz) (i:Nat),(rows.drop i).flatMap aQ=(rows.flatMap aQ).drop (i*esz)
 | [],_,i=>by simp
 |r::rs,h,0=>by simp
 |r::rs,h,i+1=>by
  have hr:(aQ r).length=esz:=by rw [gG];exact h r (by simp)
  have e1:(aQ r).drop ((i+1)*esz)=[]:=ct (by rw [hr,da];omega)
  rw [List.drop_succ_cons,D5 (fun x hx=>h x (by simp [hx])) i,cm,List.drop_append,e1,hr,show (i+1)*esz-esz=i*esz by rw [da];omega,List.nil_append]
theorem R4 {α:Type} {o k:Nat} {cs vs l:List α} (hl:o+(cs.length+vs.length)<=l.length) (hk:k<=cs.length) (hcs: ∀j v,j<k->cs[j]? =some v->l[o+j]? =some v):
 ∀j v,(cs.take k++vs++cs.drop k)[j]? =some v->(spl (o+k) vs (spl (o+k+vs.length) (cs.drop k) l))[o+j]? =some v:=by
 intro j v h;have hd:(cs.drop k).length=cs.length-k:=cp;have ht:(cs.take k).length=k:=by rw [cq];omega
 have l1:o+k+vs.length+(cs.drop k).length<=l.length:=by rw [hd];omega
 rw [eM _ _ _ (by rw [bP _ _ _ l1];omega)]
 rcases ay j k with h1|h1
 · rw [if_neg (by omega),eM _ _ _ l1,if_neg (by omega)]
   rw [bq,ah (by omega),co h1] at h
   exact hcs j v h1 h
 rw [bq,ap (by omega),ht] at h
 rcases ay (j-k) vs.length with h2|h2
 · rw [ah h2] at h
   rw [if_pos ⟨by omega,by omega⟩,<- h]
   congr 1;omega
 rw [ap h2] at h
 have:=(ag.1 h).1
 rw [if_neg (by omega),eM _ _ _ l1,if_pos ⟨by omega,by omega⟩,<- h]
 congr 1;omega
theorem O1 {α:Type} {k:Nat} {cs vs l:List α} (hl:cs.length+vs.length<=l.length) (hk:k<=cs.length) (hcs: ∀(j:Nat) (v:α),j<k->cs[j]? =some v->l[j]? =some v):
 ∀(j:Nat) (v:α),(cs.take k++vs++cs.drop k)[j]? =some v->(spl (k+vs.length) (cs.drop k) (spl k vs l))[j]? =some v:=by
 intro j v h;have hd:(cs.drop k).length=cs.length-k:=cp;have ht:(cs.take k).length=k:=by rw [cq];omega
 have l1:k+vs.length<=l.length:=by omega
 rw [eM _ _ _ (by rw [bP _ _ _ l1,hd];omega)]
 rcases ay j k with h1|h1
 · rw [if_neg (by omega),eM _ _ _ l1,if_neg (by omega)]
   rw [bq,ah (by omega),co h1] at h
   exact hcs j v h1 h
 rw [bq,ap (by omega),ht] at h
 rcases ay (j-k) vs.length with h2|h2
 · rw [ah h2] at h
   rw [if_neg (by omega),eM _ _ _ l1,if_pos ⟨by omega,by omega⟩,<- h]
 rw [ap h2] at h
 have:=(ag.1 h).1
 rw [if_pos ⟨by omega,by omega⟩,<- h]
 congr 1;omega
theorem SR.knownKill (h:SR im loc sto fz w) {t:Nat} (hf:has fz t=false) {r:iT} (hw:r.wr=[(t,.dead)]):eU im loc sto w r where
 im_ok:=h.im_ok
 tok:=fun t _ li hl=>h.blk t li hl
 free:=fun t' k hm li k' hl hk hs=>by
  rw [hw] at hm;obtain rfl:t'=t:=by have:=bj.1 hm;injection this
  exact h.free t' li k' hl hk hs hf
 fresh:=fun j hj=>by
  cases hl:loc (sto.length+j) with
  |none=>rfl
  |some li=>obtain ⟨k,hk,_⟩:=h.blk _ _ hl;rw [List.getElem?_eq_none (by omega)] at hk;cases hk
 excl:=fun t u li lj k k' _ _=>h.excl t u li lj k k'
structure HF (P:Program) (f:FuncId) (e:Nat) (tS:TypeId):Prop where
 ends: ∀(base:Option Addr) (n c vb voff vc:Nat) (w w':World) (v':Value),n<=c->(Builtin.append_ #[tS,tS] tS #[.slice base n c,.slice (some ⟨vb,voff,none⟩) 1 vc]).run P w= .ok v' w'->
  Calls P f #[.slice base n c,.int .i64 n,.slice (some ⟨vb,voff,none⟩) 1 vc] w fun e W=>e= .returned v'/\W=w'
 room: ∀(b off n c i vb voff vc:Nat) (cs vs:List Value) (arr av:Array Value) (el ev:TypeId) (w:World),i<n->n+1<=c->n<=1048576->vb≠b->w.heap[b]? =some (.cells arr el (0,0))->w.heap[vb]? =some (.cells av ev (0,0))->
  off+(n+1)*e<=arr.size->cs.length=n*e->vs.length=e->(∀(j:Nat) (v:Value),cs[j]? =some v->arr[off+j]? =some v)->(∀(j:Nat) (v:Value),vs[j]? =some v->av[voff+j]? =some v)->(∀v∈cs,v.oneCell'=true)->(∀v∈vs,v.oneCell'=true)->
  ∃fin:List Value,fin.length=arr.size/\(∀(j:Nat) (v:Value),(cs.take (i*e)++vs++cs.drop (i*e))[j]? =some v->fin[off+j]? =some v)/\
  Calls P f #[.slice (some ⟨b,off,none⟩) n c,.int .i64 i,.slice (some ⟨vb,voff,none⟩) 1 vc] w fun x w'=>
   x= .returned (.slice (some ⟨b,off,none⟩) (n+1) c)/\w'.heap=w.heap.setIfInBounds b (.cells fin.toArray el (0,0))/\w'.os=w.os/\w'.tape=w.tape/\w'.output=w.output
 full: ∀(b off n i vb voff vc:Nat) (cs vs:List Value) (w:World),i<n->n<=1048576->cs.length=n*e->vs.length=e->
  (∀(j:Nat) (v:Value),cs[j]? =some v->w.cell? ⟨b,off+j,none⟩=some v)->(∀(j:Nat) (v:Value),vs[j]? =some v->w.cell? ⟨vb,voff+j,none⟩=some v)->(∀v∈cs,v.oneCell'=true)->(∀v∈vs,v.oneCell'=true)->
  ∃(G:Nat) (fin:List Value) (el:TypeId),n+1<=G/\fin.length=G*e/\(∀(j:Nat) (v:Value),(cs.take (i*e)++vs++cs.drop (i*e))[j]? =some v->fin[j]? =some v)/\
  Calls P f #[.slice (some ⟨b,off,none⟩) n n,.int .i64 i,.slice (some ⟨vb,voff,none⟩) 1 vc] w fun x w'=>
   x= .returned (.slice (some ⟨w.heap.size,0,none⟩) (n+1) G)/\w'.heap=w.heap.push (.cells fin.toArray el (0,0))/\w'.os=w.os/\w'.tape=w.tape/\w'.output=w.output
theorem NB.ins {f:FuncId} {e:Nat} {tS tE:TypeId} {fn:Func} {c:Code} {i0:TypeInfo} {z:Value} (hf:P.funcs[f]? =some fn) (hname:(fn.name== "runtime.NumGoroutine")=false) (hb:fn.body=some c)
 (ht:P.underlying tS=some (.slice tE)) (hi:P.info? tE=some i0) (hsz:i0.size=e) (hz:i0.zero=some z) (hzs:z.cells.size=e) (hby:i0.bytes<=1048576) (he0:0<e) (H:HF P f e tS):NB P f (E6 e):=by
 refine ⟨fn,c,hf,hname,hb,?_⟩;intro args sto fz v sto' fz' hp im loc w us hsr hus;unfold E6 at hp;split at hp
 case h_2=>cases hp
 rename_i t e1 off len cap ex i u e2 off2 len2 cap2 ex2;split at hp
 case h_2=>cases hp
 rename_i e3 rows e4 new hst hsu;split at hp
 case isFalse=>cases hp
 rename_i hc;simp only [ac,Nat.beq_eq,au,decide_eq_true_eq,cg] at hc;obtain ⟨⟨⟨⟨⟨⟨⟨⟨⟨⟨⟨q1,q2⟩,rfl⟩,rfl⟩,hlen⟩,rfl⟩,hnew⟩,htu⟩,hfz⟩,hi0⟩,hil⟩,hmost⟩:=hc;have q1:=q1.symm;subst q1;have q2:=q2.symm;subst q2;have hmost:len+1<=1048576:=hmost;injection hp with hp;simp only [am] at hp;obtain ⟨rfl,rfl,rfl⟩:=hp
 obtain ⟨k,rfl⟩: ∃k:Nat,i=(k:Int):=⟨i.toNat,by omega⟩
 simp only [Int.toNat_natCast] at hil ⊢;obtain ⟨x0,us1,rfl,hx0,hus⟩: ∃x0 us1,us=x0::us1/\VR im loc (.own t e 0 len cap ex) x0/\VRL im loc [.int .i64 (k:Int),.own u e 0 1 cap2 ex2] us1:=by cases hus with|cons _ a _ b h1 h2=>exact ⟨a,b,rfl,h1,h2⟩
 obtain ⟨x1,us2,rfl,hx1,hus⟩: ∃x1 us2,us1=x1::us2/\VR im loc (.int .i64 (k:Int)) x1/\VRL im loc [.own u e 0 1 cap2 ex2] us2:=by cases hus with|cons _ a _ b h1 h2=>exact ⟨a,b,rfl,h1,h2⟩
 obtain ⟨x2,us3,rfl,hx2,hus⟩: ∃x2 us3,us2=x2::us3/\VR im loc (.own u e 0 1 cap2 ex2) x2/\VRL im loc [] us3:=by cases hus with|cons _ a _ b h1 h2=>exact ⟨a,b,rfl,h1,h2⟩
 obtain rfl:us3=[]:=by cases hus;rfl
 have hx1:=hx1.int_inv;subst hx1;obtain ⟨li,a,cap',rfl,hl,he,hoff,hlc,hcc,_,hadr⟩:=hx0.own_inv;obtain ⟨lj,a2,cap2',rfl,hl2,he2,hoff2,hlc2,hcc2,_,hadr2⟩:=hx2.own_inv;have htl:t<sto.length:=(ag.1 hst).1;obtain ⟨k1,hk1,hbr⟩:=hsr.blk t li hl;rw [hst] at hk1;injection hk1 with hk1;subst hk1;obtain ⟨k2,hk2,hbr2⟩:=hsr.blk u lj hl2;rw [hsu] at hk2;injection hk2 with hk2;subst hk2
 obtain ⟨b1,b2,b3⟩:=hbr;obtain ⟨d1,d2,d3⟩:=hbr2;have hnne:new≠[]:=by intro h;subst h;simp at hnew
 obtain ⟨av,ev,hv1,hv2,hv3,hvat⟩:=d3 hnne;have e34:e=e3:=by rw [<- b1,he]
 subst e34;have e44:e=e4:=by rw [<- d1,he2]
 subst e44;obtain rfl:a2=some ⟨lj.blk,lj.sh,none⟩:=by
  rcases hadr2 with h|⟨_,h,_⟩
  · omega
  simpa using h
 have hnl:=hvat.rowLen;have hnp:=hvat.plain;have hnfl:=bU hnl;rw [hnew] at hnfl;refine .inr ⟨gH hf hname hb,?_⟩;rcases ay k len with hk|hk
 ·
  have hrne:rows≠[]:=by intro h;subst h;simp at hlen;omega
  obtain ⟨arr,el,ha1,ha2,ha3,hat⟩:=b3 hrne;obtain ⟨hn0,rfl,hfit⟩:li.n≠0/\a=some ⟨li.blk,li.sh,none⟩/\li.sh+cap'*e<=li.sz:=by
   rcases hadr with h|⟨h1,h2,h3⟩
   · omega
   exact ⟨h1,by simpa using h2,by simpa using h3⟩
  have hrl:=hat.rowLen;have hrp:=hat.plain;have hfl:=bU hrl;rw [<- hlen] at hfl;obtain ⟨L,hL⟩: ∃L,L=rows.take k++new++rows.drop k:=⟨_,rfl⟩;have hLl:L.length=len+1:=by rw [hL];simp only [bo,cq,cp,hnew];omega
  have hLf:L.flatMap aQ=(rows.flatMap aQ).take (k*e)++new.flatMap aQ++(rows.flatMap aQ).drop (k*e):=by
   rw [hL,dh,dh,D4 hrl,D5 hrl]
  have hLr: ∀r∈L,r.length=e:=by
   intro r hr;rw [hL] at hr;rcases bg.1 hr with h|h
   · rcases bg.1 h with h|h
     · exact hrl r (db h)
     exact hnl r h
   exact hrl r (dd h)
  have hLp: ∀r∈L,∀c∈r,c.plain=true:=by
   intro r hr;rw [hL] at hr;rcases bg.1 hr with h|h
   · rcases bg.1 h with h|h
     · exact hrp r (db h)
     exact hnp r h
   exact hrp r (dd h)
  rw [<- hL,<- hLl];have hcs: ∀j v,(rows.flatMap aQ)[j]? =some v->arr[li.sh+j]? =some v:=fun j v hj=>hat.flat j v hj
  have hvs: ∀j v,(new.flatMap aQ)[j]? =some v->av[lj.sh+j]? =some v:=fun j v hj=>hvat.flat j v hj
  have hmul:(len+1)*e<=cap'*e\/cap'=len:=by
   rcases ay len cap' with h|h
   · exact .inl (de _ h)
   exact .inr (by omega)
  rcases hmul with hroom|hfull
  · have hcap1:len+1<=cap':=Nat.le_of_mul_le_mul_right hroom he0
    have hne:lj.blk≠li.blk:=fun h=>by
     have:=hsr.excl u t lj li _ _ hl2 hl hsu hst (lG hnne) (lG hrne) h
     rw [this] at htu;simp at htu
    obtain ⟨fin,f1,f2,f3⟩:=H.room li.blk li.sh len cap' k lj.blk lj.sh cap2' _ _ arr av el ev w hk hcap1 (by omega) hne ha1 hv1 (by omega) hfl (by omega) hcs hvs (lM hrp) (lM hnp)
    refine f3.mono fun x w' ⟨hx,hh,ho,htp,hpp⟩=>⟨_,hx,im,loc.set sto.length ⟨li.blk,li.sh,e,L.length,li.sz⟩,?_⟩
    have hE:=NI (w':=w') (L:=L) hsr hl hst hrne hfz ha1 hh ho htp hpp (by simp [f1,ha2]) (by rw [hLl];omega) (bA.ofFlat hLr hLp fun j v hj=>by
     rw [hLf] at hj;simpa using f2 j v hj)
    refine xX hsr hE rfl rfl htl ?_;rw [<- hLl];exact .own _ _ 0 _ _ false ⟨li.blk,li.sh,e,L.length,li.sz⟩ _ cap' (bO.set_same _ _ _) rfl (by show 0+L.length<=L.length;omega) (aj _) (by omega) (fun h=>by cases h) (.inr ⟨by show L.length≠0;omega,by simp,by show li.sh+(0+cap')*e<=li.sz;rw [Nat.zero_add];exact hfit⟩)
  subst hfull
  obtain ⟨G,fin,el',g1,g2,g3,g4⟩:=H.full li.blk li.sh cap' k lj.blk lj.sh cap2' _ _ w hk (by omega) hfl (by omega) (fun j v hj=>by simp only [dv,ha1];exact hcs j v hj) (fun j v hj=>by simp only [dv,hv1];exact hvs j v hj) (lM hrp) (lM hnp)
  have hg:(cap'+1)*e<=G*e:=de _ g1;refine g4.mono fun x w' ⟨hx,hh,ho,htp,hpp⟩=>⟨_,hx,im,loc.set sto.length ⟨w.heap.size,0,e,L.length,fin.toArray.size⟩,?_⟩
  have hE:=NJ (w':=w') (t:=t) (L:=L) (e:=e) hsr hh ho htp hpp (by rw [hLl];simp [g2];omega) (bA.ofFlat hLr hLp fun j v hj=>by
   rw [hLf] at hj;simpa using g3 j v hj)
  refine xX hsr hE rfl rfl htl ?_;rw [<- hLl];exact .own _ _ 0 _ _ false ⟨w.heap.size,0,e,L.length,fin.toArray.size⟩ _ G (bO.set_same _ _ _) rfl (by show 0+L.length<=L.length;omega) (aj _) (by omega) (fun h=>by cases h) (.inr ⟨by show L.length≠0;omega,by simp,by show 0+(0+G)*e<=fin.toArray.size;simp [g2]⟩)
 ·
  obtain rfl:k=len:=by omega
  have happ:rows.take k++new++rows.drop k=rows++new:=by
   rw [bk (by omega),ct (by omega),List.append_nil]
  rw [happ];have hx0':VR im loc (.own t e 0 k k false) (.slice a k cap'):= .own t e 0 k k false li a cap' hl he (by omega) (aj _) (by omega) (by simp) hadr
  have hro:iS sto e (.own u e 0 1 cap2 ex2)=some new:=by
   have:(new.drop 0).take 1=new:=by rw [dt,bk (by omega)]
   show (if af e e=true then (match sto[u]? with|some (.arr _ rows)=>some ((rows.drop 0).take 1)|_=>none) else none)=_
   rw [if_pos (Nat.beq_refl e),hsu];exact congrArg some this
  have hap:eL sto fz e (.own t e 0 k k false) (.own u e 0 1 cap2 ex2)=some {v:= .own sto.length e 0 (k+1) (k+1) false,news:=[.arr e (rows++new)],wr:=[(t,.dead)],rd:=[u]}:=by
   have h1:bd (k+1) k=false:=by
    cases h:bd (k+1) k with
    |false=>rfl
    |true=>have:=Nat.le_of_ble_eq_true h;omega
   have h2:bd (k+1) gP=true:=by simpa [gP] using hmost
   have h3:(rows.drop 0).take k=rows:=by rw [dt,bk (by omega)]
   unfold eL;rw [hro];cases new with
   |nil=>exact absurd rfl hnne
   |cons r rs=>
    have h0:(r::rs).length=1:=hnew;simp only [h0,hst,h1,h2,h3,hfz,eK];simp
  obtain ⟨v',w',loc',hrun,hvr,hE⟩:=A2 (P:=P) (w:=w) (ty:=tS) ht ht hi hsz hz hzs hby hx0' hx2 hap (hsr.knownKill hfz rfl);refine (H.ends a k cap' lj.blk lj.sh cap2' w w' v' (by omega) hrun).mono fun x W ⟨hx,hW⟩=>⟨v',hx,im,loc',?_⟩
  subst hW;exact xX hsr hE rfl rfl htl hvr
end
end Go.Vm
/- A table of functions as a tree. -/
namespace Go.Vm
inductive TT where
 |nil
 |leaf (k:Nat) (e:Ent)
 |node (m:Nat) (a b:TT)
def TT.get:TT->Nat->Option Ent
 | .nil,_=>none
 | .leaf k e,f=>bif af f k then some e else none
 | .node m a b,f=>bif bw f m then a.get f else b.get f
def TT.All (p:Nat->Ent->Prop):TT->Prop
 | .nil=>True
 | .leaf k e=>p k e
 | .node _ a b=>a.All p/\b.All p
theorem TT.get_all {p:Nat->Ent->Prop}: ∀{t:TT} {f:Nat} {e:Ent},t.All p->t.get f=some e->p f e
 | .nil,f,e,_,h=>by cases h
 | .leaf k e',f,e,ha,h=>by
  simp only [TT.get] at h;cases hk:af f k with
  |false=>rw [hk] at h;cases h
  |true=>
   rw [hk] at h
   have:f=k:=by simpa using hk
   subst this;have h:some e'=some e:=h;injection h with h;subst h;exact ha
 | .node m a b,f,e,ha,h=>by
  simp only [TT.get] at h;cases hk:bw f m with
  |false=>rw [hk] at h;exact TT.get_all ha.2 h
  |true=>rw [hk] at h;exact TT.get_all ha.1 h
def pT (P:Program) (f:Nat):Ent->Prop
 | .code x=>aD P (fun _=>true) x f=true
 | .prim k p=>k=false/\FE P f p
 | .shp p=>NB P f p
theorem TT.tabOK {P:Program} {t:TT} (h:t.All (pT P)):HC P (fun _=>true) t.get:=fun f x hf=>by
 have:=TT.get_all h hf
 exact this
theorem TT.primsOK {P:Program} {t:TT} (h:t.All (pT P)):sE P t.get:=⟨fun _ _ _ hf=>TT.get_all h hf,fun _ _ hf=>TT.get_all h hf⟩
end Go.Vm
/- The logical machine's code of a function, reckoned from the model's own (what it comes to is looked at by aD; nothing is proved of it here). -/
namespace Go.Vm
structure aGL where
 md:FuncId->CM
 keep:List Nat
 over:List (Nat×List (Nat×Nat)):=[]
 more:List (Nat×List (Nat×Option Nat)):=[]
 tb:Bool:=false
section
variable (P : Program)
def NK (t:TypeId):Nat:=match P.info? t with
 |some i=>i.size
 |none=>0
def JW (t:TypeId):Option Nat:=match P.underlying t with
 |some (.struct _)|some (.array _ _)=>some (NK P t)
 |_=>none
def mZ:Nat->TypeId->List PV
 |0,_=>[]
 |n+1,t=>match P.underlying t with
  |some (.int k)=>[.int k 0]
  |some .bool=>[.bool false]
  |some .string=>[.str .empty]
  |some (.slice e)=>[.sl (NK P e) true []]
  |some (.struct fs)=>fs.toList.flatMap fun f=>mZ n f.type
  |some (.array m e)=>(bu m (mZ n e)).flatten
  |some (.func ..)=>[.nilf]
  |_=>[.undef]
def aBH (t:TypeId):PV:=match mZ P 9 t with
 |x::_=>x
 | []=> .sl 0 true []
def aBI (t:TypeId):PV:=match JW P t with
 |some _=> .agg (mZ P 9 t)
 |none=>aBH P t
def aBJ (z:PV):Value->PV
 | .int k n=> .int k n
 | .bool b=> .bool b
 | .string s=> .str s
 | .slice .. =>z
 | .nilFunc=> .nilf
 |_=> .undef
def aBK:List PV->List Value->List PV
 |z::zs,v::vs=>aBJ z v::aBK zs vs
 |_,_=>[]
def aIA (t:TypeId):Value->PV
 | .agg vs=> .agg (aBK (mZ P 9 t) vs.toList)
 |v=>aBJ (aBH P t) v
def lD (t:TypeId):Operand->cP
 | .tmp n=> .t n
 | .const v=> .c (aIA P t v)
 | .func f=> .c (.clo f [] [])
 | .global _=> .c .undef
def O2:List TypeId->List Operand->List cP
 |t::ts,o::os=>lD P t o::O2 ts os
 |_,_=>[]
def dI:Operand->cP
 | .tmp n=> .t n
 | .const (.int k n)=> .c (.int k n)
 | .const (.bool b)=> .c (.bool b)
 | .const (.string s)=> .c (.str s)
 | .func f=> .c (.clo f [] [])
 |_=> .c .undef
def tB (t:TypeId):TypeId:=match P.underlying t with
 |some (.slice e)=>e
 |some (.array _ e)=>e
 |_=>0
def O3 (place:Nat->Option (Nat×Nat)) (ty:Nat->TypeId):List (Nat×Operand)->List (Nat×Nat×cP)
 | []=>[]
 |(i,o)::r=>match place i with
  |some (a,b)=>(a,b,lD P (ty i) o)::O3 place ty r
  |none=>[]
def O4 (t:TypeId) (i:Nat):TypeId:=match P.underlying t with
 |some (.struct fs)=>match fs[i]? with
  |some f=>f.type
  |none=>0
 |some (.array _ e)=>e
 |_=>0
def aGM (t:TypeId) (i:Nat):Nat:=match P.underlying t with
 |some (.struct fs)=>match fs[i]? with
  |some f=>f.offset
  |none=>0
 |_=>0
def aBL:BinOp->Bool
 | .neq=>true
 |_=>false
def O5 (b:Builtin) (args:List Operand) (ts:List TypeId):fX:=
 match b,args,ts with
 | .len,x::_,t::_=>match P.underlying t with
  |some (.slice _)|some (.map _ _)=> .len (lD P t x)
  |some (.array m _)=> .lenc m
  |some (.pointer e)=>match P.underlying e with
   |some (.array m _)=> .lenc m
   |_=> .bad
  |_=> .bad
 | .append,[x,y],[t,u]=>match P.underlying u with
  |some (.slice _)=> .append (NK P (tB P t)) (lD P t x) (lD P u y)
  |_=> .bad
 | .copy,[x,y],[t,u]=>match P.underlying u with
  |some (.slice _)=> .copy (NK P (tB P t)) (lD P t x) (lD P u y)
  |_=> .bad
 | .clear,[x],[t]=>match P.underlying t with
  |some (.slice e)=> .clear (NK P e) (mZ P 9 e) (lD P t x)
  |_=> .bad
 | .min,x::xs,_=> .mm false (dI x) (xs.map dI)
 | .max,x::xs,_=> .mm true (dI x) (xs.map dI)
 |_,_,_=> .bad
def cOp (tb:Bool) (md:FuncId->CM) (ty:TypeId):Op->fX
 | .move x| .assign x=> .mov (lD P ty x)
 | .pick c a b=> .pick (dI c) (lD P ty a) (lD P ty b)
 | .binOp op t x y _=>match P.underlying t with
  |some (.int _)=> .bin op (dI x) (dI y)
  |some .bool=> .binb (aBL op) (dI x) (dI y)
  |some (.struct _)|some (.array _ _)=> .eqc (NK P t) (aBL op) (lD P t x) (lD P t y)
  |_=> .bad
 | .unOp op _ x=> .un op (dI x)
 | .convert _ t x=>match P.underlying t with
  |some (.int k)=> .conv k (dI x)
  |_=> .bad
 | .box t x=> .box (lD P t x)
 | .alloc t=> .alloc (mZ P 9 t)
 | .build t ps=> .build (mZ P 9 t) (O3 P (oC P t) (O4 P t) ps.toList)
 | .buildSlice t n ps=>match P.underlying (tB P t),n,ps.toList with
  |some (.slice _),2,[(0,a),(1,b)]=> .mkbox (lD P (tB P t) a) (lD P (tB P t) b)
  |_,_,_=> .mkrow (NK P (tB P t)) n (mZ P 9 (tB P t)) (ps.toList.map fun p=>(p.1,lD P (tB P t) p.2))
 | .load t a=> .load (JW P t) (dI a)
 | .store t a v=> .store (NK P t) (dI a) (lD P t v)
 | .nilCheck x=> .nilc (dI x)
 | .fieldAddr t a f=> .fadr (aGM P t f) (dI a)
 | .field t a f=> .fld (JW P (O4 P t f)) (aGM P t f) (dI a)
 | .indexAddr t a j=>match P.underlying t with
  |some (.slice e)=> .iadr (NK P e) (lD P t a) (dI j)
  |some (.array m e)=> .iadra m (NK P e) (dI a) (dI j)
  |_=> .bad
 | .index t a j=>match P.underlying t with
  |some (.array m e)=> .idx m (NK P e) (JW P e) (lD P t a) (dI j)
  |some .string=> .sidx (dI a) (dI j)
  |_=> .bad
 | .slice t a b c d=>match P.underlying t with
  |some (.slice e)=> .slc (NK P e) (lD P t a) (b.map dI) (c.map dI) (d.map dI)
  |_=> .bad
 | .makeSlice t a b=> .mks (NK P (tB P t)) (mZ P 9 (tB P t)) (dI a) (dI b)
 | .makeFunc (.func g) c d=> .mkf g (c.toList.map dI) (d.toList.map dI)
 | .makeMap t _=> .mkm (bif tb then (match P.underlying t with
  |some (.map _ e)=>some (aBI P e)
  |_=>none) else none)
 | .extract a j=> .ext j (dI a)
 | .lookup t a b ok=>match P.underlying t with
  |some (.map k e)=> .lookup (JW P k) (aBI P e) ok (dI a) (lD P k b)
  |_=> .bad
 | .mapUpdate t a b c| .insert t a b c=>match P.underlying t with
  |some (.map k e)=> .mapu (JW P k) (dI a) (lD P k b) (lD P e c)
  |_=> .bad
 | .call c=>match c.callee with
  | .builtin b=>O5 P b c.args.toList c.argTypes.toList
  | .value (.func f)=> .call (md f) f (O2 P c.argTypes.toList c.args.toList)
  | .value x=> .callv (dI x) (O2 P c.argTypes.toList c.args.toList)
  |_=> .bad
 |_=> .bad
def aGN (tb:Bool) (md:FuncId->CM) (ops:Array Oper) (o:Oper):aY:=
 ⟨o.dst,cOp P tb md o.type o.op,match o.guard with
  |some (i,b)=>match ops[i]? with
   |some q=>match q.dst with
    |some d=>some (d,b)
    |none=>none
   |none=>none
  |none=>none⟩
def O6:List Nat->List Oper->List Nat
 |acc,[]=>acc
 |acc,o::os=>O6 (acc++[(iL acc acc.length o.after.toList).getD 0]) os
def FI:Nat->Nat->Nat->List Nat
 |0,_,_=>[]
 |n+1,i,m=>bif af m 0 then [] else bif af (Nat.mod m 2) 1 then i::FI n (i+1) (Nat.div m 2) else FI n (i+1) (Nat.div m 2)
def O7 (l:List (Nat×Nat)) (x:Nat):Nat×Option Nat:=match l with
 | []=>(x,none)
 |(t,k)::r=>bif af t x then (x,some k) else O7 r x
def O8 {α:Type} (n:Nat):List (Nat×List α)->List α
 | []=>[]
 |(m,l)::r=>bif af m n then l else O8 n r
def hd (l:List Nat):Nat:=match l with
 |x::_=>x
 | []=>0
structure CSt where
 ks:List Nat
 n:Nat
def BL (H:aGL):Code->CSt->fG×CSt
 | .region _ ops dr,s=>(.region (match dr with|true=>some (O6 [] ops.toList)|false=>none) (ops.toList.map (aGN P H.tb H.md ops)) (FI 1000 0 (hd s.ks)),⟨s.ks.tail,s.n⟩)
 | .seq a b,s=>match BL H a s with
  |(x,s1)=>match BL H b s1 with
   |(y,s2)=>(.seq x y,s2)
 | .cond c a b,s=>match BL H a s with
  |(x,s1)=>match BL H b s1 with
   |(y,s2)=>(.cond (dI c) x y,s2)
 | .block id b,s=>match BL H b s with
  |(x,s1)=>(.block id x,s1)
 | .loop b,s=>match BL H b ⟨s.ks.tail,s.n+1⟩ with
  |(x,s1)=>(.loop ((FI 1000 0 (hd s.ks)).map (O7 (O8 s.n H.over))++O8 s.n H.more) x,s1)
 | .exit id,s=>(.exit id,s)
 | .ret,s=>(.ret,s)
 |_,s=>(.skip,s)
def aIB:ResultVar->RV
 | .tmp t=> .tmp t
 | .cell t ty=> .cell t (JW P ty)
def aCd (fn:Func) (H:aGL):aG:=
 ⟨fn.params.size+fn.nfree,match fn.body with
  |some c=>(BL P H c ⟨H.keep,0⟩).1
  |none=> .skip,fn.results.toList.map (aIB P)⟩
def aIC (ow sh fp:List Nat) (f:FuncId):CM:=bif has ow f then .own else bif has sh f then .shr else bif has fp f then .fp else .pur
end
end Go.Vm
/- A law's row from what the logical machine answers: the result is true, nothing that was there has turned. -/
namespace Go.Vm
open Go.ChangeShapes Go.WideShapes Go.ChangeAt Go.RowKit
section
variable {H : Type} {enc : TypeId × Value -> H} {P : Program}
theorem tC (hl:laidOutB P=true) {W W':World} (hb:Below W.heap.size W W'): ∀{ts:List TypeId} {vs:List Value} {ds:List (DataW H)} {ps:List MemPlace},(∀t∈ts,P.readableRec t=true/\t<P.types.size)->
 DataW.TrodAll enc P W 0 (fun _=>true) true ts vs ds ps->(∀x∈ps,x.block<W.heap.size)->DataW.TrodAll enc P W' 0 (fun b=>decide (b<W.heap.size)) true ts vs ds ps
 | [],vs,ds,ps,_,h,_=>by
  obtain ⟨rfl,rfl,rfl⟩:=trodAll_nil h;exact trodAll_mk0
 |t::ts,vs,ds,ps,ht,h,hlt=>by
  obtain ⟨v,vs',d,ds',p,q,rfl,rfl,rfl,h1,h2⟩:=trodAll_cons h;obtain ⟨h3,h4⟩:=ht t (by simp)
  exact trodAll_cons_mk (Below.trod hl h3 h4 h1 hb fun x hx=>hlt x (by simp [hx])) (tC hl hb (fun t' ht'=>ht t' (by simp [ht'])) h2 fun x hx=>hlt x (by simp [hx]))
theorem O9 (hl:laidOutB P=true) {f:Func} {s:ChangeSpec} {W W':World} {args:Array Value} {ds:List (DataW H)} {before:List MemPlace} {bt:TypeId} (hvars:s.vars=[]) (hres:f.resultTypes= #[bt]) (hbt:P.underlying bt=some .bool)
 (hp: ∀t∈f.params.toList,P.readableRec t=true/\t<P.types.size) (hW:DataW.Whole enc P f.params.toList s.vars false W args.toList ds [] before)
 (hfn:s.fn H (ds++[])={results:=[.lit (.bool true)],args:=ds}) (hb:Below W.heap.size W W'):s.post enc P f false true false false W args (.bool true) W':=by
 have hW':=hW;obtain ⟨p,q,hA,hV,rfl,hfz,hnd⟩:=hW;have hlt: ∀x∈p++q,x.block<W.heap.size:=fun x hx=>by simpa using hW'.lt x hx
 refine ⟨ds,[],p++q,[],p,[],hW',?_,?_,?_,hb.frame _,fun h=>by cases h⟩
 · rw [hfn,hres]
   exact trodAll_mk1 (shut_bool hbt true)
 · rw [hfn]
   exact tC hl hb hp hA fun x hx=>hlt x (by simp [hx])
 rw [hfn,hvars]
 rfl
end
def aGO (w:World):Im:=fun b=>w.heap[b]?
theorem NL {P:Program} {F:iH} {prims:FuncId->Bool} (hT:HC P prims F) (hprim:sE P F) (hmix:P.follows .mixedOrders=true) {f:FuncId} {args:List PV} {s:bI} {z:List Nat} {n:Nat} {us:List Value} {w:World}
 (h:run F n (.func f args [] [])=some (.func (.bool true) s z)) (hus:VRL (aGO w) eO args us):Calls P f ⟨us⟩ w fun e w'=>e= .returned (.bool true)/\Below w.heap.size w w':=by
 refine (NH hT hprim hmix h (im:=aGO w) (fun b o h=>h) hus).mono fun e w' ⟨u,he,⟨im',loc',hvr,_⟩,h1,h2,h3,h4,h5⟩=>?_
 obtain rfl:=hvr.bool_inv;exact ⟨he,⟨h1,h2,h3,h4,h5⟩⟩
end Go.Vm
/- Regions of one order, step by step, for contracts. -/
namespace Go.Vm
def xY:fX->Bool
 | .call .. | .callv .. =>true
 |_=>false
variable {F : iH}
def WS (F:iH) (ops:List aY) (st:St) (Q:St->Prop):Prop:= ∀tr,WO F ops st tr (fun s _=>Q s)
def FJ (st:St) (o:aY):Option St:=
 match wanted o.guard st.env with
 |some true=>match aS st.env st.sto st.fz o.op with
  |some x=>if (XR.loc x).ok st.fz then some ((XR.loc x).next o.dst st) else none
  |none=>none
 |some false=>some {st with env:=eI o.dst .nul st.env}
 |none=>none
theorem FK {rec:fF->Option mB} {e:lZ} {sto:bI} {fz:List Nat} {op:fX} (h:xY op=false):
 pM F rec e sto fz op=(aS e sto fz op).map .loc:=by
 cases op<;>first|rfl|cases h
theorem WS.nil {st:St} {Q:St->Prop} (h:Q st):WS F [] st Q:=fun _=>WO.nil h
theorem WS.cons {o:aY} {r:List aY} {st st':St} {Q:St->Prop} (h:xY o.op=false) (hs:FJ st o=some st') (k:WS F r st' Q):WS F (o::r) st Q:=by
 intro tr;unfold FJ at hs;split at hs
 · rename_i hw
   split at hs
   · rename_i x hx
     split at hs
     · rename_i hok
       injection hs with hs;subst hs;exact WO.op x hw (fun rec=>by rw [FK h,hx];rfl) hok (k _)
     cases hs
   cases hs
 · rename_i hw
   injection hs with hs;subst hs;exact WO.skip hw (k _)
 cases hs
theorem WS.one {o:aY} {r:List aY} {st:St} {Q:St->Prop} (x:iT) (hc:xY o.op=false) (hw:wanted o.guard st.env=some true) (hx:aS st.env st.sto st.fz o.op=some x) (hok:(XR.loc x).ok st.fz=true)
 (k:WS F r ((XR.loc x).next o.dst st) Q):WS F (o::r) st Q:=fun tr=>
 WO.op x hw (fun rec=>by rw [FK hc,hx];rfl) hok (k _)
def AJ:List aY->St->Option St
 | [],st=>some st
 |o::r,st=>match xY o.op with
  |true=>none
  |false=>match FJ st o with
   |some st'=>AJ r st'
   |none=>none
theorem WS.all: ∀{ops:List aY} {st st':St} {Q:St->Prop},AJ ops st=some st'->Q st'->WS F ops st Q
 | [],st,st',Q,h,hq=>by simp only [AJ,ae] at h;subst h;exact WS.nil hq
 |o::r,st,st',Q,h,hq=>by
  simp only [AJ] at h;cases hc:xY o.op with
  |true=>rw [hc] at h;cases h
  |false=>
   rw [hc] at h;dsimp only at h;cases hs:FJ st o with
   |none=>rw [hs] at h;cases h
   |some s1=>rw [hs] at h;exact WS.cons hc hs (WS.all h hq)
theorem WS.pure {d:Option Nat} {g:Option (Nat×Bool)} {f:FuncId} {as:List cP} {r:List aY} {st:St} {Q:St->Prop}
 {args:List PV} {v:PV} (h:M3 F f args v) (hw:wanted g st.env=some true) (ha:exL st.sto (sM st.sto cE) (AS st.env as)=some args)
 (k:WS F r {st with env:=eI d v st.env} Q):WS F (⟨d,.call .pur f as,g⟩::r) st Q:=fun tr=>by
 refine WO.pure h hw ha ?_
 have:=k (XR.tr st.sto.length (.loc {v,rd:=toksL (bN st.sto cE) (AS st.env as)})::tr)
 simpa [XR.next,kZ,dC] using this
theorem WS.shr {d:Option Nat} {g:Option (Nat×Bool)} {f:FuncId} {as:List cP} {r:List aY} {st:St} {Q:St->Prop}
 (hw:wanted g st.env=some true) (h:uD F f (AS st.env as) st.sto st.fz fun v s z=>(bd st.sto.length s.length&&st.fz.all (has z))=true/\WS F r {st with env:=eI d v st.env,sto:=s,fz:=z} Q):
 WS F (⟨d,.call .shr f as,g⟩::r) st Q:=fun tr=>by
 obtain ⟨n,v,s,z,hr,hc,hk⟩:=h;refine WO.call (.shr v s z) hw ⟨n,?_⟩ rfl (hk _);simp only [pM,cZ,hr];rw [if_pos hc]
end Go.Vm
/- Plain terms for what a function computes: loops, elements of lists, numbers; and the machine's loop over a plain one. -/
namespace Go.Vm
inductive bB (σ ρ:Type) where
 |next (s:σ)
 |done (r:ρ)
section
variable {σ ρ : Type}
def jI (body:σ->Option (bB σ ρ)):Nat->σ->Option ρ
 |0,_=>none
 |n+1,x=>match body x with
  |some (.next y)=>jI body n y
  |some (.done r)=>some r
  |none=>none
open Classical in
noncomputable def JX (body:σ->Option (bB σ ρ)) (x:σ):Option ρ:=
 if h: ∃n r,jI body n x=some r then jI body h.choose x else none
theorem uL {body:σ->Option (bB σ ρ)}: ∀{n:Nat} {x:σ} {r:ρ},jI body n x=some r-> ∀k,jI body (n+k) x=some r
 |0,x,r,h,_=>by cases h
 |n+1,x,r,h,k=>by
  rw [show n+1+k=(n+k)+1 by omega]
  simp only [jI] at h ⊢;split at h
  · exact uL h k
  · exact h
  cases h
theorem NM {body:σ->Option (bB σ ρ)} {n m:Nat} {x:σ} {r s:ρ} (h:jI body n x=some r) (k:jI body m x=some s):r=s:=by
 have h1:=uL h m;have h2:=uL k n;rw [Nat.add_comm m n] at h2;rw [h1] at h2;exact cu h2
theorem HG {body:σ->Option (bB σ ρ)} {x:σ} {r:ρ}:JX body x=some r↔ ∃n,jI body n x=some r:=by
 unfold JX;constructor
 · intro h
   split at h
   · exact ⟨_,h⟩
   cases h
 rintro ⟨n,hn⟩
 have hex: ∃n r,jI body n x=some r:=⟨n,r,hn⟩;rw [dif_pos hex];obtain ⟨s,hs⟩:=hex.choose_spec;rw [hs,NM hs hn]
end
def aT (N:Nat) {σ ρ:Type} (body:σ->Option (bB σ ρ)) (x:σ):Option ρ:=jI body N x
noncomputable def aBM {σ ρ:Type} (b:Option Nat) (body:σ->Option (bB σ ρ)) (x:σ):Option ρ:=
 match b with
 |none=>JX body x
 |some N=>jI body N x
theorem PA {σ ρ:Type} {b:Option Nat} {body:σ->Option (bB σ ρ)} {x:σ} {r:ρ} (h:aBM b body x=some r): ∃n,jI body n x=some r:=by
 cases b with
 |none=>exact HG.1 h
 |some N=>exact ⟨_,h⟩
class LP where
 w:Option Nat
abbrev LP.of (n:Nat):LP:=⟨some n⟩
def aH (N:Nat):Option Nat:=some N
theorem aGP {α β:Type} {x:Option α} {f:α->Option β} {r:β} (h:x.bind f=some r): ∃a,x=some a/\f a=some r:=by
 cases x with
 |none=>cases h
 |some a=>exact ⟨a,rfl,h⟩
def aBN {α ρ:Type} (x:Option α) (f:α->Option ρ):Option ρ:=x.bind f
def aBO {ρ:Type} (c:Bool) (a b:Option ρ):Option ρ:=cond c a b
theorem JY {α ρ:Type} {x:Option α} {f:α->Option ρ} {y:ρ} (h:aBN x f=some y): ∃a,x=some a/\f a=some y:=aGP h
theorem JZ {ρ:Type} {c:Bool} {a b:Option ρ} {y:ρ} (h:aBO c a b=some y):(c=true/\a=some y)\/(c=false/\b=some y):=by
 cases c
 · exact .inr ⟨rfl,h⟩
 exact .inl ⟨rfl,h⟩
def aK {α:Type} (l:List α) (i:Int):Option α:=
 match i with
 | .ofNat n=>l[n]?
 | .negSucc _=>none
def bM {α:Type} (l:List α) (i:Int) (a:α):List α:=l.set i.toNat a
theorem iM {α:Type} {l:List α} {i:Int} {a:α} (h:aK l i=some a): ∃n:Nat,i=df n/\l[n]? =some a:=by
 unfold aK at h;split at h
 · exact ⟨_,rfl,h⟩
 cases h
@[simp] theorem aGQ {α:Type} (l:List α) (i:Int) (a:α):(bM l i a).length=l.length:=by simp [bM]
def bE {α:Type} (l:List α) (m:List α):Option (List α):=if l.length+m.length<=1048576 then some (l++m) else none
def qR {α:Type} (n:Int) (z:α):Option (List α):=if 0<=n/\n<=1048576 then some (bu n.toNat z) else none
def fO {α:Type} (l:List α) (lo hi:Int):Option (List α):=if 0<=lo/\lo<=hi/\hi<=l.length then some ((l.drop lo.toNat).take (hi.toNat-lo.toNat)) else none
def bC {α:Type} (l:List α):Option (List α):=if l.length<=1048576 then some l else none
def aCe {α:Type} (l m:List α):Option (List α):=if 1<=l.length+m.length/\l.length+m.length<=1048576 then some (l++m) else none
def AL {α:Type} (l:List α) (i:Int) (m:List α):Option (List α):=if 0<=i/\i.toNat<=l.length/\m.length=1/\l.length+1<=1048576 then some (l.take i.toNat++m++l.drop i.toNat) else none
def BM {α:Type} (f:List α->Option (List α)) (l:List α):Option (List α):=
 if l.length<=1048576 then (match f l with
 |some m=>if m.length=l.length then some m else none
 |none=>none) else none
def FL {α:Type} (f:List α->Option (List α)) (n:Nat) (l:List α):Option (List α):=if n<=l.length then (BM f (l.take n)).map (· ++l.drop n) else none
def nA (k:IntKind) (a b:Int):Int:=k.wrap (BitVec.ofInt k.bits a&&&BitVec.ofInt k.bits b).toNat
def bOr (k:IntKind) (a b:Int):Int:=k.wrap (BitVec.ofInt k.bits a|||BitVec.ofInt k.bits b).toNat
def aID (k:IntKind) (a b:Int):Int:=k.wrap (BitVec.ofInt k.bits a^^^BitVec.ofInt k.bits b).toNat
def R5 (k:IntKind) (a b:Int):Int:=k.wrap (BitVec.ofInt k.bits a&&& ~~~ BitVec.ofInt k.bits b).toNat
def aIE (k:IntKind) (a b:Int):Int:=k.wrap (a*2^(min b.toNat k.bits))
def gC (k:IntKind) (a b:Int):Int:=a.fdiv (2^(min b.toNat k.bits))
def aBP (s:ByteArray) (i:Int):Option Int:=
 match i with
 | .ofNat n=>s[n]?.map fun b=>(b.toNat:Int)
 | .negSucc _=>none
def HH (l:List (List Int)) (k:List Int):Bool:=l.any fun m=>k==m
def PB (l:List (List Int)) (k:List Int):List (List Int):=bif HH l k then l else l++[k]
def qS (a:List Int) (l:List (List Int)):Bool:=l.all fun b=>af b.length a.length
def R6 (l:List (List Int)) (k:List Int):Option Bool:=bif qS k l then some (HH l k) else none
def R7 (l:List (List Int)) (k:List Int):Option (List (List Int)):=bif qS k l then some (PB l k) else none
def qT {α:Type} (z:α):List (Int×α)->Int->α
 | [],_=>z
 |p::r,k=>bif k==p.1 then p.2 else qT z r k
def tD {α:Type}:List (Int×α)->Int->α->List (Int×α)
 | [],k,a=>[(k,a)]
 |p::r,k,a=>bif k==p.1 then (k,a)::r else p::tD r k a
section
variable {F : iH}
end
end Go.Vm
/- A logical machine over typed values: it turns a function's code into a plain term. What it computes is tied to the logical machine in SvRun. -/
namespace Go.Vm
inductive PT where
 |i (k:IntKind)
 |b
@[reducible] def PT.T : PT -> Type
  | .i _ => Int
  | .b => Bool
@[reducible] def RT : List PT -> Type
  | [] => Unit
  | [p] => p.T
  | p :: q :: r => p.T × RT (q :: r)
inductive SV where
 |junk
 |undef
 |nul
 |nilf
 |int (k:IntKind) (n:Int)
 |bool (b:Bool)
 |str (s:ByteArray)
 |agg (cs:List SV)
 |tup (cs:List SV)
 |sl (r:List PT) (l:List (RT r))
 |nil (e:Nat) (c:Bool)
 |own (t:Nat) (ex:Bool)
 |pre (t len cap:Nat) (ex:Bool)
 |part (t off len cap:Nat) (ex:Bool)
 |pa (t:Nat) (r:List PT) (i:Int) (a:RT r) (off:Nat)
 |pb (t:Nat) (i:Int) (off:Nat)
 |bp (t n off:Nat)
 |rptr (cs:List SV) (off:Nat)
 |clo (f:FuncId) (a b:List SV)
 |mp (t:Nat)
inductive SB where
 |arr (r:List PT) (l:List (RT r))
 |box (cs:List SV)
 |set (l:List (List Int))
 |tab (p:PT) (l:List (RT [.i .i64,p]))
 |dead
abbrev SE:=List (Nat×SV)
structure kG where
 env:SE
 sto:List SB
 fz:List Nat
 kn:Nat
structure Rows where
 r:List PT
 l:List (RT r)
def PT.same:PT->PT->Bool
 | .i k,.i l=>cX k l
 | .b,.b=>true
 |_,_=>false
def vW:List PT->List PT->Bool
 | [],[]=>true
 |p::r,q::s=>p.same q&&vW r s
 |_,_=>false
theorem PT.same_eq: ∀{p q:PT},p.same q=true->p=q
 | .i k,.i l,h=>by rw [cS.1 h]
 | .b,.b,_=>rfl
 | .i _,.b,h=>by cases h
 | .b,.i _,h=>by cases h
theorem nP: ∀{r s:List PT},vW r s=true->r=s
 | [],[],_=>rfl
 |p::r,q::s,h=>by
  simp only [vW,ac] at h;rw [PT.same_eq h.1,nP h.2]
 | [],_::_,h=>by cases h
 |_::_,[],h=>by cases h
def lN (r q:List PT) (l:List (RT r)):Option (List (RT q)):=if h:vW r q=true then some (nP h▸l) else none
def PT.pv:(p:PT)->p.T->PV
 | .i k,n=> .int k n
 | .b,x=> .bool x
def RT.pv:(r:List PT)->RT r->List PV
 | [],_=>[]
 | [p],a=>[p.pv a]
 |p::q::r,a=>p.pv a.1::RT.pv (q::r) a.2
def PT.sv:(p:PT)->p.T->SV
 | .i k,n=> .int k n
 | .b,x=> .bool x
def RT.sv:(r:List PT)->RT r->List SV
 | [],_=>[]
 | [p],a=>[p.sv a]
 |p::q::r,a=>p.sv a.1::RT.sv (q::r) a.2
def PT.of:(p:PT)->SV->Option p.T
 | .i k,.int l n=>bif cX l k then some n else none
 | .b,.bool x=>some x
 |_,_=>none
def RT.of:(r:List PT)->List SV->Option (RT r)
 | [],[]=>some ()
 | [p],[v]=>p.of v
 |p::q::r,v::vs=>match p.of v,RT.of (q::r) vs with
  |some a,some b=>some (a,b)
  |_,_=>none
 |_,_=>none
def PT.zero:(p:PT)->p.T
 | .i _=>(0:Int)
 | .b=>false
def RT.zero:(r:List PT)->RT r
 | []=>()
 | [p]=>p.zero
 |p::q::r=>(p.zero,RT.zero (q::r))
def PC:PV->Option PT
 | .int k n=>match n with
  | .ofNat 0=>some (.i k)
  |_=>none
 | .bool b=>match b with
  |false=>some .b
  |true=>none
 |_=>none
def BN:List PV->Option (List PT)
 | []=>some []
 |v::vs=>match PC v,BN vs with
  |some p,some r=>some (p::r)
  |_,_=>none
def nth {α:Type}:List α->Nat->Option α
 | [],_=>none
 |x::_,0=>some x
 |_::r,n+1=>nth r n
theorem bD {α:Type}: ∀(l:List α) (n:Nat),nth l n=l[n]?
 | [],n=>by simp [nth]
 |x::r,0=>by simp [nth]
 |x::r,n+1=>by simp [nth,bD r n]
def DL (t:Nat):SE->SV
 | []=> .undef
 |(s,v)::r=>bif af s t then v else DL t r
def setS (t:Nat) (v:SV):SE->SE
 | []=>[]
 |(s,x)::r=>bif af s t then (s,v)::r else (s,x)::setS t v r
mutual
def R8:PV->SV
 | .undef=> .undef
 | .nul=> .nul
 | .nilf=> .nilf
 | .int k n=> .int k n
 | .bool b=> .bool b
 | .str s=> .str s
 | .agg cs=> .agg (ofPVL cs)
 | .tup cs=> .tup (ofPVL cs)
 | .sl e c rows=>match rows with
  | []=> .nil e c
  |_=> .junk
 | .clo f a b=> .clo f (ofPVL a) (ofPVL b)
 |_=> .junk
def ofPVL:List PV->List SV
 | []=>[]
 |x::xs=>R8 x::ofPVL xs
end
def aZ (e:SE):cP->SV
 | .t n=>DL n e
 | .c v=>R8 v
def fB (e:SE):List cP->List SV
 | []=>[]
 |x::xs=>aZ e x::fB e xs
def SV.isOne:SV->Bool
 | .junk| .undef| .nul| .agg _| .tup _=>false
 |_=>true
def allOne:List SV->Bool
 | []=>true
 |x::xs=>x.isOne&&allOne xs
def SV.cells:SV->List SV
 | .agg cs=>cs
 |v=>[v]
def SV.stored (v:SV):Option (List SV):=bif allOne v.cells then some v.cells else none
def tF (agg:Option Nat) (off:Nat) (cs:List SV):Option SV:=
 match agg with
 |some s=>bif bd (off+s) cs.length then some (.agg ((cs.drop off).take s)) else none
 |none=>nth cs off
def jU (off:Nat) (new old:List SV):List SV:=old.take off++new++old.drop (off+new.length)
def tG (s:List SB):SV->Option Rows
 | .sl r l=>some ⟨r,l⟩
 | .own t _=>match nth s t with
  |some (.arr r l)=>some ⟨r,l⟩
  |_=>none
 | .pre t len _ _=>match nth s t with
  |some (.arr r l)=>some ⟨r,l.take len⟩
  |_=>none
 | .part t off len _ _=>match nth s t with
  |some (.arr r l)=>some ⟨r,(l.drop off).take len⟩
  |_=>none
 |_=>none
def oL:SV->List Nat
 | .own t _=>[t]
 | .pre t _ _ _=>[t]
 | .part t _ _ _ _=>[t]
 |_=>[]
structure dA where
 v:SV
 news:List SB:=[]
 wr:List (Nat×SB):=[]
 rd:List Nat:=[]
 fr:List Nat:=[]
def dF (R:Type):= ∀ρ:Type,(R->ρ)->Option ρ
section
variable {R : Type}
def D6 (b:R):dF R:=fun _ w=>some (w b)
def aJ:dF R:=fun _ _=>none
def gA {α:Type} (x:Option α) (f:α->dF R):dF R:=fun ρ w=>aBN x fun a=>f a ρ w
def dJ (c:Bool) (a b:dF R):dF R:=fun ρ w=>aBO c (a ρ w) (b ρ w)
def R9 (v:SV) (k:SV->dF R):dF R:=
 match v with
 | .junk=>k .junk
 | .undef=>k .undef
 | .nul=>k .nul
 | .nilf=>k .nilf
 | .int a b=>k (.int a b)
 | .bool a=>k (.bool a)
 | .str a=>k (.str a)
 | .agg a=>k (.agg a)
 | .tup a=>k (.tup a)
 | .sl a b=>k (.sl a b)
 | .nil a b=>k (.nil a b)
 | .own a b=>k (.own a b)
 | .pre a b c d=>k (.pre a b c d)
 | .part a b c d x=>k (.part a b c d x)
 | .pa a b c d e=>k (.pa a b c d e)
 | .pb a b c=>k (.pb a b c)
 | .bp a b c=>k (.bp a b c)
 | .rptr a b=>k (.rptr a b)
 | .clo a b c=>k (.clo a b c)
 | .mp a=>k (.mp a)
theorem FM (v:SV) (k:SV->dF R):R9 v k=k v:=by cases v<;>rfl
def J0 (op:BinOp) (k:IntKind) (a b:Int) (c:SV->dF R):dF R:=
 match op with
 | .add=>c (.int k (aA k (a+b)))
 | .sub=>c (.int k (aA k (a-b)))
 | .mul=>c (.int k (aA k (a*b)))
 | .quo=>dJ (b==0) aJ (c (.int k (aA k (Int.tdiv a b))))
 | .rem=>dJ (b==0) aJ (c (.int k (Int.tmod a b)))
 | .and=>c (.int k (nA k a b))
 | .or=>c (.int k (bOr k a b))
 | .xor=>c (.int k (aID k a b))
 | .andNot=>c (.int k (R5 k a b))
 | .eql=>c (.bool (a==b))
 | .neq=>c (.bool (a !=b))
 | .lss=>c (.bool (decide (a<b)))
 | .leq=>c (.bool (decide (a<=b)))
 | .gtr=>c (.bool (decide (b<a)))
 | .geq=>c (.bool (decide (b<=a)))
 | .shl| .shr=>aJ
def eqS:List SV->List SV->Option Bool
 | [],[]=>some true
 |x::xs,y::ys=>match x,y with
  | .int k a,.int l b=>bif cX k l then (match xs with
   | []=>(match ys with| []=>some (a==b)|_=>none)
   |_::_=>match eqS xs ys with
    |some r=>some (a==b&&r)
    |none=>none) else none
  |_,_=>none
 |_,_=>none
def oM:List (Nat×Nat×SV)->List SV->Option (List SV)
 | [],cs=>some cs
 |(off,sz,v)::r,cs=>match v.stored with
  |some w=>bif af w.length sz&&bd (off+sz) cs.length then oM r (jU off w cs) else none
  |none=>none
def qU (e:SE):List (Nat×Nat×cP)->List (Nat×Nat×SV)
 | []=>[]
 |p::r=>(p.1,p.2.1,aZ e p.2.2)::qU e r
def LA (r:List PT) (e:SE) (n:Nat):List (Nat×cP)->Option (List (Nat×RT r))
 | []=>some []
 |p::ps=>match RT.of r (aZ e p.2).cells,LA r e n ps with
  |some a,some l=>bif bw p.1 n then some ((p.1,a)::l) else none
  |_,_=>none
def zC {α:Type} (i:Nat):α->List (Nat×α)->α
 |z,[]=>z
 |z,(j,a)::r=>zC i (bif af j i then a else z) r
def FN {α:Type} (f:Nat->α):Nat->Nat->List α
 |_,0=>[]
 |i,n+1=>f i::FN f (i+1) n
def xZ (e:SE) (d:Int):Option cP->Option Int
 |none=>some d
 |some x=>match aZ e x with
  | .int _ n=>some n
  |_=>none
def mmS (isMax:Bool) (k:IntKind):Int->List SV->Option SV
 |a,[]=>some (.int k a)
 |a,x::r=>match x with
  | .int l b=>bif cX k l then mmS isMax k (bif isMax then (if b>a then b else a) else (if b<a then b else a)) r else none
  |_=>none
def LB:List SV->Option (List Int)
 | []=>some []
 |x::xs=>match x,LB xs with
  | .int .i64 n,some l=>some (n::l)
  |_,_=>none
def SA (n:Option Nat) (v:SV):Option (List Int):=
 match n,v with
 |none,.int .i64 a=>some [a]
 |some n,.agg cs=>bif af cs.length n&&!Nat.beq n 1 then LB cs else none
 |_,_=>none
def HI (n:Nat) (i:Int) (j:Nat) (f:Nat->dF R):dF R:=
 match n with
 |0=>aJ
 |n+1=>dJ (i==df j) (f j) (HI n i (j+1) f)
def gI {α:Type} (x:Option α) (k:α->dF R):dF R:=
 match x with
 |some a=>k a
 |none=>aJ
def ofV (k:dA->dF R) (v:SV):dF R:=k {v}
def aBQ (s:List SB) (esz:Nat) (x:SV) (i:Int) (k:dA->dF R):dF R:=
 match x with
 | .sl r l=>bif af r.length esz then gA (aK l i) fun a=>k {v:= .rptr (RT.sv r a) 0} else aJ
 | .own t _=>match nth s t with
  |some (.arr r l)=>bif af r.length esz then gA (aK l i) fun a=>k {v:= .pa t r i a 0} else aJ
  |_=>aJ
 | .pre t len _ _=>match nth s t with
  |some (.arr r l)=>bif af r.length esz then gA (aK (l.take len) i) fun a=>k {v:= .pa t r i a 0} else aJ
  |_=>aJ
 | .part t off len _ _=>match nth s t with
  |some (.arr r l)=>bif af r.length esz then gA (aK ((l.drop off).take len) i) fun a=>k {v:= .pa t r (.ofNat (off+i.toNat)) a 0} else aJ
  |_=>aJ
 |_=>aJ
def aBR (s:List SB) (agg:Option Nat) (p:SV) (k:dA->dF R):dF R:=
 match p with
 | .bp t _ off=>match nth s t with
  |some (.box cs)=>gI (tF agg off cs) fun v=>k {v,rd:=[t]}
  |_=>aJ
 | .pa t r _ a off=>match nth s t with
  |some (.arr _ _)=>gI (tF agg off (RT.sv r a)) fun v=>k {v,rd:=[t]}
  |_=>aJ
 | .pb t i off=>match nth s t with
  |some (.arr r l)=>gA (aK l i) fun a=>gI (tF agg off (RT.sv r a)) fun v=>k {v,rd:=[t]}
  |_=>aJ
 | .rptr cs off=>gI (tF agg off cs) fun v=>k {v}
 |_=>aJ
def PD (s:List SB) (z:List Nat) (sz:Nat) (p v:SV) (k:dA->dF R):dF R:=
 match p with
 | .bp t _ off=>match nth s t with
  |some (.box cs)=>gI v.stored fun w=>bif af w.length sz&&bd (off+sz) cs.length&&!has z t then k {v:= .undef,wr:=[(t,.box (jU off w cs))]} else aJ
  |_=>aJ
 | .pa t r i a off=>match nth s t with
  |some (.arr q l)=>bif af v.cells.length sz&&bd (off+sz) r.length&&!has z t then
   gI (RT.of q (jU off v.cells (RT.sv r a))) fun b=>k {v:= .undef,wr:=[(t,.arr q (bM l i b))]} else aJ
  |_=>aJ
 | .pb t i off=>match nth s t with
  |some (.arr q l)=>bif af v.cells.length sz&&bd (off+sz) q.length&&!has z t then
   (bif af sz q.length then gI (RT.of q v.cells) fun b=>k {v:= .undef,wr:=[(t,.arr q (bM l i b))]}
   else gA (aK l i) fun a=>gI (RT.of q (jU off v.cells (RT.sv q a))) fun b=>k {v:= .undef,wr:=[(t,.arr q (bM l i b))]}) else aJ
  |_=>aJ
 |_=>aJ
def J1 (e:SE) (t off len cap:Nat) (ex:Bool) (lo hi mx:Option cP) (k:dA->dF R):dF R:=
 gI (xZ e 0 lo) fun a=>gI (xZ e (.ofNat len) hi) fun b=>match mx with
  |none=>dJ (decide (0<=a)&&decide (a<=b)&&decide (b<= .ofNat cap)) (k {v:= .part t (off+a.toNat) (b.toNat-a.toNat) (cap-a.toNat) ex}) aJ
  |some m=>match aZ e m with
   | .int _ c=>dJ (decide (0<=a)&&decide (a<=b)&&decide (b<=c)&&decide (c<= .ofNat cap)) (k {v:= .part t (off+a.toNat) (b.toNat-a.toNat) (c.toNat-a.toNat) true}) aJ
   |_=>aJ
def aGR (e:SE) (s:List SB) (esz:Nat) (x:SV) (lo hi mx:Option cP) (k:dA->dF R):dF R:=
 match x with
 | .sl r l=>match mx with
  |none=>bif af r.length esz then gI (xZ e 0 lo) fun a=>gI (xZ e (df l.length) hi) fun b=>gA (fO l a b) fun m=>k {v:= .sl r m} else aJ
  |some _=>aJ
 | .own t ex=>match nth s t with
  |some (.arr r l)=>bif af r.length esz then (match lo,hi,mx with
   |none,none,none=>k {v:= .own t ex}
   |none,some h,none=>match aZ e h with
    | .int _ b=>gA (fO l 0 b) fun _=>k {v:= .pre t b.toNat l.length ex}
    |_=>aJ
   |lo,hi,mx=>J1 e t 0 l.length l.length ex lo hi mx k) else aJ
  |_=>aJ
 | .pre t len cap ex=>match nth s t with
  |some (.arr r _)=>bif af r.length esz then (match lo,hi,mx with
   |none,none,none=>dJ (bd len cap) (k {v:= .pre t len cap ex}) aJ
   |none,some h,none=>match aZ e h with
    | .int _ b=>dJ (decide (0<=b)&&decide (b<= .ofNat cap)) (k {v:= .pre t b.toNat cap ex}) aJ
    |_=>aJ
   |lo,hi,mx=>J1 e t 0 len cap ex lo hi mx k) else aJ
  |_=>aJ
 | .part t off len cap ex=>match nth s t with
  |some (.arr r _)=>bif af r.length esz then J1 e t off len cap ex lo hi mx k else aJ
  |_=>aJ
 |_=>aJ
def dP {α:Type} (l:List α) (n:Nat) (m:List α):List α:=l.take n++m++l.drop (n+m.length)
def SV.isPart:SV->Bool
 | .part .. =>true
 |_=>false
def LC (s:List SB) (z:List Nat) (esz:Nat) (x y:SV) (k:dA->dF R):dF R:=
 match tG s y with
 |none=>aJ
 |some ⟨q,m⟩=>bif af q.length esz then (match x with
  | .nil _ c=>bif c then gA (bC m) fun m'=>k {v:= .own s.length false,news:=[.arr q m'],rd:=oL y} else aJ
  | .own t ex=>match nth s t with
   |some (.arr r l)=>match lN q r m with
    |none=>aJ
    |some m=>match ex with
     |true=>dJ l.isEmpty (gA (bC m) fun m'=>k {v:= .own s.length false,news:=[.arr r m'],rd:=t::oL y})
      (dJ m.isEmpty (k {v:= .own t true,rd:=oL y}) (gA (bE l m) fun l'=>k {v:= .own s.length false,news:=[.arr r l'],rd:=t::oL y}))
     |false=>dJ m.isEmpty (k {v:= .own t false,rd:=oL y})
      (bif has z t then aJ else gA (bE l m) fun l'=>k {v:= .own s.length false,news:=[.arr r l'],wr:=[(t,.dead)],rd:=oL y})
   |_=>aJ
  | .pre t len cap ex=>match nth s t with
   |some (.arr r l)=>match lN q r m with
    |none=>aJ
    |some m=>bif ex then aJ else dJ m.isEmpty (k {v:= .pre t len cap false,rd:=oL y})
     (dJ (bd (len+m.length) cap) (dJ (bd (len+m.length) l.length&&!has z t) (k {v:= .pre t (len+m.length) cap false,wr:=[(t,.arr r (dP l len m))],rd:=oL y}) aJ)
      (bif has z t||y.isPart then aJ else gA (bE (l.take len) m) fun l'=>dJ (bd len l.length) (k {v:= .own s.length false,news:=[.arr r l'],wr:=[(t,.dead)],rd:=oL y}) aJ))
   |_=>aJ
  |_=>aJ) else aJ
def PE (s:List SB) (z:List Nat) (esz:Nat) (zero:iQ) (x:SV) (k:dA->dF R):dF R:=
 match x with
 | .part t off len _ _=>match nth s t with
  |some (.arr r l)=>match BN zero with
   |some q=>bif vW q r&&af r.length esz then dJ (af len 0) (k {v:= .undef})
    (dJ (bd (off+len) l.length&&!has z t) (k {v:= .undef,wr:=[(t,.arr r (dP l off (bu len (RT.zero r))))]}) aJ) else aJ
   |none=>aJ
  |_=>aJ
 |_=>aJ
def LD (n:Option Nat) (zero:PV) (ok:Bool) (t:Nat) (l:List (List Int)) (q:SV) (k:dA->dF R):dF R:=
 match zero,ok with
 | .bool false,false=>gI (SA n q) fun a=>gA (R6 l a) fun b=>k {v:= .bool b,rd:=[t]}
 |_,_=>aJ
def PF (n:Option Nat) (t:Nat) (l:List (List Int)) (q x:SV) (k:dA->dF R):dF R:=
 match x with
 | .bool true=>gI (SA n q) fun a=>gA (R7 l a) fun m=>k {v:= .undef,wr:=[(t,.set m)]}
 |_=>aJ
def PT.get:(p:PT)->p.T->List (RT [.i .i64,p])->Int->p.T
 | .i _,z,l,k=>qT (α:=Int) z l k
 | .b,z,l,k=>qT (α:=Bool) z l k
def PT.put:(p:PT)->List (RT [.i .i64,p])->Int->p.T->List (RT [.i .i64,p])
 | .i _,l,k,a=>tD (α:=Int) l k a
 | .b,l,k,a=>tD (α:=Bool) l k a
def LE (n:Option Nat) (zero:PV) (ok:Bool) (t:Nat) (p:PT) (l:List (RT [.i .i64,p])) (q:SV) (k:dA->dF R):dF R:=
 match n with
 |none=>match ok with
  |false=>match q with
   | .int .i64 a=>gI (p.of (R8 zero)) fun z=>k {v:=p.sv (p.get z l a),rd:=[t]}
   |_=>aJ
  |true=>aJ
 |some _=>aJ
def PG (n:Option Nat) (t:Nat) (p:PT) (l:List (RT [.i .i64,p])) (q x:SV) (k:dA->dF R):dF R:=
 match n with
 |none=>match q with
  | .int .i64 a=>gI (p.of x) fun v=>k {v:= .undef,wr:=[(t,.tab p (p.put l a v))]}
  |_=>aJ
 |some _=>aJ
def BO (s:List SB) (z:List Nat) (t:Nat) (r:List PT) (l:List (RT r)) (off len:Nat) (y:SV) (k:dA->dF R):dF R:=
 match tG s y with
 |none=>aJ
 |some ⟨q,m⟩=>match lN q r m with
  |none=>aJ
  |some m=>dJ (m.take len).isEmpty (k {v:= .int .i64 0,rd:=oL y})
   (dJ (bd (off+(m.take len).length) l.length&&!has z t) (k {v:= .int .i64 (.ofNat (m.take len).length),wr:=[(t,.arr r (dP l off (m.take len)))],rd:=oL y}) aJ)
def aBS (s:List SB) (z:List Nat) (esz:Nat) (x y:SV) (k:dA->dF R):dF R:=
 match x with
 | .own t _=>match nth s t with
  |some (.arr r l)=>bif af r.length esz then BO s z t r l 0 l.length y k else aJ
  |_=>aJ
 | .pre t len _ _=>match nth s t with
  |some (.arr r l)=>bif af r.length esz then BO s z t r l 0 len y k else aJ
  |_=>aJ
 | .part t off len _ _=>match nth s t with
  |some (.arr r l)=>bif af r.length esz then BO s z t r l off len y k else aJ
  |_=>aJ
 |_=>aJ
def gW (e:SE) (s:List SB) (z:List Nat) (op:fX) (k:dA->dF R):dF R:=
 match op with
 | .mov x=>k {v:=aZ e x}
 | .pick c a b=>match aZ e c with
  | .bool c=>dJ c (k {v:=aZ e a}) (k {v:=aZ e b})
  |_=>aJ
 | .bin op x y=>match aZ e x with
  | .int ka a=>match aZ e y with
   | .int kb b=>match op with
    | .shl=>dJ (decide (b<0)) aJ (k {v:= .int ka (aIE ka a b)})
    | .shr=>dJ (decide (b<0)) aJ (k {v:= .int ka (gC ka a b)})
    |op=>bif cX ka kb then J0 op ka a b (ofV k) else aJ
   |_=>aJ
  |_=>aJ
 | .binb neg x y=>match aZ e x with
  | .bool a=>match aZ e y with
   | .bool b=>k {v:= .bool (bif neg then !(a==b) else a==b)}
   |_=>aJ
  |_=>aJ
 | .eqc n neg x y=>match aZ e x with
  | .agg xs=>match aZ e y with
   | .agg ys=>bif af xs.length n&&af ys.length n then gI (eqS xs ys) fun b=>k {v:= .bool (bif neg then !b else b)} else aJ
   |_=>aJ
  |_=>aJ
 | .un op x=>match op with
  | .neg=>match aZ e x with
   | .int a n=>k {v:= .int a (aA a (0-n))}
   |_=>aJ
  | .not=>match aZ e x with
   | .bool b=>k {v:= .bool !b}
   |_=>aJ
  |_=>aJ
 | .conv a x=>match aZ e x with
  | .int _ n=>k {v:= .int a (aA a n)}
  |_=>aJ
 | .len x=>match aZ e x with
  | .nil _ _=>k {v:= .int .i64 0}
  | .pre _ len _ _=>k {v:= .int .i64 (.ofNat len)}
  | .part _ _ len _ _=>k {v:= .int .i64 (.ofNat len)}
  |v=>gI (tG s v) fun c=>k {v:= .int .i64 (.ofNat c.l.length)}
 | .lenc n=>k {v:= .int .i64 (.ofNat n)}
 | .box x=>gI (aZ e x).stored fun cs=>k {v:= .bp s.length cs.length 0,news:=[.box cs]}
 | .alloc cells=>k {v:= .bp s.length cells.length 0,news:=[.box (ofPVL cells)]}
 | .build zero parts=>gI (oM (qU e parts) (ofPVL zero)) fun cs=>k {v:= .agg cs}
 | .mkrow esz n zero parts=>gI (BN zero) fun r=>bif af r.length esz then gI (LA r e n parts) fun ps=>
  k {v:= .own s.length true,news:=[.arr r (FN (fun i=>zC i (RT.zero r) ps) 0 n)]} else aJ
 | .mkbox x y=>match aZ e x with
  | .sl r l=>match aZ e y with
   | .sl q m=>k {v:= .part s.length 0 2 2 true,news:=[.box [.sl r l,.sl q m]]}
   |_=>aJ
  |_=>aJ
 | .load agg p=>aBR s agg (aZ e p) k
 | .store sz p v=>PD s z sz (aZ e p) (aZ e v) k
 | .nilc x=>match aZ e x with
  | .pa t r i a o=>k {v:= .pa t r i a o}
  | .pb t i o=>k {v:= .pb t i o}
  | .bp t n o=>k {v:= .bp t n o}
  | .rptr c o=>k {v:= .rptr c o}
  | .clo f a b=>k {v:= .clo f a b}
  |_=>aJ
 | .fadr off p=>match aZ e p with
  | .pa t r i a o=>k {v:= .pa t r i a (o+off)}
  | .pb t i o=>k {v:= .pb t i (o+off)}
  | .bp t n o=>k {v:= .bp t n (o+off)}
  | .rptr c o=>k {v:= .rptr c (o+off)}
  |_=>aJ
 | .fld agg off x=>match aZ e x with
  | .agg cs=>gI (tF agg off cs) (ofV k)
  |_=>aJ
 | .iadr esz x i=>match aZ e i with
  | .int _ n=>aBQ s esz (aZ e x) n k
  |_=>aJ
 | .iadra n esz p i=>match aZ e i with
  | .int _ j=>match aZ e p with
   | .bp t m o=>HI n j 0 fun j=>k {v:= .bp t m (o+j*esz)}
   | .rptr c o=>HI n j 0 fun j=>k {v:= .rptr c (o+j*esz)}
   |_=>aJ
  |_=>aJ
 | .idx n esz agg x i=>match aZ e i with
  | .int _ j=>match aZ e x with
   | .agg cs=>HI n j 0 fun j=>gI (tF agg (j*esz) cs) (ofV k)
   |_=>aJ
  |_=>aJ
 | .sidx x i=>match aZ e i with
  | .int _ j=>match aZ e x with
   | .str t=>gA (aBP t j) fun b=>k {v:= .int .u8 b}
   |_=>aJ
  |_=>aJ
 | .slc esz x lo hi mx=>aGR e s esz (aZ e x) lo hi mx k
 | .clear esz zero x=>PE s z esz zero (aZ e x) k
 | .copy esz x y=>aBS s z esz (aZ e x) (aZ e y) k
 | .mks esz zero l c=>match aZ e l with
  | .int _ n=>match aZ e c with
   | .int _ m=>dJ (n==m) (gI (BN zero) fun r=>bif af r.length esz then gA (qR n (RT.zero r)) fun x=>k {v:= .own s.length true,news:=[.arr r x]} else aJ) aJ
   |_=>aJ
  |_=>aJ
 | .mkf fn a b=>k {v:= .clo fn (fB e a) (fB e b)}
 | .mkm z=>match z with
  |none=>k {v:= .mp s.length,news:=[.set []]}
  |some z=>gI (PC z) fun p=>k {v:= .mp s.length,news:=[.tab p []]}
 | .lookup n zero ok m q=>match aZ e m with
  | .mp t=>match nth s t with
   |some (.set l)=>LD n zero ok t l (aZ e q) k
   |some (.tab p l)=>LE n zero ok t p l (aZ e q) k
   |_=>aJ
  |_=>aJ
 | .mapu n m q x=>match aZ e m with
  | .mp t=>match nth s t with
   |some (.set l)=>bif has z t then aJ else PF n t l (aZ e q) (aZ e x) k
   |some (.tab p l)=>bif has z t then aJ else PG n t p l (aZ e q) (aZ e x) k
   |_=>aJ
  |_=>aJ
 | .ext i x=>match aZ e x with
  | .tup vs=>gI (nth vs i) (ofV k)
  |_=>aJ
 | .append esz x y=>LC s z esz (aZ e x) (aZ e y) k
 | .mm isMax x xs=>match aZ e x with
  | .int a n=>gI (mmS isMax a n (fB e xs)) (ofV k)
  |_=>aJ
 |_=>aJ
end
mutual
def D7 (s:List SB) (bx:Nat->Option (List SV)):SV->Option SV
 | .int k n=>some (.int k n)
 | .bool b=>some (.bool b)
 | .str x=>some (.str x)
 | .nilf=>some .nilf
 | .agg cs=>match exVL s bx cs with|some l=>some (.agg l)|none=>none
 | .tup cs=>match exVL s bx cs with|some l=>some (.tup l)|none=>none
 | .sl r l=>some (.sl r l)
 | .nil e _=>some (.nil e false)
 | .own t _=>match nth s t with
  |some (.arr r l)=>some (.sl r l)
  |_=>none
 | .pre t len _ _=>match nth s t with
  |some (.arr r l)=>some (.sl r (l.take len))
  |_=>none
 | .part t off len _ _=>match nth s t with
  |some (.arr r l)=>some (.sl r ((l.drop off).take len))
  |_=>none
 | .pa t r _ a off=>match nth s t with
  |some (.arr _ _)=>some (.rptr (RT.sv r a) off)
  |_=>none
 | .bp t _ off=>match nth s t with
  |some (.box _)=>match bx t with|some l=>some (.rptr l off)|none=>none
  |_=>none
 | .rptr cs off=>match exVL s bx cs with|some l=>some (.rptr l off)|none=>none
 | .clo f a b=>match exVL s bx a,exVL s bx b with
  |some x,some y=>some (.clo f x y)
  |_,_=>none
 |_=>none
def exVL (s:List SB) (bx:Nat->Option (List SV)):List SV->Option (List SV)
 | []=>some []
 |x::xs=>match D7 s bx x,exVL s bx xs with
  |some y,some ys=>some (y::ys)
  |_,_=>none
end
def J2 (s:List SB) (bx:Nat->Option (List SV)):List SV->Bool
 | []=>true
 |x::xs=>match x with
  | .mp _=>J2 s bx xs
  |x=>match D7 s bx x with
   |some _=>J2 s bx xs
   |none=>false
def fS (s:List SB):Nat->Nat->Option (List SV)
 |0,_=>none
 |n+1,t=>match nth s t with
  |some (.box cs)=>exVL s (fS s n) cs
  |_=>none
mutual
def J3 (bx:Nat->List Nat):SV->List Nat
 | .agg cs=>tkVL bx cs
 | .tup cs=>tkVL bx cs
 | .own t _=>[t]
 | .pre t _ _ _=>[t]
 | .part t _ _ _ _=>[t]
 | .pa t _ _ _ _=>t::bx t
 | .pb t _ _=>t::bx t
 | .bp t _ _=>t::bx t
 | .rptr cs _=>tkVL bx cs
 | .mp t=>[t]
 | .clo _ a b=>tkVL bx a++tkVL bx b
 |_=>[]
def tkVL (bx:Nat->List Nat):List SV->List Nat
 | []=>[]
 |x::xs=>J3 bx x++tkVL bx xs
end
def qB (s:List SB):Nat->Nat->List Nat
 |0,_=>[]
 |n+1,t=>match nth s t with
  |some (.box cs)=>tkVL (qB s n) cs
  |_=>[]
mutual
def SV.sure:SV->Bool
 | .junk=>false
 | .agg cs=>sureL cs
 | .tup cs=>sureL cs
 | .rptr cs _=>sureL cs
 | .clo _ a b=>sureL a&&sureL b
 |_=>true
def sureL:List SV->Bool
 | []=>true
 |x::xs=>x.sure&&sureL xs
end
mutual
def uM:SV->Bool
 | .int _ _| .bool _| .str _=>true
 | .agg cs=>norefSL cs
 | .tup cs=>norefSL cs
 |_=>false
def norefSL:List SV->Bool
 | []=>true
 |x::xs=>uM x&&norefSL xs
end
mutual
def PH (s:List SB):SV->Option SV
 | .int k n=>some (.int k n)
 | .bool b=>some (.bool b)
 | .str x=>some (.str x)
 | .agg cs=>match imVL s cs with|some l=>some (.agg l)|none=>none
 | .tup cs=>match imVL s cs with|some l=>some (.tup l)|none=>none
 | .sl r l=>some (.sl r l)
 | .nil e _=>some (.nil e false)
 | .own t _=>match nth s t with
  |some (.arr r l)=>some (.sl r l)
  |_=>none
 | .pre t len _ _=>match nth s t with
  |some (.arr r l)=>some (.sl r (l.take len))
  |_=>none
 | .part t off len _ _=>match nth s t with
  |some (.arr r l)=>some (.sl r ((l.drop off).take len))
  |_=>none
 |_=>none
def imVL (s:List SB):List SV->Option (List SV)
 | []=>some []
 |x::xs=>match PH s x,imVL s xs with
  |some y,some ys=>some (y::ys)
  |_,_=>none
end
mutual
def NN (s:List SB) (z:List Nat):List Nat->SV->Option (SV×List Nat)
 |seen,.int k n=>some (.int k n,seen)
 |seen,.bool b=>some (.bool b,seen)
 |seen,.agg cs=>match imOVL s z seen cs with|some p=>some (.agg p.1,p.2)|none=>none
 |seen,.tup cs=>match imOVL s z seen cs with|some p=>some (.tup p.1,p.2)|none=>none
 |seen,.nil e c=>bif c then some (.nil e false,seen) else none
 |seen,.own t _=>match nth s t with
  |some (.arr r l)=>bif has seen t||has z t then none else some (.sl r l,t::seen)
  |_=>none
 |_,_=>none
def imOVL (s:List SB) (z:List Nat):List Nat->List SV->Option (List SV×List Nat)
 |seen,[]=>some ([],seen)
 |seen,x::xs=>match NN s z seen x with
  |some p=>match imOVL s z p.2 xs with
   |some q=>some (p.1::q.1,q.2)
   |none=>none
  |none=>none
end
mutual
def qV:Nat->SV->SV×List SB
 |nx,.sl r l=>(.own nx false,[.arr r l])
 |nx,.nil e _=>(.own nx false,[.arr (bu e (.i .i64)) []])
 |nx,.agg cs=>(.agg (ownOfL nx cs).1,(ownOfL nx cs).2)
 |nx,.tup cs=>(.tup (ownOfL nx cs).1,(ownOfL nx cs).2)
 |_,v=>(v,[])
def ownOfL:Nat->List SV->List SV×List SB
 |_,[]=>([],[])
 |nx,x::xs=>((qV nx x).1::(ownOfL (nx+(qV nx x).2.length) xs).1,(qV nx x).2++(ownOfL (nx+(qV nx x).2.length) xs).2)
end
def BP:SB->List Nat
 | .box cs=>tkVL mA cs
 |_=>[]
def sF:SB->Bool
 | .box cs=>sureL cs
 |_=>true
def yA (s:List SB):Nat->List Nat->List Nat->Option (List Nat)
 |_,[],seen=>some seen
 |0,_::_,_=>none
 |n+1,t::ts,seen=>
  bif has seen t then yA s n ts seen
  else match nth s t with
   |some b=>bif sF b then yA s n (BP b++ts) (seen++[t]) else none
   |none=>none
mutual
def kH (m:List Nat):SV->Option SV
 | .agg cs=>match renVL m cs with|some l=>some (.agg l)|none=>none
 | .tup cs=>match renVL m cs with|some l=>some (.tup l)|none=>none
 | .own t ex=>match kA t m with|some u=>some (.own u ex)|none=>none
 | .pre t len cap ex=>match kA t m with|some u=>some (.pre u len cap ex)|none=>none
 | .part t off len cap ex=>match kA t m with|some u=>some (.part u off len cap ex)|none=>none
 | .pa t _ i _ off=>match kA t m with|some u=>some (.pb u i off)|none=>none
 | .pb t i off=>match kA t m with|some u=>some (.pb u i off)|none=>none
 | .bp t n off=>match kA t m with|some u=>some (.bp u n off)|none=>none
 | .rptr cs off=>match renVL m cs with|some l=>some (.rptr l off)|none=>none
 | .mp t=>match kA t m with|some u=>some (.mp u)|none=>none
 | .clo f a b=>match renVL m a,renVL m b with
  |some x,some y=>some (.clo f x y)
  |_,_=>none
 | .junk=>none
 |v=>some v
def renVL (m:List Nat):List SV->Option (List SV)
 | []=>some []
 |x::xs=>match kH m x,renVL m xs with
  |some y,some ys=>some (y::ys)
  |_,_=>none
end
def J4 (m:List Nat):SB->Option SB
 | .box cs=>match renVL m cs with|some l=>some (.box l)|none=>none
 |b=>some b
def DO (s:List SB) (m:List Nat):List Nat->Option (List SB)
 | []=>some []
 |t::ts=>match nth s t with
  |some b=>match J4 m b,DO s m ts with
   |some b',some r=>some (b'::r)
   |_,_=>none
  |none=>none
def pU (rk:List (Nat×List PT)) (esz:Nat):List PT:=
 match rk with
 | []=>bu esz (.i .i64)
 |(n,r)::q=>bif af n esz&&af r.length esz then r else pU q esz
def FO:Option Nat->SV->SV
 |some _,.own t _=> .own t false
 |some _,.pre t l c _=> .pre t l c false
 |some _,.part t o l c _=> .part t o l c false
 |_,v=>v
def pV (rk:List (Nat×List PT)) (e:SE) (m:List Nat):Nat->List (Nat×Option Nat)->Option (SE×List SB)
 |_,[]=>some ([],[])
 |nx,(s,k)::r=>
  match k,DL s e with
  |some esz,.nil _ true=>match pV rk e m (nx+1) r with
   |some p=>some ((s,.own nx false)::p.1,.arr (pU rk esz) []::p.2)
   |none=>none
  |_,v=>match kH m v,pV rk e m nx r with
   |some v',some p=>some ((s,FO k v')::p.1,p.2)
   |_,_=>none
def BQ (rk:List (Nat×List PT)) (st:kG) (t c esz:Nat):kG:=
 match nth st.sto t with
 |some (.box cs)=>match nth cs c with
  |some (.nil _ true)=>{st with sto:=st.sto.set t (.box (cs.set c (.own st.sto.length false)))++[.arr (pU rk esz) []]}
  |_=>st
 |_=>st
def PI:SV->Option Nat
 | .bp t _ 0=>some t
 |_=>none
def SC:SV->Option Nat
 | .clo _ _ (x::_)=>PI x
 |x=>PI x
def gQ (rk:List (Nat×List PT)):List (Nat×Option Nat)->kG->kG
 | [],st=>st
 |(s,k)::r,st=>match k with
  |some n=>bif bd 1000 n then (match SC (DL s st.env) with
   |some t=>gQ rk r (BQ rk st t (n / 1000-1) (n%1000))
   |none=>gQ rk r st) else gQ rk r st
  |none=>gQ rk r st
def D8 (s:List SB) (v:SV):SV:=
 match v with
 | .own t ex=>match nth s t with
  |some (.arr _ l)=> .pre t l.length l.length ex
  |_=>v
 |_=>v
def LF (s:List SB) (c:Nat):SE->SE
 | []=>[]
 |(t,v)::r=>bif af t c then (t,D8 s v)::r else (t,v)::LF s c r
def vX:List (Nat×Option Nat)->kG->kG
 | [],st=>st
 |(t,_)::r,st=>bif bd 1000000 t then vX r {st with env:=LF st.sto (t-1000000) st.env} else vX r st
def vY (e:SE):List (Nat×Option Nat)->Bool
 | []=>true
 |(s,_)::r=>(DL s e).sure&&vY e r
def BS (e:SE):List (Nat×Option Nat)->List Nat
 | []=>[]
 |(s,_)::r=>J3 mA (DL s e)++BS e r
def J5:List SB->Nat->List Nat
 |b::r,n+1=>BP b++J5 r n
 |_,_=>[]
def BT:List SB->Nat->Bool
 |b::r,n+1=>sF b&&BT r n
 |_,_=>true
def BU (rk:List (Nat×List PT)) (live:List (Nat×Option Nat)) (st:kG):Option kG:=
 bif vY st.env live&&BT st.sto st.kn then
  match yA st.sto 4096 (J5 st.sto st.kn++BS st.env live) (nF st.kn) with
  |none=>none
  |some m=>match DO st.sto m m,pV rk st.env m m.length live with
   |some s1,some (e1,s2)=>some (vX live (gQ rk live {env:=e1,sto:=s1++s2,fz:=qF st.fz 0 m,kn:=st.kn}))
   |_,_=>none
 else none
def BV (rk:List (Nat×List PT)) (live:List (Nat×Option Nat)) (st:kG):Option kG:=
 match BU rk live st with
 |some s=>bif live.any fun p=>p.2.isSome then BU rk live s else some s
 |none=>none
inductive AK where
 |i
 |b
 |n
 |l (r:List PT)
 |s
@[reducible] def AK.T : AK -> Type
  | .i => Int
  | .b => Bool
  | .n => Nat
  | .l r => List (RT r)
  | .s => List (List Int)
@[reducible] def fJ : List AK -> Type
  | [] => Unit
  | [a] => a.T
  | a :: q :: r => a.T × fJ (q :: r)
inductive qD where
 |i (n:Int)
 |b (x:Bool)
 |n (x:Nat)
 |l (r:List PT) (x:List (RT r))
 |s (x:List (List Int))
def qD.k:qD->AK
 | .i _=> .i
 | .b _=> .b
 | .n _=> .n
 | .l r _=> .l r
 | .s _=> .s
def AK.at:(a:AK)->a.T->qD
 | .i,x=> .i x
 | .b,x=> .b x
 | .n,x=> .n x
 | .l r,x=> .l r x
 | .s,x=> .s x
def AK.of:(a:AK)->qD->Option a.T
 | .i,.i x=>some x
 | .b,.b x=>some x
 | .n,.n x=>some x
 | .l r,.l q x=>lN q r x
 | .s,.s x=>some x
 |_,_=>none
def hJ:(ks:List AK)->fJ ks->List qD
 | [],_=>[]
 | [a],x=>[a.at x]
 |a::q::r,x=>a.at x.1::hJ (q::r) x.2
def kP:(ks:List AK)->List qD->Option (fJ ks)
 | [],[]=>some ()
 | [a],[x]=>a.of x
 |a::q::r,x::xs=>match a.of x,kP (q::r) xs with
  |some y,some ys=>some (y,ys)
  |_,_=>none
 |_,_=>none
mutual
def yB:SV->List qD
 | .int _ n=>[.i n]
 | .bool b=>[.b b]
 | .agg cs=>atsL cs
 | .tup cs=>atsL cs
 | .sl r l=>[.l r l]
 | .pre _ len cap _=>[.n len,.n cap]
 | .part _ off len cap _=>[.n off,.n len,.n cap]
 | .pb _ i _=>[.i i]
 | .rptr cs _=>atsL cs
 | .clo _ a b=>atsL a++atsL b
 |_=>[]
def atsL:List SV->List qD
 | []=>[]
 |x::xs=>yB x++atsL xs
end
def PJ:SB->List qD
 | .arr r l=>[.l r l]
 | .box cs=>atsL cs
 | .set l=>[.s l]
 | .tab p l=>[.l [.i .i64,p] l]
 | .dead=>[]
def FP:List SB->List qD
 | []=>[]
 |b::r=>PJ b++FP r
def NO:SE->List qD
 | []=>[]
 |(_,v)::r=>yB v++NO r
def pW (st:kG):List qD:=NO st.env++FP st.sto
mutual
def pX:SV->SV->Bool
 | .undef,.undef=>true
 | .nul,.nul=>true
 | .nilf,.nilf=>true
 | .int k _,.int l _=>cX k l
 | .bool _,.bool _=>true
 | .agg a,.agg b=>likeL a b
 | .tup a,.tup b=>likeL a b
 | .sl r _,.sl q _=>vW r q
 | .nil e c,.nil f d=>af e f&&c==d
 | .own t x,.own u y=>af t u&&x==y
 | .pre t _ _ x,.pre u _ _ y=>af t u&&x==y
 | .part t _ _ _ x,.part u _ _ _ y=>af t u&&x==y
 | .pb t _ o,.pb u _ p=>af t u&&af o p
 | .bp t n o,.bp u m p=>af t u&&af n m&&af o p
 | .rptr a o,.rptr b p=>likeL a b&&af o p
 | .clo f a b,.clo g c d=>af f g&&likeL a c&&likeL b d
 | .mp t,.mp u=>af t u
 |_,_=>false
def likeL:List SV->List SV->Bool
 | [],[]=>true
 |x::xs,y::ys=>pX x y&&likeL xs ys
 |_,_=>false
end
def aBT:SB->SB->Bool
 | .arr r _,.arr q _=>vW r q
 | .box a,.box b=>likeL a b
 | .set _,.set _=>true
 | .tab p _,.tab q _=>p.same q
 | .dead,.dead=>true
 |_,_=>false
def BW:List SB->List SB->Bool
 | [],[]=>true
 |x::xs,y::ys=>aBT x y&&BW xs ys
 |_,_=>false
def LG:SE->SE->Bool
 | [],[]=>true
 |(t,x)::xs,(u,y)::ys=>af t u&&pX x y&&LG xs ys
 |_,_=>false
def LH:List Nat->List Nat->Bool
 | [],[]=>true
 |x::xs,y::ys=>af x y&&LH xs ys
 |_,_=>false
def BX (a b:kG):Bool:=LG a.env b.env&&BW a.sto b.sto&&LH a.fz b.fz&&af a.kn b.kn
mutual
def mD:SV->List qD->SV×List qD
 | .int k _,.i n::q=>(.int k n,q)
 | .bool _,.b x::q=>(.bool x,q)
 | .agg cs,q=>(.agg (putL cs q).1,(putL cs q).2)
 | .tup cs,q=>(.tup (putL cs q).1,(putL cs q).2)
 | .sl _ _,.l r l::q=>(.sl r l,q)
 | .pre t _ _ x,.n len:: .n cap::q=>(.pre t len cap x,q)
 | .part t _ _ _ x,.n off:: .n len:: .n cap::q=>(.part t off len cap x,q)
 | .pb t _ o,.i i::q=>(.pb t i o,q)
 | .rptr cs o,q=>(.rptr (putL cs q).1 o,(putL cs q).2)
 | .clo f a b,q=>(.clo f (putL a q).1 (putL b (putL a q).2).1,(putL b (putL a q).2).2)
 |v,q=>(v,q)
def putL:List SV->List qD->List SV×List qD
 | [],q=>([],q)
 |x::xs,q=>((mD x q).1::(putL xs (mD x q).2).1,(putL xs (mD x q).2).2)
end
def J6:SB->List qD->SB×List qD
 | .arr _ _,.l r l::q=>(.arr r l,q)
 | .box cs,q=>(.box (putL cs q).1,(putL cs q).2)
 | .set _,.s l::q=>(.set l,q)
 | .tab _ _,.l [.i .i64,p] l::q=>(.tab p l,q)
 |b,q=>(b,q)
def uN:List SB->List qD->List SB×List qD
 | [],q=>([],q)
 |b::r,q=>((J6 b q).1::(uN r (J6 b q).2).1,(uN r (J6 b q).2).2)
def HJ:SE->List qD->SE×List qD
 | [],q=>([],q)
 |(t,v)::r,q=>((t,(mD v q).1)::(HJ r (mD v q).2).1,(HJ r (mD v q).2).2)
def tH (st:kG) (q:List qD):kG:={st with env:=(HJ st.env q).1,sto:=(uN st.sto (HJ st.env q).2).1}
def aCg:List qD->List AK
 | []=>[]
 |a::r=>a.k::aCg r
def ptK {β:Type 1} (p:PT) (c:PT->β):β:=
 match p with
 | .i k=>c (.i k)
 | .b=>c .b
def rK {β:Type 1}:List PT->(List PT->β)->β
 | [],c=>c []
 |p::r,c=>ptK p fun p=>rK r fun r=>c (p::r)
def ksK {β:Type 1}:List AK->(List AK->β)->β
 | [],c=>c []
 | .i::r,c=>ksK r fun r=>c (.i::r)
 | .b::r,c=>ksK r fun r=>c (.b::r)
 | .n::r,c=>ksK r fun r=>c (.n::r)
 | .l q::r,c=>rK q fun q=>ksK r fun r=>c (.l q::r)
 | .s::r,c=>ksK r fun r=>c (.s::r)
mutual
def lO:SV->Option PV
 | .int k n=>some (.int k n)
 | .bool b=>some (.bool b)
 | .str x=>some (.str x)
 | .nilf=>some .nilf
 | .agg cs=>match pvL cs with|some l=>some (.agg l)|none=>none
 | .tup cs=>match pvL cs with|some l=>some (.tup l)|none=>none
 | .sl r l=>some (.sl r.length false (l.map (RT.pv r)))
 | .nil e c=>some (.sl e c [])
 | .rptr cs off=>match pvL cs with|some l=>some (.rptr l off)|none=>none
 | .clo f a b=>match pvL a,pvL b with
  |some x,some y=>some (.clo f x y)
  |_,_=>none
 |_=>none
def pvL:List SV->Option (List PV)
 | []=>some []
 |x::xs=>match lO x,pvL xs with
  |some y,some ys=>some (y::ys)
  |_,_=>none
end
structure bG (α:Type) where
 enc:α->List SV
 dec:List SV->Option (α×List SV)
 law: ∀{vs:List SV} {a:α} {rest:List SV} {ps:List PV},dec vs=some (a,rest)->pvL vs=some ps-> ∃p q,ps=p++q/\pvL (enc a)=some p/\pvL rest=some q
structure aE (α:Type) where
 enc:α->SV
 dec:SV->Option α
 law: ∀{v:SV} {a:α} {p:PV},dec v=some a->lO v=some p->lO (enc a)=some p
structure aC (α:Type) where
 enc:α->List SV
 dec:List SV->Option α
 law: ∀{vs:List SV} {a:α} {ps:List PV},dec vs=some a->pvL vs=some ps->pvL (enc a)=some ps
inductive Kd where
 |pure
 |frz
 |own
structure aU where
 {α β:Type}
 args:aC α
 res:aE β
 fn:α->Option β
 kd:Kd
 ow:Bool
structure bV where
 ka:List AK
 ta:List SV
 tb:List SB
 ko:List AK
 tv:SV
 to:List SB
 fn:fJ ka->Option (fJ ko)
def HK:(p:PT)->PV->Option p.T
 | .i k,.int l n=>bif cX l k then some n else none
 | .b,.bool x=>some x
 |_,_=>none
def PK:(r:List PT)->List PV->Option (RT r)
 | [],[]=>some ()
 | [p],[v]=>HK p v
 |p::q::r,v::vs=>match HK p v,PK (q::r) vs with
  |some a,some b=>some (a,b)
  |_,_=>none
 |_,_=>none
def HL (r:List PT):List (List PV)->Option (List (RT r))
 | []=>some []
 |x::xs=>match PK r x,HL r xs with
  |some a,some l=>some (a::l)
  |_,_=>none
structure Srt where
 r:List PT
 g:Option FuncId
 fn:List (RT r)->Option (List (RT r))
def aGS:Option FuncId->List PV->Bool
 |none,[]=>true
 |some g,[.clo h [] []]=>af h g
 |_,_=>false
def aCh (q:Srt) (args:List PV) (sto:bI) (fz:List Nat):Option (PV×bI×List Nat):=
 match args with
 | .own t e off len _ _::r=>match sto[t]? with
  |some (.arr e1 rows)=>if af e q.r.length&&af off 0&&bd len rows.length&&bd len gP&&!has fz t&&aGS q.g r then
   (match HL q.r (rows.take len) with
   |some l=>match q.fn l with
    |some m=>if af m.length l.length then some (.tup [],sto.set t (.arr e1 (m.map (RT.pv q.r)++rows.drop len)),fz) else none
    |none=>none
   |none=>none) else none
  |_=>none
 |_=>none
inductive Cd where
 |code (x:aG)
 |ins (esz:Nat)
 |srt (q:Srt)
 |cat
instance:Coe aG Cd:=⟨.code⟩
def Cd.ent:Cd->Ent
 | .code x=> .code x
 | .ins n=> .shp (E6 n)
 | .srt q=> .shp (aCh q)
 | .cat=> .shp aB8
structure OK where
 lp:Option Nat
 con:FuncId->List aU
 fpc:FuncId->List bV
 code:FuncId->Option Cd
 rk:List (Nat×List PT)
inductive XRS where
 |loc (r:dA)
 |shr (v:SV) (s:List SB) (z:List Nat)
def SV.hasPtr:SV->Bool
 | .own .. | .pre .. | .part .. | .pa .. | .pb .. | .bp .. | .mp .. =>true
 |_=>false
def anyPtr:List SV->Bool
 | []=>false
 |x::xs=>x.hasPtr||anyPtr xs
mutual
def RW (ts:List Nat):SV->SV
 | .pa t r i a off=>bif has ts t then .pb t i off else .pa t r i a off
 | .agg cs=> .agg (dgL ts cs)
 | .tup cs=> .tup (dgL ts cs)
 | .rptr cs off=> .rptr (dgL ts cs) off
 | .clo f a b=> .clo f (dgL ts a) (dgL ts b)
 |v=>v
def dgL (ts:List Nat):List SV->List SV
 | []=>[]
 |x::xs=>RW ts x::dgL ts xs
end
def dgE (ts:List Nat):SE->SE
 | []=>[]
 |(t,v)::r=>(t,RW ts v)::dgE ts r
def SD (ts:List Nat):SB->SB
 | .box cs=> .box (dgL ts cs)
 |b=>b
def xG (ts:List Nat):List SB->List SB
 | []=>[]
 |b::r=>SD ts b::xG ts r
def PL:List SB->Nat->SB->List SB
 | [],_,_=>[]
 |_::r,0,b=>b::r
 |x::r,n+1,b=>x::PL r n b
def kQ:List (Nat×SB)->List SB->List SB
 | [],s=>s
 |(t,b)::r,s=>kQ r (PL s t b)
def qW:List (Nat×SB)->List Nat
 | []=>[]
 |(t,_)::r=>t::qW r
def FQ (d:Option Nat) (v:SV) (e:SE):SE:=
 match d with
 |some t=>(t,v)::e
 |none=>e
def apS:List SB->List SB->List SB
 | [],l=>l
 |b::r,l=>b::apS r l
def dA.next (d:Option Nat) (st:kG) (r:dA):kG:=
 match r.wr with
 | []=>{env:=FQ d r.v st.env,sto:=apS st.sto r.news,fz:=r.fr++st.fz,kn:=st.kn}
 |w=>{env:=FQ d r.v (dgE (qW w) st.env),sto:=apS (xG (qW w) (kQ w st.sto)) r.news,fz:=r.fr++st.fz,kn:=st.kn}
def dA.ok (z:List Nat) (r:dA):Bool:=(qW r.wr).all fun t=>!has z t
def dA.tr (nx:Nat) (r:dA):Tr:=
 ⟨r.rd++r.fr,qW r.wr,!r.news.isEmpty,false,(r.rd++r.fr).all (bw · nx)&&(qW r.wr).all (bw · nx),nx,nx+r.news.length⟩
def PM:Tr:=⟨[],[],true,true,true,0,0⟩
def jV {R:Type}:List SB->List SB->dF R->dF R
 | [],_,k=>k
 |x::xs,y::ys,k=>match x with
  | .arr r l=>match y with
   | .arr q m=>bif vW r q then dJ (m.length==l.length) (jV xs ys k) aJ else aJ
   | .dead=>jV xs ys k
   |_=>aJ
  | .dead=>match y with
   | .dead=>jV xs ys k
   |_=>aJ
  | .box _=>match y with
   | .box _=>jV xs ys k
   | .dead=>jV xs ys k
   |_=>aJ
  |_=>jV xs ys k
 |_,_,_=>aJ
abbrev SF:=FuncId->List SV->List SB->List Nat-> ∀R:Type,(SV->List SB->List Nat->dF R)->dF R
section
variable {R : Type}
def aGT (_:FuncId) (_:List SV):dF R:=aJ
def aIF (_:FuncId) (_:List SV) (_:List SB):dF R:=aJ
def J7 (f:FuncId) (m:Bool) (s:List SB) (tk:List Nat) (vs:List SV) (k:XRS->dF R):List aU->dF R
 | []=>aGT f vs
 |c::r=>match c.args.dec vs with
  |some a=>bif m==c.ow then gA (c.fn a) fun b=>match c.kd with
   | .pure=>k (.loc {v:=c.res.enc b,rd:=tk})
   | .frz=>k (.loc {v:=c.res.enc b,rd:=tk,fr:=tk})
   | .own=>k (.loc {v:=(qV s.length (c.res.enc b)).1,news:=(qV s.length (c.res.enc b)).2,rd:=tk}) else J7 f m s tk vs k r
  |none=>J7 f m s tk vs k r
mutual
def HM (g:Nat->Nat):SV->SV
 | .agg cs=> .agg (backL g cs)
 | .tup cs=> .tup (backL g cs)
 | .own t ex=> .own (g t) ex
 | .pre t len cap ex=> .pre (g t) len cap ex
 | .part t off len cap ex=> .part (g t) off len cap ex
 | .pa t _ i _ off=> .pb (g t) i off
 | .pb t i off=> .pb (g t) i off
 | .bp t n off=> .bp (g t) n off
 | .rptr cs off=> .rptr (backL g cs) off
 | .mp t=> .mp (g t)
 | .clo f a b=> .clo f (backL g a) (backL g b)
 |v=>v
def backL (g:Nat->Nat):List SV->List SV
 | []=>[]
 |x::xs=>HM g x::backL g xs
end
def PN (g:Nat->Nat):SB->SB
 | .box cs=> .box (backL g cs)
 |b=>b
def tI (g:Nat->Nat):List Nat->List SB->List (Nat×SB)
 |t::r,b::s=>(t,PN g b)::tI g r s
 |_,_=>[]
def aBV (k:Nat) (v:SV) (s:List SB):Bool:=(J3 mA v++s.flatMap BP).all fun t=>bw t k
def fpS (f : FuncId) (n : Nat) (tk : List Nat) (vs : List SV) (s0 : List SB) (k : XRS -> dF R) : List bV -> dF R
  | [] => aIF f vs s0
  | c :: r => bif likeL c.ta vs && BW c.tb s0 then (match kP c.ka (atsL vs ++ FP s0) with
      | some a => gA (c.fn a) fun b =>
          k (.loc { v := HM (fM tk n) (mD c.tv (hJ c.ko b)).1, wr := tI (fM tk n) tk (uN c.to (mD c.tv (hJ c.ko b)).2).1 })
      | none => fpS f n tk vs s0 k r) else fpS f n tk vs s0 k r
def D9 (cx:OK) (inl:SF) (e:SE) (s:List SB) (z:List Nat) (op:fX) (k:XRS->dF R):dF R:=
 match op with
 | .call m f args=>match m with
  | .pur=>match exVL s (fS s cE) (fB e args) with
   |some vs=>J7 f false s (tkVL (qB s cE) (fB e args)) vs k (cx.con f)
   |none=>aJ
  | .own=>match exVL s (fS s cE) (fB e args) with
   |some vs=>J7 f true s (tkVL (qB s cE) (fB e args)) vs k (cx.con f)
   |none=>aJ
  | .shr=>inl f (fB e args) s z R fun v s' z'=>k (.shr v s' z')
  | .fp=>match J2 s (fS s cE) (fB e args) with
   |false=>aJ
   |true=>let tk:=jH (tkVL (qB s cE) (fB e args))
    bif tk.all (fun t=>!has z t) then (match renVL tk (fB e args),DO s tk tk with
     |some vs,some s0=>fpS f s.length tk vs s0 k (cx.fpc f)
     |_,_=>aJ) else aJ
 | .callv x args=>match aZ e x with
  | .clo f a b=>bif anyPtr (fB e args++b) then inl f (a++fB e args++b) s z R fun v s' z'=>k (.shr v s' z')
   else match exVL s (fS s cE) (a++fB e args++b) with
   |some vs=>J7 f false s (tkVL (qB s cE) (a++fB e args++b)) vs k (cx.con f)
   |none=>aJ
  |_=>aJ
 |op=>gW e s z op fun r=>k (.loc r)
def LJ (d:Option Nat) (st:kG) (tr:List Tr) (k:kG->List Tr->dF R) (x:XRS):dF R:=
 match x with
 | .loc r=>bif r.ok st.fz then R9 r.v fun v=>k ({r with v}.next d st) (r.tr st.sto.length::tr) else aJ
 | .shr v s z=>R9 v fun v=>jV st.sto s (bif st.fz.all (has z) then k {env:=FQ d v (dgE (nF st.sto.length) st.env),sto:=s,fz:=z,kn:=st.kn} (PM::tr) else aJ)
def jM (cx:OK) (inl:SF):List aY->kG->List Tr->(kG->List Tr->dF R)->dF R
 | [],st,tr,k=>k st tr
 |o::r,st,tr,k=>
  let run:=fun st:kG=>match o.op with
   | .pick (.t c) a b=>match DL c st.env with
    | .bool x=>dJ x (LJ o.dst {st with env:=setS c (.bool true) st.env} tr (jM cx inl r · · k) (.loc {v:=aZ st.env a}))
     (LJ o.dst {st with env:=setS c (.bool false) st.env} tr (jM cx inl r · · k) (.loc {v:=aZ st.env b}))
    |_=>aJ
   |op=>D9 cx inl st.env st.sto st.fz op (LJ o.dst st tr (jM cx inl r · · k))
  let skip:=fun st:kG=>jM cx inl r {st with env:=FQ o.dst .nul st.env} (Tr.idle::tr) k
  match o.guard with
  |none=>run st
  |some (s,want)=>match DL s st.env with
   | .bool x=>bif want then dJ x (run {st with env:=setS s (.bool true) st.env}) (skip {st with env:=setS s (.bool false) st.env})
    else dJ x (skip {st with env:=setS s (.bool true) st.env}) (run {st with env:=setS s (.bool false) st.env})
   | .nul=>skip st
   |_=>aJ
def HN (e:SE):List Nat->(SE->dF R)->dF R
 | [],k=>k []
 |s::r,k=>R9 (DL s e) fun v=>HN e r fun e'=>k ((s,v)::e')
noncomputable def vZ (cx:OK) (inl:SF):(c:fG)->(R:Type)->kG->(dV->kG->dF R)->dF R
 | .skip,_,st,k=>k .normal st
 | .region d ops keep,_,st,k=>jM cx inl ops st [] fun st' tr=>
  let fin:=HN st'.env keep fun e=>k .normal {st' with env:=e}
  match d with
  |none=>fin
  |some bf=>match lA 0 (tr.reverse.zip bf) with
   |true=>fin
   |false=>aJ
 | .seq a b,R,st,k=>vZ cx inl a R st fun e st'=>match e with
  | .normal=>vZ cx inl b R st' k
  |e=>k e st'
 | .cond c a b,R,st,k=>match aZ st.env c with
  | .bool x=>dJ x (vZ cx inl a R st k) (vZ cx inl b R st k)
  |_=>aJ
 | .block id b,R,st,k=>vZ cx inl b R st fun e st'=>match e with
  | .exit j=>bif af j id then k .normal st' else k (.exit j) st'
  |e=>k e st'
 | .loop live b,_,st,k=>match BV cx.rk live st with
  |none=>aJ
  |some st1=>ksK (aCg (pW st1)) fun ks=>match kP ks (pW st1) with
   |none=>aJ
   |some y0=>fun ρ w=>aBM cx.lp (fun y:fJ ks=>vZ cx inl b (bB (fJ ks) ρ) (tH st1 (hJ ks y)) (fun e st2=>match e with
    | .normal=>match BV cx.rk live st2 with
     |some st3=>bif BX st1 st3 then (match kP ks (pW st3) with
      |some y'=>D6 (.next y')
      |none=>aJ) else aJ
     |none=>aJ
    |e=>fun ρ' w'=>k e st2 ρ' fun r=>w' (.done (w r))) (bB (fJ ks) ρ) fun z=>z) y0
 | .exit id,_,st,k=>k (.exit id) st
 | .ret,_,st,k=>k .ret st
def J8 (st:kG):RV->Option SV
 | .tmp t=>some (DL t st.env)
 | .cell t agg=>match DL t st.env with
  | .bp t _ off=>match nth st.sto t with
   |some (.box cs)=>tF agg off cs
   |_=>none
  | .rptr cs off=>tF agg off cs
  |_=>none
def sG (st:kG):List RV->Option (List SV)
 | []=>some []
 |r::rs=>match J8 st r,sG st rs with
  |some v,some vs=>some (v::vs)
  |_,_=>none
def yC:List SV->SV
 | [v]=>v
 |vs=> .tup vs
def J9:Nat->List SV->SE
 |_,[]=>[]
 |i,v::r=>(i,v)::J9 (i+1) r
noncomputable def HO (cx:OK) (inl:SF) (x:aG) (R:Type) (args:List SV) (s:List SB) (z:List Nat) (k:SV->List SB->List Nat->dF R):dF R:=
 bif af args.length x.nargs then vZ cx inl x.code R {env:=J9 0 args,sto:=s,fz:=z,kn:=s.length} fun e st=>match e with
  | .exit _=>aJ
  |_=>match sG st x.res with
   |some vs=>k (yC vs) st.sto st.fz
   |none=>aJ
 else aJ
def dA.stoOf (s:List SB) (r:dA):List SB:=
 match r.wr with
 | []=>apS s r.news
 |w=>apS (xG (qW w) (kQ w s)) r.news
def zD:Option FuncId->List SV->Bool
 |none,[]=>true
 |some g,[.clo h [] []]=>af h g
 |_,_=>false
structure aGU where
 t:Nat
 r:List PT
 l:List (RT r)
 i:Int
 m:List (RT r)
def SG (esz:Nat) (args:List SV) (s:List SB) (z:List Nat):Option aGU:=
 match args with
 | [.own t _,.int .i64 i,.own u _]=>match nth s t with
  |some (.arr r l)=>match nth s u with
   |some (.arr q m)=>match lN q r m with
    |some m=>bif af r.length esz&&!Nat.beq t u&&!has z t then some ⟨t,r,l,i,m⟩ else none
    |none=>none
   |_=>none
  |_=>none
 |_=>none
def aCj (esz:Nat) (args:List SV) (s:List SB) (z:List Nat) (k:SV->List SB->List Nat->dF R):dF R:=
 match SG esz args s z with
 |some a=>gA (AL a.l a.i a.m) fun l'=>k (.own s.length false) (dA.stoOf s {v:= .own s.length false,news:=[.arr a.r l'],wr:=[(a.t,.dead)]}) z
 |none=>aJ
structure aGV where
 t:Nat
 r:List PT
 l:List (RT r)
 m:List (RT r)
def SH (args:List SV) (s:List SB) (z:List Nat):Option aGV:=
 match args with
 | [.part t off len _ _]=>match nth s t with
  |some (.box [.sl r l,.sl q m])=>match lN q r m with
   |some m=>bif af r.length 1&&af off 0&&af len 2&&!has z t then some ⟨t,r,l,m⟩ else none
   |none=>none
  |_=>none
 |_=>none
def aCk (args:List SV) (s:List SB) (z:List Nat) (k:SV->List SB->List Nat->dF R):dF R:=
 match SH args s z with
 |some a=>gA (aCe a.l a.m) fun l'=>k (.own s.length false) (dA.stoOf s {v:= .own s.length false,news:=[.arr a.r l'],wr:=[(a.t,.dead)]}) z
 |none=>aJ
def SI (r:List PT) (g:Option FuncId) (args:List SV) (s:List SB) (z:List Nat):Option (Nat×Option Nat×List (RT r)):=
 match args with
 | .own t _::a=>match nth s t with
  |some (.arr q l)=>match lN q r l with
   |some l=>bif !has z t&&zD g a then some (t,none,l) else none
   |none=>none
  |_=>none
 | .pre t len _ _::a=>match nth s t with
  |some (.arr q l)=>match lN q r l with
   |some l=>bif !has z t&&zD g a then some (t,some len,l) else none
   |none=>none
  |_=>none
 |_=>none
def aCl (q:Srt) (args:List SV) (s:List SB) (z:List Nat) (k:SV->List SB->List Nat->dF R):dF R:=
 match SI q.r q.g args s z with
 |some (t,none,l)=>gA (BM q.fn l) fun m=>k (.tup []) (dA.stoOf s {v:= .tup [],wr:=[(t,.arr q.r m)]}) z
 |some (t,some len,l)=>gA (FL q.fn len l) fun m=>k (.tup []) (dA.stoOf s {v:= .tup [],wr:=[(t,.arr q.r m)]}) z
 |none=>aJ
noncomputable def PO (cx:OK):Nat->SF
 |0=>fun _ _ _ _ _ _=>aJ
 |n+1=>fun f args s z R k=>match cx.code f with
  |some (.code x)=>HO cx (PO cx n) x R args s z k
  |some (.ins e)=>aCj e args s z k
  |some (.srt q)=>aCl q args s z k
  |some .cat=>aCk args s z k
  |none=>aJ
def PP (kd:Kd) {β:Type} (res:aE β) (v:SV) (s:List SB) (z:List Nat):dF β:=
 match kd with
 | .pure=>bif uM v then gI (res.dec v) D6 else aJ
 | .frz=>bif uM v then aJ else gI (PH s v) fun u=>gI (res.dec u) D6
 | .own=>gI (NN s z [] v) fun u=>gI (res.dec u.1) D6
noncomputable def aBW (cx:OK) (x:aG) {α β:Type} (args:aC α) (res:aE β) (kd:Kd) (a:α):Option β:=
 HO cx (PO cx 8) x β (args.enc a) [] [] (PP kd res) β fun b=>b
def BY:List SB->Bool
 | []=>true
 |b::r=>sF b&&BY r
def wA {R:Type}:List SB->List SB->dF R->dF R
 | [],[],k=>k
 |x::xs,y::ys,k=>match x with
  | .arr r l=>match y with
   | .arr q m=>bif vW r q then dJ (m.length==l.length) (wA xs ys k) aJ else aJ
   |_=>aJ
  | .dead=>match y with
   | .dead=>wA xs ys k
   |_=>aJ
  | .box _=>match y with
   | .box _=>wA xs ys k
   |_=>aJ
  | .set _=>match y with
   | .set _=>wA xs ys k
   |_=>aJ
  | .tab _ _=>match y with
   | .tab _ _=>wA xs ys k
   |_=>aJ
 |_,_,_=>aJ
noncomputable def aIG (wd:Bool) (cx:OK) (x:aG) (ka:List AK) (ta:List SV) (tb:List SB) (ko:List AK) (tv:SV) (to:List SB) (a:fJ ka):Option (fJ ko):=
 HO cx (PO cx 8) x (fJ ko) (putL ta (hJ ka a)).1 (uN tb (putL ta (hJ ka a)).2).1 [] (fun v s z=>match z with
  | []=>let u:=bif wd then D8 s v else v
   let s1:=s.take tb.length
   bif pX tv u&&BW to s1&&aBV tb.length u s1&&u.sure&&BY s1 then wA (uN tb (putL ta (hJ ka a)).2).1 s1 (gI (kP ko (yB u++FP s1)) D6) else aJ
  |_=>aJ) (fJ ko) fun b=>b
end
end Go.Vm
