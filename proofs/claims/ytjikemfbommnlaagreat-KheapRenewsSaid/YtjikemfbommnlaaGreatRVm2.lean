/- The logical machine, part 2: VmCall3, VmFp, VmRun, VmInv, VmStep, VmShr, VmOp, VmReg, VmReg2, VmNorm, VmNorm2, VmCode, VmSound, VmPrim, VmTab, VmLaw, VmSym, SvBase, SvDef, SvCod, SvRel. -/
import Derived.Test.YtjikemfbommnlaaGreatRVm1
import Derived.Orders
import Derived.Laws.Sem
import Derived.Laws.Externs
import Derived.Lib.SliceRun
import Derived.ProofKit
import Derived.Carry
import Derived.OpenShut
import Derived.Deep.Slices
import Derived.Deep.Grids
/- A pure call, whole. -/
namespace Go.Vm
structure FPost (im:Im) (loc:Loc) (sto:Sto) (w:World) (v:PV) (sto':Sto) (fz':List Nat) (im':Im) (loc':Loc) (w':World) (u:Value):Prop where
 imle:ImLe im im'
 locle:LocLe loc loc'
 vr:VR im' loc' v u
 sr:SR im' loc' sto' fz' w'
 os:w'.os=w.os
 tape:w'.tape=w.tape
 output:w'.output=w.output
 size:w.heap.size<=w'.heap.size
 frame: ∀b,b<w.heap.size->(∀t li k,loc t=some li->sto[t]? =some k->k.solid=true->li.blk≠b)->w'.heap[b]? =w.heap[b]?
 imnew: ∀b o,im' b=some o->im b=some o\/w.heap.size<=b\/ ∃t li k,loc t=some li/\sto[t]? =some k/\k.solid=true/\li.blk=b
 locs: ∀t li,loc' t=some li->loc t=some li\/sto.length<=t
 own: ∀t li k,loc' t=some li->sto'[t]? =some k->k.solid=true->(w.heap.size<=li.blk\/ ∃u lu ku,loc u=some lu/\sto[u]? =some ku/\ku.solid=true/\lu.blk=li.blk)
def CallTo (P:Program) (f:FuncId) (us:Array Value) (w:World) (R:Value->World->Prop):Prop:=
 (∃v w',(callFunc f us).run P w= .ok (.value v) w'/\R v w')\/
 ((callFunc f us).run P w= .ok (.enter f us) w/\Calls P f us w fun e w'=> ∃v,e= .returned v/\R v w')
theorem CallTo.mono {P:Program} {f:FuncId} {us:Array Value} {w:World} {R R':Value->World->Prop} (h:CallTo P f us w R) (hr: ∀v w',R v w'->R' v w'):CallTo P f us w R':=by
 rcases h with ⟨v,w',h1,h2⟩|⟨h1,h2⟩
 · exact .inl ⟨v,w',h1,hr _ _ h2⟩
 · exact .inr ⟨h1,h2.mono fun e w' ⟨v,he,hv⟩=>⟨v,he,hr _ _ hv⟩⟩
def FuncOK (P : Program) (rec : Task -> Option Out) : Prop :=
  ∀ (f : FuncId) (args : List PV) (sto : Sto) (fz : List Nat) (v : PV) (sto' : Sto) (fz' : List Nat), rec (.func f args sto fz) = some (.func v sto' fz') ->
    ∀ (im : Im) (loc : Loc) (w : World) (us : List Value), SR im loc sto fz w -> VRL im loc args us ->
      CallTo P f ⟨us⟩ w fun u w' => ∃ im' loc', FPost im loc sto w v sto' fz' im' loc' w' u
def PrimOK (P : Program) (f : FuncId) (p : List PV -> Option (PV × Sto)) : Prop :=
  ∀ (args : List PV) (v : PV) (news : Sto), p args = some (v, news) -> ∀ (im : Im) (w : World) (us : List Value), SR im noLoc [] [] w -> VRL im noLoc args us ->
    CallTo P f ⟨us⟩ w fun u w' => ∃ im' loc', FPost im noLoc [] w v news [] im' loc' w' u
def PrimsOK (P:Program) (F:Tab):Prop:= ∀f k p,F f=some (.prim k p)->k=false/\PrimOK P f p
section
variable {P : Program} {F : Tab} {rec : Task -> Option Out} {im : Im} {loc : Loc} {sto : Sto} {w : World}
theorem SR.empty (h: ∀b o,im b=some o->w.heap[b]? =some o):SR im noLoc [] [] w where
 im_ok:=h
 blk:=fun t li h=>by cases h
 excl:=fun t u li lj k k' h=>by cases h
 free:=fun t li k h=>by cases h
theorem eff_noref {r:Res} {v:PV} {u:Value} {sto1:Sto} {fz1:List Nat} {im0 im1:Im} {loc1:Loc} {w1:World} (hk:Known im loc sto w r) (hr:r.v=v) (hn:r.news=[]) (hw:r.wr=[]) (hno:v.noref=true)
 (hp:FPost im0 noLoc [] w v sto1 fz1 im1 loc1 w1 u): ∃im' loc',VR im' loc' r.v u/\Eff im loc sto w r im' loc' w1:=by
 refine ⟨im,loc,by rw [hr];exact noref_ok hno hp.vr,?_⟩
 have hfr: ∀b,b<w.heap.size->w1.heap[b]? =w.heap[b]?:=fun b hb=>hp.frame b hb fun t li k h=>by cases h
 exact {
  imle:= .refl _,locle:= .refl _
  im_ok:=fun b o h=>by
   have h1:=hk.im_ok b o h;have hlt:b<w.heap.size:=(Array.getElem?_eq_some_iff.1 h1).1;rw [hfr b hlt];exact h1
  imnew:=fun _ _ h=> .inl h
  os:=hp.os,tape:=hp.tape,output:=hp.output,size:=hp.size
  frame:=fun b hb _=>hfr b hb
  wrs:=fun t k h=>by rw [hw] at h;cases h
  wr:=fun t k li h=>by rw [hw] at h;cases h
  locnew:=fun _ _ h=> .inl h
  news:=fun j k li h=>by rw [hn] at h;simp at h
  distinct:=fun i j ki kj li lj h=>by rw [hn] at h;simp at h}
theorem eff_froz {r:Res} {v v':PV} {u:Value} {sto1:Sto} {fz1 tk:List Nat} {im1:Im} {loc1:Loc} {w1:World} (hr:r.v=v') (hn:r.news=[]) (hw:r.wr=[]) (hf:r.fr=tk)
 (hp:FPost (grow im w (blksOf loc sto tk)) noLoc [] w v sto1 fz1 im1 loc1 w1 u) (hi:imF sto1 v=some v'): ∃im' loc',VR im' loc' r.v u/\Eff im loc sto w r im' loc' w1:=by
 have hfr: ∀b,b<w.heap.size->w1.heap[b]? =w.heap[b]?:=fun b hb=>hp.frame b hb fun t li k h=>by cases h
 let im2:Im:=fun b=>match im1 b with
  |some o=>some o
  |none=>if (blksOf loc1 sto1 (toks noBx v)).contains b&&Nat.ble w.heap.size b then w1.heap[b]? else none
 have hle:ImLe im1 im2:=fun b o h=>by simp only [im2,h]
 have hok: ∀b o,im2 b=some o->w1.heap[b]? =some o:=by
  intro b o h;simp only [im2] at h;split at h
  · rename_i o' ho;injection h with h;subst h;exact hp.sr.im_ok b _ ho
  · split at h
    · exact h
    · cases h
 have hover: ∀t,t∈toks noBx v->Over im1 im2 loc1 sto1 w1 t:=by
  intro t ht li hl;obtain ⟨k,hk1,hbr⟩:=hp.sr.blk t li hl;refine ⟨k,hk1,hbr,fun hs=>?_⟩
  have hge:w.heap.size<=li.blk:=by
   rcases hp.own t li k hl hk1 hs with h|⟨u,lu,ku,h,_⟩
   · exact h
   · cases h
  simp only [im2];split
  · rename_i o ho;exact (hp.sr.im_ok _ _ ho).symm
  · rw [if_pos]
    simp only [Bool.and_eq_true,Nat.ble_eq];exact ⟨by simpa using mem_blksOf.2 ⟨t,li,k,ht,hl,hk1,hs,rfl⟩,hge⟩
 refine ⟨im2,loc,by rw [hr];exact imF_ok hle hover hp.vr hi,?_⟩
 exact {
  imle:=(grow_le im w _).trans (hp.imle.trans hle),locle:= .refl _
  im_ok:=hok
  imnew:=fun b o h=>by
   simp only [im2] at h;split at h
   · rename_i o' ho
     injection h with h;subst h;rcases hp.imnew b _ ho with h1|h1|⟨t,li,k,h1,_⟩
     · rcases grow_new h1 with h2|h2
       · exact .inl h2
       · obtain ⟨t,li,k,ht,hl,hkk,hs,hb⟩:=mem_blksOf.1 h2
         exact .inr (.inr ⟨t,li,k,by rw [hf];exact has_iff.2 ht,hl,hkk,hs,hb⟩)
     · exact .inr (.inl h1)
     · cases h1
   · split at h
     · rename_i hc
       simp only [Bool.and_eq_true,Nat.ble_eq] at hc;exact .inr (.inl hc.2)
     · cases h
  os:=hp.os,tape:=hp.tape,output:=hp.output,size:=hp.size
  frame:=fun b hb _=>hfr b hb
  wrs:=fun t k h=>by rw [hw] at h;cases h
  wr:=fun t k li h=>by rw [hw] at h;cases h
  locnew:=fun _ _ h=> .inl h
  news:=fun j k li h=>by rw [hn] at h;simp at h
  distinct:=fun i j ki kj li lj h=>by rw [hn] at h;simp at h}
theorem eff_own {r:Res} {v v':PV} {u:Value} {sto1:Sto} {fz1 seen':List Nat} {im0 im1:Im} {loc1:Loc} {w1:World} {news:Sto} (hk:Known im loc sto w r) (hr:r.v=v') (hn:r.news=news) (hw:r.wr=[])
 (hp:FPost im0 noLoc [] w v sto1 fz1 im1 loc1 w1 u) (hi:imO sto1 fz1 sto.length [] v=some (v',news,seen')): ∃im' loc',VR im' loc' r.v u/\Eff im loc sto w r im' loc' w1:=by
 have hfr: ∀b,b<w.heap.size->w1.heap[b]? =w.heap[b]?:=fun b hb=>hp.frame b hb fun t li k h=>by cases h
 obtain ⟨lis,ts,h1,h2⟩:=imO_ok (fun t li hl=>hp.sr.blk t li hl) hp.vr hi
 let loc2:Loc:=fun t=>if t<sto.length then loc t else match lis[t-sto.length]? with
  |some li=>some li
  |none=>loc t
 have hnew: ∀(j:Nat) (li:LI),lis[j]? =some li->loc2 (sto.length+j)=some li:=by
  intro j li hj;simp only [loc2];rw [if_neg (by omega),show sto.length+j-sto.length=j by omega,hj]
 have hle:LocLe loc loc2:=by
  intro t li hl;simp only [loc2];split
  · exact hl
  · rename_i hlt
    split
    · rename_i l2 hl2
      have hj:=(List.getElem?_eq_some_iff.1 hl2).1
      have:=hk.fresh (t-sto.length) (by rw [hn,<- h1.len1];exact hj)
      rw [show sto.length+(t-sto.length)=t by omega,hl] at this
      cases this
    · exact hl
 have hli: ∀(j:Nat) (k:Blk),news[j]? =some k-> ∃li,lis[j]? =some li:=by
  intro j k hj
  have:=(List.getElem?_eq_some_iff.1 hj).1
  exact ⟨_,List.getElem?_eq_getElem (by rw [h1.len1];exact this)⟩
 have hts: ∀(j:Nat) (k:Blk),news[j]? =some k->k.solid=true-> ∃t,ts[j]? =some (some t):=by
  intro j k hj hs;have hlt:=(List.getElem?_eq_some_iff.1 hj).1;cases hg:ts[j]? with
  |none=>have:=List.getElem?_eq_none_iff.1 hg;have:=h1.len2;omega
  |some x=>
   cases x with
   |some t=>exact ⟨t,rfl⟩
   |none=>rw [h1.dum j k hj hg] at hs;cases hs
 refine ⟨im,loc2,by rw [hr];exact h2 im loc2 hnew,?_⟩
 exact {
  imle:= .refl _,locle:=hle
  im_ok:=fun b o h=>by
   have h1:=hk.im_ok b o h;have hlt:b<w.heap.size:=(Array.getElem?_eq_some_iff.1 h1).1;rw [hfr b hlt];exact h1
  imnew:=fun _ _ h=> .inl h
  os:=hp.os,tape:=hp.tape,output:=hp.output,size:=hp.size
  frame:=fun b hb _=>hfr b hb
  wrs:=fun t k h=>by rw [hw] at h;cases h
  wr:=fun t k li h=>by rw [hw] at h;cases h
  locnew:=fun t li h=>by
   simp only [loc2] at h;split at h
   · exact .inl h
   · rename_i hlt
     split at h
     · rename_i l2 hl2
       have hj:=(List.getElem?_eq_some_iff.1 hl2).1;exact .inr ⟨by omega,by rw [hn,<- h1.len1];omega⟩
     · exact .inl h
  news:=newsOf fun j k hj=>by
   rw [hn] at hj;obtain ⟨li,hl⟩:=hli j k hj;obtain ⟨⟨e,rows,rfl⟩,hbr⟩:=h1.br j k li hj hl;refine ⟨li,hnew j li hl,hbr,fun hs=>?_⟩
   obtain ⟨t,ht⟩:=hts j _ hj hs;obtain ⟨a1,a2,a3,_,_⟩:=h1.own j _ li t hj hl ht;have hge:w.heap.size<=li.blk:=by
    rcases hp.own t li _ a1 a2 hs with h|⟨u,lu,ku,h,_⟩
    · exact h
    · cases h
   refine ⟨?_,.inl hge⟩;cases hb:im li.blk with
   |none=>rfl
   |some o=>
    have:=(Array.getElem?_eq_some_iff.1 (hk.im_ok _ _ hb)).1
    omega
  distinct:=fun i j ki kj li lj hi' hj' hsi hsj hli' hlj' hbb=>by
   rw [hn] at hi' hj';obtain ⟨l1,hl1⟩:=hli i ki hi';obtain ⟨l2,hl2⟩:=hli j kj hj';have e1:=hnew i l1 hl1;have e2:=hnew j l2 hl2;rw [hli'] at e1;rw [hlj'] at e2;injection e1 with e1;injection e2 with e2;subst e1 e2;obtain ⟨t1,ht1⟩:=hts i ki hi' hsi;obtain ⟨t2,ht2⟩:=hts j kj hj' hsj;obtain ⟨a1,a2,_⟩:=h1.own i ki li t1 hi' hl1 ht1;obtain ⟨b1,b2,_⟩:=h1.own j kj lj t2 hj' hl2 ht2
   have:=hp.sr.excl t1 t2 li lj ki kj a1 b1 a2 b2 hsi hsj hbb
   subst this;exact h1.inj i j t1 ht1 ht2}
theorem callRec_rd {own:Bool} {f:FuncId} {args':List PV} {tk:List Nat} {r:Res}
 (h:(match rec (.func f args' [] []) with
  |some (.func v s1 z1)=>
   if own then match imO s1 z1 sto.length [] v with
    |some (v',n2,_)=>some {v:=v',news:=n2,rd:=tk}
    |none=>none
   else if v.noref then some {v,rd:=tk}
   else match imF s1 v with
    |some v'=>some {v:=v',rd:=tk,fr:=tk}
    |none=>none
  |_=>none)=some r):r.rd=tk:=by
 split at h
 · split at h
   · split at h
     · injection h with h;subst h;rfl
     · cases h
   · split at h
     · injection h with h;subst h;rfl
     · split at h
       · injection h with h;subst h;rfl
       · cases h
 · cases h
theorem callRec_sim (hrec:FuncOK P rec) {own:Bool} {f:FuncId} {args':List PV} {tk:List Nat} {r:Res} {us:List Value}
 (h:(match rec (.func f args' [] []) with
  |some (.func v s1 z1)=>
   if own then match imO s1 z1 sto.length [] v with
    |some (v',n2,_)=>some {v:=v',news:=n2,rd:=tk}
    |none=>none
   else if v.noref then some {v,rd:=tk}
   else match imF s1 v with
    |some v'=>some {v:=v',rd:=tk,fr:=tk}
    |none=>none
  |_=>none)=some r) (ha:VRL (grow im w (blksOf loc sto tk)) noLoc args' us) (hk:Known im loc sto w r):
 CallTo P f ⟨us⟩ w fun u w'=> ∃im' loc',VR im' loc' r.v u/\Eff im loc sto w r im' loc' w':=by
 cases hr:rec (.func f args' [] []) with
 |none=>rw [hr] at h;cases h
 |some o=>
  rw [hr] at h;cases o with
  |code e st=>cases h
  |func v s1 z1=>
   dsimp only at h;refine (hrec f args' [] [] v s1 z1 hr _ noLoc w us (SR.empty (grow_ok hk.im_ok)) ha).mono fun u w' hq=>?_
   obtain ⟨im1,loc1,hp⟩:=hq;split at h
   · cases hio:imO s1 z1 sto.length [] v with
     |none=>rw [hio] at h;cases h
     |some q2=>
      obtain ⟨v',n2,s2⟩:=q2;rw [hio] at h;simp only [Option.some.injEq] at h;subst h;exact eff_own hk rfl rfl rfl hp hio
   · split at h
     · rename_i hno
       simp only [Option.some.injEq] at h;subst h;exact eff_noref hk rfl rfl rfl hno hp
     · cases hif:imF s1 v with
       |none=>rw [hif] at h;cases h
       |some v'=>
        rw [hif] at h;simp only [Option.some.injEq] at h;subst h;exact eff_froz rfl rfl rfl rfl hp hif
theorem callPure_sim (hrec:FuncOK P rec) (hprim:PrimsOK P F) {own:Bool} {f:FuncId} {args:List PV} {fz:List Nat} {r:Res} {us:List Value}
 (h:callPure F rec own f args sto fz=some r) (ha:VRL im loc args us) (hk:Known im loc sto w r):
 CallTo P f ⟨us⟩ w fun u w'=> ∃im' loc',VR im' loc' r.v u/\Eff im loc sto w r im' loc' w':=by
 have imok: ∀(rd:List Nat),(∀b o,im b=some o->w.heap[b]? =some o)-> ∀b o,grow im w (blksOf loc sto rd) b=some o->w.heap[b]? =some o:=fun rd h=>grow_ok h
 have hexp: ∀(args':List PV),exL sto (exBx sto deep) args=some args'->(∀t,t∈toksL (toksBx sto deep) args-> ∀li,loc t=some li-> ∃k,sto[t]? =some k/\BR im loc w li k)->(∀b o,im b=some o->w.heap[b]? =some o)->
  VRL (grow im w (blksOf loc sto (toksL (toksBx sto deep) args))) noLoc args' us:=by
  intro args' hx htok hok;refine exL_ok (w:=w) (grow_le _ _ _) (fun t=>exBx_ok (grow_le _ _ _) deep t) (fun t ht li hl=>?_) ha hx
  obtain ⟨k,hk1,hbr⟩:=htok t ht li hl;exact ⟨k,hk1,hbr,fun hs=>grow_at hok (mem_blksOf.2 ⟨t,li,k,ht,hl,hk1,hs,rfl⟩)⟩
 unfold callPure at h;cases hx:exL sto (exBx sto deep) args with
 |none=>rw [hx] at h;cases h
 |some args'=>
  rw [hx] at h;dsimp only at h;cases hF:F f with
  |none=>
   rw [hF] at h;dsimp only at h;have hrd:r.rd=toksL (toksBx sto deep) args:=callRec_rd h;exact callRec_sim hrec h (hexp args' hx (fun t ht=>hk.tok t (.inl (by rw [hrd];exact ht))) hk.im_ok) hk
  |some en=>
   rw [hF] at h;cases en with
   |prim kills p=>
    dsimp only at h;obtain ⟨rfl,hpo⟩:=hprim f kills p hF;cases hpa:p args' with
    |none=>rw [hpa] at h;cases h
    |some q=>
     obtain ⟨v,news⟩:=q;rw [hpa] at h;dsimp only at h;cases hio:imO news [] sto.length [] v with
     |none=>rw [hio] at h;cases h
     |some q2=>
      obtain ⟨v',n2,s2⟩:=q2;rw [hio] at h;simp only [Bool.false_eq_true,if_false,Option.some.injEq] at h;subst h;refine (hpo args' v news hpa _ w us (SR.empty (imok _ hk.im_ok)) (hexp args' hx (fun t ht=>hk.tok t (.inl ht)) hk.im_ok)).mono fun u w' hq=>?_
      obtain ⟨im1,loc1,hp⟩:=hq;exact eff_own hk rfl rfl rfl hp hio
   |code x=>
    dsimp only at h;have hrd:r.rd=toksL (toksBx sto deep) args:=callRec_rd h;exact callRec_sim hrec h (hexp args' hx (fun t ht=>hk.tok t (.inl (by rw [hrd];exact ht))) hk.im_ok) hk
end
end Go.Vm
/- A call that works on the blocks that its arguments lead to, numbered anew: what it does to the memory. -/
namespace Go.Vm
theorem lt_of_get' {α:Type} {l:List α} {i:Nat} {x:α} (h:l[i]? =some x):i<l.length:=(List.getElem?_eq_some_iff.1 h).1
theorem mem_dedup: ∀{l:List Nat} {t:Nat},t∈dedup l↔t∈l
 | [],t=>by simp [dedup]
 |a::r,t=>by
  rw [dedup];split
  · rename_i h
    rw [mem_dedup]
    have:=has_iff.1 h
    constructor
    · exact fun h=>by simp [h]
    · intro h
      rcases List.mem_cons.1 h with h|h
      · subst h;exact this
      · exact h
  · simp [mem_dedup]
theorem dedup_nodup: ∀{l:List Nat},(dedup l).Nodup
 | []=>by simp [dedup]
 |a::r=>by
  rw [dedup];split
  · exact dedup_nodup
  · rename_i h
    rw [List.nodup_cons];exact ⟨fun hm=>h (has_iff.2 (mem_dedup.1 hm)),dedup_nodup⟩
theorem firmAll_at: ∀{a b:Sto},firmAll a b=true-> ∀(i:Nat) (x:Blk),a[i]? =some x-> ∃y,b[i]? =some y/\x.solid=y.solid
 | [],_,_,i,x,h=>by simp at h
 |c::r,d::q,hf,i,x,h=>by
  simp only [firmAll,Bool.and_eq_true] at hf;cases i with
  |zero=>
   simp at h;subst h;refine ⟨d,rfl,?_⟩
   have:=hf.1
   split at this<;>first|(rename_i h1 h2;rw [h1,h2])|cases this
  |succ i=>simpa using firmAll_at hf.2 i x (by simpa using h)
 |_::_,[],hf,_,_,_=>by cases hf
theorem wrBack_mem {g:Nat->Nat}: ∀{tk:List Nat} {s:Sto} {t:Nat} {k:Blk},(t,k)∈wrBack g tk s↔ ∃(i:Nat) (b:Blk),tk[i]? =some t/\s[i]? =some b/\k=renFB g b
 | [],s,t,k=>by simp [wrBack]
 |a::r,[],t,k=>by simp [wrBack]
 |a::r,b::s,t,k=>by
  simp only [wrBack,List.mem_cons,Prod.mk.injEq,wrBack_mem];constructor
  · rintro (⟨rfl,rfl⟩|⟨i,c,h1,h2,h3⟩)
    · exact ⟨0,b,rfl,rfl,rfl⟩
    · exact ⟨i+1,c,by simpa using h1,by simpa using h2,h3⟩
  · rintro ⟨i,c,h1,h2,h3⟩
    cases i with
    |zero=>simp at h1 h2;subst h1;subst h2;exact .inl ⟨rfl,h3⟩
    |succ i=>exact .inr ⟨i,c,by simpa using h1,by simpa using h2,h3⟩
theorem renFS_get {g:Nat->Nat}: ∀(s:Sto) (i:Nat),(renFS g s)[i]? =(s[i]?).map (renFB g)
 | [],i=>by simp [renFS]
 |b::r,0=>by simp [renFS]
 |b::r,i+1=>by simpa [renFS] using renFS_get r i
theorem renFS_length {g:Nat->Nat}: ∀(s:Sto),(renFS g s).length=s.length
 | []=>rfl
 |b::r=>by simp [renFS,renFS_length r]
section
variable {P : Program} {F : Tab} {rec : Task -> Option Out} {im : Im} {loc : Loc} {sto : Sto} {w : World} {tk : List Nat} {g : Nat -> Nat} {l1 l2 : Loc}
mutual
theorem VR.renFA: ∀{x:PV} {v:Value},VR im l1 x v->(∀u,u∈toks noBx x-> ∀li,l1 u=some li->l2 (g u)=some li)->VR im l2 (renF g x) v
 |_,_,.undef v,_=> .undef v
 |_,_,.nul,_=> .nul
 |_,_,.int k n,_=> .int k n
 |_,_,.bool b,_=> .bool b
 |_,_,.str s,_=> .str s
 |_,_,.agg cs vs h,hg=> .agg _ vs (VRL.renFA h (fun u hu=>hg u (by simpa [toks] using hu)))
 |_,_,.tup cs vs h,hg=> .tup _ vs (VRL.renFA h (fun u hu=>hg u (by simpa [toks] using hu)))
 |_,_,.sl esz clip rows a cap hc hk h,_=> .sl esz clip rows a cap hc hk h
 |_,_,.own t esz off len cap ex li a cap' h1 h2 h3 h4 h5 h6 h7,hg=> .own _ esz off len cap ex li a cap' (hg _ (by simp [toks]) _ h1) h2 h3 h4 h5 h6 h7
 |_,_,.ptr t esz row off li h1 h2 h3,hg=> .ptr _ esz row off li (hg _ (by simp [toks]) _ h1) h2 h3
 |_,_,.rptr cs off b o vs h hv,hg=> .rptr _ off b o vs (VRL.renFA h (fun u hu=>hg u (by simpa [toks] using hu))) hv
 |_,_,.mp t li h,hg=> .mp _ li (hg _ (by simp [toks]) _ h)
 |_,_,.clo fn a b as bs ha hb,hg=> .clo fn _ _ as bs (VRL.renFA ha (fun u hu=>hg u (by simp [toks,hu]))) (VRL.renFA hb (fun u hu=>hg u (by simp [toks,hu])))
 |_,_,.nilf,_=> .nilf
theorem VRL.renFA: ∀{x:List PV} {v:List Value},VRL im l1 x v->(∀u,u∈toksL noBx x-> ∀li,l1 u=some li->l2 (g u)=some li)->VRL im l2 (renFL g x) v
 |_,_,.nil,_=> .nil
 |_,_,.cons x v xs vs h hs,hg=> .cons _ v _ vs (VR.renFA h (fun u hu=>hg u (by simp [toksL,hu]))) (VRL.renFA hs (fun u hu=>hg u (by simp [toksL,hu])))
end
theorem VR.renF {x:PV} {v:Value} (hg: ∀u,u∈toks noBx x-> ∀li,l1 u=some li->l2 (g u)=some li) (h:VR im l1 x v):VR im l2 (Vm.renF g x) v:=h.renFA hg
theorem VRL.renF {x:List PV} {v:List Value} (hg: ∀u,u∈toksL noBx x-> ∀li,l1 u=some li->l2 (g u)=some li) (h:VRL im l1 x v):VRL im l2 (renFL g x) v:=h.renFA hg
theorem renFL_length: ∀(x:List PV),(renFL g x).length=x.length
 | []=>rfl
 |x::xs=>by simp [renFL,renFL_length xs]
theorem BR.renF {li:LI} {k:Blk} (hg: ∀u,u∈blkToks k-> ∀li,l1 u=some li->l2 (g u)=some li) (h:BR im l1 w li k):BR im l2 w li (renFB g k):=by
 cases k with
 |arr e rows=>exact h
 |box cs=>
  obtain ⟨a1,a2,a3,vs,el,a4,a5,a6⟩:=h;exact ⟨by rw [renFL_length];exact a1,a2,a3,vs,el,a4,a5,a6.renF hg⟩
 |map es=>exact h
 |dead=>trivial
theorem renFB_solid (k:Blk):(renFB g k).solid=k.solid:=by cases k<;>rfl
theorem callFp_sim (hrec:FuncOK P rec) {f:FuncId} {args:List PV} {fz:List Nat} {r:Res} {us:List Value}
 (h:callFp rec f args sto fz=some r) (ha:VRL im loc args us) (hk:Known im loc sto w r):
 CallTo P f ⟨us⟩ w fun u w'=> ∃im' loc',VR im' loc' r.v u/\Eff im loc sto w r im' loc' w':=by
 unfold callFp at h;have hnd:(dedup (toksL (toksBx sto deep) args)).Nodup:=dedup_nodup;generalize htk:dedup (toksL (toksBx sto deep) args)=tk at h hnd;split at h
 · cases h
 rename_i a s0 hlend;unfold lend at hlend;split at hlend
 case isFalse=>cases hlend
 rename_i hnfz;simp only [List.all_eq_true,Bool.not_eq_true'] at hnfz;split at hlend
 case h_2=>cases hlend
 rename_i a' s0' hra hrs;simp only [Option.some.injEq,Prod.mk.injEq] at hlend;obtain ⟨rfl,rfl⟩:=hlend;split at h
 case h_2=>cases h
 rename_i v s hr;unfold takeBack at h;split at h
 case isFalse=>cases h
 rename_i hfirm;injection h with h;obtain ⟨hl0,hget⟩:=renSto_ok hrs;have hf0:=firmAll_at hfirm;have hle:tk.length<=s.length:=by
  rcases Nat.eq_zero_or_pos tk.length with h0|h0
  · omega
  · obtain ⟨y,hy,_⟩:=hf0 (tk.length-1) (s0'[tk.length-1]'(by omega)) (List.getElem?_eq_getElem _)
    have:=lt_of_get' hy;omega
 let locC:Loc:=fun u=>match tk[u]? with|some t=>loc t|none=>none
 have hren:Ren tk loc locC:=fun u t hu=>by simp only [locC,hu]
 have hC: ∀u li,locC u=some li-> ∃t,tk[u]? =some t/\loc t=some li:=by
  intro u li hl;simp only [locC] at hl;split at hl
  · rename_i t ht;exact ⟨t,ht,hl⟩
  · cases hl
 have hwrm: ∀t k,(t,k)∈r.wr↔ ∃(i:Nat) (b:Blk),tk[i]? =some t/\s[i]? =some b/\k=renFB (backTok tk sto.length) b:=fun t k=>by rw [<- h];exact wrBack_mem
 have hwrt: ∀u t,tk[u]? =some t->(t∈r.rd\/ ∃b,(t,b)∈r.wr):=fun u t ht=>by
  have:=lt_of_get' ht
  exact .inr ⟨_,(hwrm t _).2 ⟨u,_,ht,List.getElem?_eq_getElem (by omega),rfl⟩⟩
 have hold: ∀(u t:Nat) (k:Blk),tk[u]? =some t->s0'[u]? =some k-> ∃k0:Blk,sto[t]? =some k0/\k.solid=k0.solid:=fun u t k ht hs=>by
  obtain ⟨k0,k',g1,g2,g3⟩:=hget u t ht;rw [hs] at g3;injection g3 with g3;subst g3;exact ⟨k0,g1,renBlk_solid g2⟩
 have hSR:SR im locC s0' [] w:={
  im_ok:=hk.im_ok
  blk:=fun u li hl=>by
   obtain ⟨t,h1,h2⟩:=hC u li hl;obtain ⟨k,hk1,hbr⟩:=hk.tok t (hwrt u t h1) li h2;obtain ⟨k0,k',g1,g2,g3⟩:=hget u t h1;rw [hk1] at g1;injection g1 with g1;subst g1;exact ⟨k',g3,renBlk_ok hren g2 hbr⟩
  excl:=fun t u li lj k k' hl hl' hs hs' hso hso' hb=>by
   obtain ⟨a1,h1,h2⟩:=hC t li hl;obtain ⟨a2,h3,h4⟩:=hC u lj hl';obtain ⟨k0,g1,g2⟩:=hold t a1 k h1 hs;obtain ⟨k0',g1',g2'⟩:=hold u a2 k' h3 hs'
   have:=hk.excl a1 a2 li lj k0 k0' (hwrt t a1 h1) (hwrt u a2 h3) h2 h4 g1 g1' (by rw [<- g2];exact hso) (by rw [<- g2'];exact hso') hb
   subst this;have pw:=List.pairwise_iff_getElem.1 hnd;obtain ⟨l1,e1⟩:=List.getElem?_eq_some_iff.1 h1;obtain ⟨l2,e2⟩:=List.getElem?_eq_some_iff.1 h3;rcases Nat.lt_trichotomy t u with h|h|h
   · exact absurd (e1.trans e2.symm) (pw t u l1 l2 h)
   · exact h
   · exact absurd (e2.trans e1.symm) (pw u t l2 l1 h)
  free:=fun t li k hl hs hso _=>by
   obtain ⟨a1,h1,h2⟩:=hC t li hl;obtain ⟨k0,g1,g2⟩:=hold t a1 k h1 hs;have hlt:=lt_of_get' h1;exact hk.free a1 _ ((hwrm a1 _).2 ⟨t,_,h1,List.getElem?_eq_getElem (by omega),rfl⟩) li k0 h2 g1 (by rw [<- g2];exact hso)}
 refine (hrec f a' s0' [] v s [] hr im locC w us hSR (renL_ok hren ha hra)).mono fun u w' ⟨im',locM,hf⟩=>?_
 let loc':Loc:=fun t=>match loc t with
  |some li=>some li
  |none=>if sto.length<=t/\t-sto.length<r.news.length then locM (t-sto.length+tk.length) else none
 have hLle:LocLe loc loc':=fun t li hl=>by simp only [loc',hl]
 have hnl:(keepsOut tk.length v s=true/\r.news=[])\/(keepsOut tk.length v s=false/\r.news=renFS (backTok tk sto.length) (s.drop tk.length)):=by
  rw [<- h];cases hko:keepsOut tk.length v s with
  |true=>exact .inl ⟨rfl,by simp⟩
  |false=>exact .inr ⟨rfl,by simp⟩
 have hnlen:keepsOut tk.length v s=false->r.news.length=s.length-tk.length:=fun h1=>by
  rcases hnl with ⟨h2,_⟩|⟨_,h2⟩
  · rw [h1] at h2;cases h2
  · rw [h2];simp [renFS_length]
 have hMlt: ∀u li,locM u=some li->u<s.length:=fun u li hl=>let ⟨k,hk1,_⟩:=hf.sr.blk u li hl;lt_of_get' hk1
 have hnewl: ∀j li,loc' (sto.length+j)=some li->j<r.news.length->locM (tk.length+j)=some li:=fun j li hl hj=>by
  simp only [loc',hk.fresh j hj] at hl;rw [if_pos ⟨by omega,by omega⟩] at hl
  rw [show sto.length+j-sto.length+tk.length=tk.length+j by omega] at hl
  exact hl
 have hg: ∀u,(u<tk.length\/keepsOut tk.length v s=false)-> ∀li,locM u=some li->loc' (backTok tk sto.length u)=some li:=by
  intro u hu0 li hl;unfold backTok;split
  · rename_i t ht
    rcases hf.locs u li hl with h1|h1
    · obtain ⟨t',h2,h3⟩:=hC u li h1
      rw [ht] at h2;injection h2 with h2;subst h2;exact hLle _ _ h3
    · have:=lt_of_get' ht;omega
  · rename_i hn
    have hu:tk.length<=u:=by simpa using hn
    rcases hu0 with hu0|hu0
    · omega
    have hlt:=hMlt u li hl;have hnl:=hnlen hu0;simp only [loc',hk.fresh (u-tk.length) (by omega)]
    rw [if_pos ⟨by omega,by omega⟩,show sto.length+(u-tk.length) -sto.length+tk.length=u by omega]
    exact hl
 have hko: ∀u,keepsOut tk.length v s=true->(u∈toks noBx v\/ ∃i b,i<tk.length/\s[i]? =some b/\u∈blkToks b)->u<tk.length:=fun u h1 h2=>by
  unfold keepsOut at h1;have h3:=List.all_eq_true.1 h1 u (by
   rcases h2 with h2|⟨i,b,g1,g2,g3⟩
   · simp [h2]
   · refine List.mem_append.2 (.inr (List.mem_flatMap.2 ⟨b,?_,g3⟩))
     exact List.mem_of_getElem? (i:=i) (by rw [List.getElem?_take];simp [g1,g2]))
  simpa using h3
 have hgv: ∀u,u∈toks noBx v-> ∀li,locM u=some li->loc' (backTok tk sto.length u)=some li:=fun u hu=>hg u (by
  cases hq:keepsOut tk.length v s with
  |true=>exact .inl (hko u hq (.inl hu))
  |false=>exact .inr rfl)
 have hgb: ∀i b,i<tk.length->s[i]? =some b-> ∀u,u∈blkToks b-> ∀li,locM u=some li->loc' (backTok tk sto.length u)=some li:=fun i b hi hb u hu=>hg u (by
  cases hq:keepsOut tk.length v s with
  |true=>exact .inl (hko u hq (.inr ⟨i,b,hi,hb,hu⟩))
  |false=>exact .inr rfl)
 have hMC: ∀u t li,tk[u]? =some t->loc t=some li->locM u=some li:=fun u t li ht hl=>hf.locle u li (by simp only [locC,ht];exact hl)
 refine ⟨im',loc',by rw [<- h];exact hf.vr.renF hgv,?_⟩
 have hnews: ∀(j:Nat) (k:Blk),r.news[j]? =some k-> ∃b,s[tk.length+j]? =some b/\k=renFB (backTok tk sto.length) b:=fun j k hj=>by
  rcases hnl with ⟨_,h0⟩|⟨_,h0⟩
  · rw [h0] at hj;simp at hj
  rw [h0] at hj;simp only [renFS_get,List.getElem?_drop,Option.map_eq_some_iff] at hj;obtain ⟨b,h1,h2⟩:=hj;exact ⟨b,h1,h2.symm⟩
 have hnewloc: ∀t li,locM t=some li->tk.length<=t-> ∀k,s[t]? =some k->k.solid=true->w.heap.size<=li.blk:=by
  intro t li hl ht k hs hso;rcases hf.own t li k hl hs hso with h1|⟨u,lu,ku,h1,h2,h3,h4⟩
  · exact h1
  · exfalso
    obtain ⟨a1,g1,g2⟩:=hC u lu h1;obtain ⟨y,y1,y2⟩:=hf0 u ku h2
    have:=hf.sr.excl u t lu li y k (hMC u a1 lu g1 g2) hl y1 hs (by rw [<- y2];exact h3) hso h4
    subst this
    have:=lt_of_get' g1;omega
 exact {
  imle:=hf.imle,locle:=hLle
  im_ok:=hf.sr.im_ok
  imnew:=fun b o hb=>by
   rcases hf.imnew b o hb with h1|h1|⟨t,li,k,h1,h2,h3,h4⟩
   · exact .inl h1
   · exact .inr (.inl h1)
   · exfalso
     obtain ⟨a1,g1,g2⟩:=hC t li h1;obtain ⟨y,y1,y2⟩:=hf0 t k h2
     have:=hf.sr.free t li y (hMC t a1 li g1 g2) y1 (by rw [<- y2];exact h3) rfl
     rw [h4,hb] at this;cases this
  os:=hf.os,tape:=hf.tape,output:=hf.output,size:=hf.size
  frame:=fun b hb hh=>hf.frame b hb fun t li k hl hs hso=>by
   obtain ⟨a1,g1,g2⟩:=hC t li hl;obtain ⟨k0,e1,e2⟩:=hold t a1 k g1 hs;have hlt:=lt_of_get' g1;exact hh a1 _ li k0 ((hwrm a1 _).2 ⟨t,_,g1,List.getElem?_eq_getElem (by omega),rfl⟩) g2 e1 (by rw [<- e2];exact hso)
  wrs:=fun t k hm hso=>by
   obtain ⟨i,b,g1,g2,rfl⟩:=(hwrm t k).1 hm;rw [renFB_solid] at hso;have hlt:=lt_of_get' g1;have e:=List.getElem?_eq_getElem (l:=s0') (i:=i) (by omega)
   obtain ⟨y,y1,y2⟩:=hf0 i _ e;rw [g2] at y1;injection y1 with y1;subst y1;obtain ⟨k0,e1,e2⟩:=hold i t _ g1 e;exact ⟨k0,e1,by rw [<- e2,y2];exact hso⟩
  wr:=fun t k li hm hl=>by
   obtain ⟨i,b,g1,g2,rfl⟩:=(hwrm t k).1 hm;obtain ⟨k',hk1,hbr⟩:=hf.sr.blk i li (hMC i t li g1 hl);rw [g2] at hk1;injection hk1 with hk1;subst hk1;exact hbr.renF (hgb i b (lt_of_get' g1) g2)
  locnew:=fun t li hl=>by
   simp only [loc'] at hl;cases hl0:loc t with
   |some lj=>rw [hl0] at hl;exact .inl hl
   |none=>
    rw [hl0] at hl;dsimp only at hl;split at hl
    · rename_i hn
      exact .inr ⟨hn.1,by omega⟩
    · cases hl
  news:=fun j k li hj hl=>by
   have hjl:j<r.news.length:=lt_of_get' hj;obtain ⟨b,hb,rfl⟩:=hnews j k hj;have hl0:=hnewl j li hl hjl;obtain ⟨k',hk1,hbr⟩:=hf.sr.blk _ li hl0;rw [hb] at hk1;injection hk1 with hk1;subst hk1;have hq:keepsOut tk.length v s=false:=by
    rcases hnl with ⟨_,h0⟩|⟨h0,_⟩
    · rw [h0] at hjl;simp at hjl
    · exact h0
   refine ⟨hbr.renF (fun u _=>hg u (.inr hq)),fun hso=>?_⟩
   rw [renFB_solid] at hso;exact ⟨hf.sr.free _ li b hl0 hb hso rfl,.inl (hnewloc _ li hl0 (by omega) b hb hso)⟩
  distinct:=fun i j ki kj li lj hi hj hsi hsj hli hlj hb=>by
   obtain ⟨b1,e1,rfl⟩:=hnews i ki hi;obtain ⟨b2,e2,rfl⟩:=hnews j kj hj;rw [renFB_solid] at hsi hsj;have h1:=hnewl i li hli (lt_of_get' hi);have h2:=hnewl j lj hlj (lt_of_get' hj)
   have:=hf.sr.excl _ _ li lj b1 b2 h1 h2 e1 e2 hsi hsj hb
   omega}
end
end Go.Vm
/- A region's run in the order of the text, step by step; what a block holds when some of its operations are done. -/
namespace Go.Vm
structure Run (F:Tab) (rec:Task->Option Out) (ops:List XOper) (S:Nat->St) (X:Nat->Option XR):Prop where
 steps: ∀(i:Nat) (o:XOper),ops[i]? =some o->
  (wanted o.guard (S i).env=some true/\ ∃x,evX F rec (S i).env (S i).sto (S i).fz o.op=some x/\x.ok (S i).fz=true/\X i=some x/\S (i+1)=x.next o.dst (S i))\/
  (wanted o.guard (S i).env=some false/\X i=none/\S (i+1)={S i with env:=putEnv o.dst .nul (S i).env})
def trOf (x:Option XR) (s:St):Tr:=
 match x with
 |some x=>x.tr s.sto.length
 |none=>Tr.idle
def trsOf (S:Nat->St) (X:Nat->Option XR) (n:Nat):List Tr:=(List.range n).map fun i=>trOf (X i) (S i)
theorem trsOf_succ (S:Nat->St) (X:Nat->Option XR) (n:Nat):trsOf S X (n+1)=trOf (X 0) (S 0)::trsOf (fun i=>S (i+1)) (fun i=>X (i+1)) n:=by
 unfold trsOf;rw [List.range_succ_eq_map];simp [List.map_map,Function.comp_def]
theorem evOps_run {F : Tab} {rec : Task -> Option Out} : ∀ (ops : List XOper) (st : St) (tr : List Tr) (st' : St) (tr' : List Tr), evOps F rec ops st tr = some (st', tr') ->
    ∃ S X, S 0 = st /\ S ops.length = st' /\ Run F rec ops S X /\ tr' = (trsOf S X ops.length).reverse ++ tr
  | [], st, tr, st', tr', h => by
    simp only [evOps, Option.some.injEq, Prod.mk.injEq] at h
    obtain ⟨rfl, rfl⟩ := h
    exact ⟨fun _ => st, fun _ => none, rfl, rfl, ⟨fun i o h => by simp at h⟩, by simp [trsOf]⟩
  | o :: l, st, tr, st', tr', h => by
    simp only [evOps] at h
    have mk : ∀ (s1 : St) (x : Option XR) (t1 : Tr), trOf x st = t1 -> evOps F rec l s1 (t1 :: tr) = some (st', tr') ->
        ((wanted o.guard st.env = some true /\ ∃ y, evX F rec st.env st.sto st.fz o.op = some y /\ y.ok st.fz = true /\ x = some y /\ s1 = y.next o.dst st) \/
          (wanted o.guard st.env = some false /\ x = none /\ s1 = { st with env := putEnv o.dst .nul st.env })) ->
        ∃ S X, S 0 = st /\ S (o :: l).length = st' /\ Run F rec (o :: l) S X /\ tr' = (trsOf S X (o :: l).length).reverse ++ tr := by
      intro s1 x t1 ht he hs
      obtain ⟨S, X, h0, hn, hrun, htr⟩ := evOps_run l s1 (t1 :: tr) st' tr' he
      refine ⟨fun i => match i with | 0 => st | i + 1 => S i, fun i => match i with | 0 => x | i + 1 => X i, rfl, hn, ⟨fun i o' ho => ?_⟩, ?_⟩
      · cases i with
        | zero =>
          simp at ho; subst ho
          rcases hs with ⟨a, y, b, c, d, e⟩ | ⟨a, b, c⟩
          · exact .inl ⟨a, y, b, c, d, by rw [<- e]; exact h0⟩
          · exact .inr ⟨a, b, by rw [<- c]; exact h0⟩
        | succ i => exact hrun.steps i o' (by simpa using ho)
      · rw [List.length_cons, trsOf_succ, htr]
        simp [ht]
    cases hw : wanted o.guard st.env with
    | none => rw [hw] at h; cases h
    | some b =>
      rw [hw] at h
      cases b with
      | false => exact mk _ none _ rfl h (.inr ⟨hw, rfl, rfl⟩)
      | true =>
        dsimp only at h
        cases hx : evX F rec st.env st.sto st.fz o.op with
        | none => rw [hx] at h; cases h
        | some x =>
          rw [hx] at h
          dsimp only at h
          split at h
          · rename_i hok
            exact mk _ (some x) _ rfl h (.inl ⟨hw, x, hx, hok, rfl, rfl⟩)
          · cases h
theorem applyWr_length: ∀(wr:List (Nat×Blk)) (s:Sto),(applyWr wr s).length=s.length
 | [],s=>rfl
 |(t,b)::r,s=>by rw [applyWr,applyWr_length r];simp
theorem applyWr_other: ∀(wr:List (Nat×Blk)) (s:Sto) (t:Nat),(∀k,(t,k)∉wr)->(applyWr wr s)[t]? =s[t]?
 | [],s,t,_=>rfl
 |(u,b)::r,s,t,h=>by
  rw [applyWr,applyWr_other r _ t (fun k hk=>h k (by simp [hk]))]
  have:u≠t:=fun e=>h b (by rw [e];simp)
  rw [List.getElem?_set_ne this]
theorem applyWr_at: ∀(wr:List (Nat×Blk)) (s:Sto),nodupW wr=true-> ∀{t:Nat} {k:Blk},(t,k)∈wr->t<s.length->(applyWr wr s)[t]? =some k
 |(u,b)::r,s,hn,t,k,hm,hlt=>by
  simp only [nodupW,Bool.and_eq_true,List.all_eq_true,Bool.not_eq_true'] at hn;rw [applyWr];rcases List.mem_cons.1 hm with h|h
  · injection h with h1 h2
    subst h1 h2;rw [applyWr_other r _ t fun k' hk=>by simpa using hn.1 (t,k') hk]
    simp [hlt]
  · exact applyWr_at r _ hn.2 h (by simpa using hlt)
section
variable {F : Tab} {rec : Task -> Option Out} {ops : List XOper} {S : Nat -> St} {X : Nat -> Option XR}
def W (X:Nat->Option XR) (i t:Nat):Prop:=
 match X i with
 |some (.loc r)=> ∃k,(t,k)∈r.wr
 |some (.shr ..)=>True
 |none=>False
def FR (X:Nat->Option XR) (i t:Nat):Prop:=
 match X i with
 |some (.loc r)=>t∈r.fr
 |some (.shr _ _ z)=>t∈z
 |none=>False
def Cur (S:Nat->St) (X:Nat->Option XR) (n:Nat) (done:Nat->Prop) (t:Nat) (k:Blk):Prop:=
 ∃m,m<=n/\(∀i,i<n->W X i t->(done i↔i<m))/\(∀c,c<n->(S c).sto.length<=t->t<(S (c+1)).sto.length->c<m)/\(S m).sto[t]? =some k
theorem shr_len {e:Env} {sto:Sto} {fz:List Nat} {op:XOp} {v:PV} {s:Sto} {z:List Nat} (h:evX F rec e sto fz op=some (.shr v s z)):sto.length<=s.length/\ ∀t,t∈fz->t∈z:=by
 have key: ∀{f:FuncId} {args:List PV},callShared rec f args sto fz=some (.shr v s z)->sto.length<=s.length/\ ∀t,t∈fz->t∈z:=by
  intro f args h;unfold callShared at h;split at h
  · split at h
    · rename_i hc
      simp only [Bool.and_eq_true,Nat.ble_eq,List.all_eq_true] at hc;simp only [Option.some.injEq,XR.shr.injEq] at h;obtain ⟨rfl,rfl,rfl⟩:=h;exact ⟨hc.1,fun t ht=>has_iff.1 (hc.2 t ht)⟩
    · cases h
  · cases h
 cases op with
 |call m f args=>
  cases m with
  |pur=>simp [evX] at h
  |own=>simp [evX] at h
  |shr=>exact key h
  |fp=>simp [evX] at h
 |callv x args=>
  simp only [evX] at h;split at h
  · split at h
    · exact key h
    · simp at h
  · cases h
 |_=>simp [evX] at h
theorem Run.len_le (hr:Run F rec ops S X) {i:Nat} (hi:i<ops.length):(S i).sto.length<=(S (i+1)).sto.length:=by
 rcases hr.steps i _ (List.getElem?_eq_getElem hi) with ⟨_,x,hx,_,_,hn⟩|⟨_,_,hn⟩
 · rw [hn]
   cases x with
   |loc r=>simp [XR.next,addN_eq,applyWr_length]
   |shr v s z=>exact (shr_len hx).1
 · rw [hn];exact Nat.le_refl _
theorem Run.len_mono (hr : Run F rec ops S X) {i j : Nat} (hij : i <= j) (hj : j <= ops.length) : (S i).sto.length <= (S j).sto.length := by
  induction j with
  | zero => have : i = 0 := by omega
            subst this; exact Nat.le_refl _
  | succ j ih =>
    rcases Nat.eq_or_lt_of_le hij with h | h
    · subst h; exact Nat.le_refl _
    · exact Nat.le_trans (ih (by omega) (by omega)) (hr.len_le (by omega))
theorem Run.same (hr:Run F rec ops S X) {i t:Nat} (hi:i<ops.length) (hw: ¬W X i t) (ht:t<(S i).sto.length):(S (i+1)).sto[t]? =(S i).sto[t]?:=by
 rcases hr.steps i _ (List.getElem?_eq_getElem hi) with ⟨_,x,hx,_,hX,hn⟩|⟨_,_,hn⟩
 · rw [hn]
   cases x with
   |loc r=>
    simp only [XR.next,addN_eq]
    rw [List.getElem?_append_left (by rw [applyWr_length];exact ht)]
    exact applyWr_other _ _ _ fun k hk=>hw (by unfold W;rw [hX];exact ⟨k,hk⟩)
   |shr v s z=>exact absurd (by unfold W;rw [hX];trivial) hw
 · rw [hn]
theorem Run.same_to (hr : Run F rec ops S X) {m m' t : Nat} (hm : m <= m') (hm' : m' <= ops.length) (hw : ∀ i, m <= i -> i < m' -> ¬ W X i t) (ht : t < (S m).sto.length) : (S m').sto[t]? = (S m).sto[t]? := by
  induction m' with
  | zero => have : m = 0 := by omega
            subst this; rfl
  | succ j ih =>
    rcases Nat.eq_or_lt_of_le hm with h | h
    · subst h; rfl
    · rw [hr.same (by omega) (hw j (by omega) (by omega)) (Nat.lt_of_lt_of_le ht (hr.len_mono (by omega) (by omega)))]
      exact ih (by omega) (by omega) fun i h1 h2 => hw i h1 (by omega)
theorem lt_of_get {α:Type} {l:List α} {i:Nat} {x:α} (h:l[i]? =some x):i<l.length:=(List.getElem?_eq_some_iff.1 h).1
theorem Cur.unique (hr:Run F rec ops S X) {done:Nat->Prop} {t:Nat} {k k':Blk} (h:Cur S X ops.length done t k) (h':Cur S X ops.length done t k'):k=k':=by
 obtain ⟨m,hm,hw,hc,hs⟩:=h;obtain ⟨m',hm',hw',hc',hs'⟩:=h';rcases Nat.le_total m m' with h|h
 · have:=hr.same_to h hm' (fun i h1 h2 hW=>by
    have a:=hw i (by omega) hW
    have b:=hw' i (by omega) hW
    have:=a.1 (b.2 h2);omega) (lt_of_get hs)
   rw [hs,hs'] at this;exact (Option.some.inj this).symm
 · have:=hr.same_to h hm (fun i h1 h2 hW=>by
    have a:=hw i (by omega) hW
    have b:=hw' i (by omega) hW
    have:=b.1 (a.2 h2);omega) (lt_of_get hs')
   rw [hs,hs'] at this;exact Option.some.inj this
theorem Run.env_same (hr:Run F rec ops S X) {i t:Nat} (hi:i<ops.length) (hd:(ops[i]).dst≠some t):lk t (S (i+1)).env=lk t (S i).env:=by
 have key: ∀(d:Option Nat) (v:PV) (e:Env),d≠some t->lk t (putEnv d v e)=lk t e:=by
  intro d v e h;cases d with
  |none=>rfl
  |some s=>
   simp only [putEnv];rw [lk_cons,if_neg (fun e=>h (by rw [e]))]
 rcases hr.steps i _ (List.getElem?_eq_getElem hi) with ⟨_,x,hx,_,hX,hn⟩|⟨_,_,hn⟩
 · rw [hn]
   cases x with
   |loc r=>exact key _ _ _ hd
   |shr v s z=>exact key _ _ _ hd
 · rw [hn];exact key _ _ _ hd
theorem Run.env_to (hr : Run F rec ops S X) {m m' t : Nat} (hm : m <= m') (hm' : m' <= ops.length) (hd : ∀ i (hi : i < ops.length), m <= i -> i < m' -> (ops[i]).dst ≠ some t) : lk t (S m').env = lk t (S m).env := by
  induction m' with
  | zero => have : m = 0 := by omega
            subst this; rfl
  | succ j ih =>
    rcases Nat.eq_or_lt_of_le hm with h | h
    · subst h; rfl
    · rw [hr.env_same (by omega) (hd j (by omega) (by omega) (by omega))]
      exact ih (by omega) (by omega) fun i hi h1 h2 => hd i hi h1 (by omega)
end
end Go.Vm
/- A region: what holds while some of its operations are done, and that one more keeps it. -/
namespace Go.Vm
def uses (x:XOper):List Nat:=(x.op.opds.filterMap fun| .t n=>some n| .c _=>none)++(match x.guard with|some (s,_)=>[s]|none=>[])
def chkGuard (ops:Array Oper):Option (Nat×Bool)->Option (Nat×Bool)->Bool
 |none,none=>true
 |some (s,b),some (j,c)=>b==c&&((ops[j]?).bind (·.dst))==some s
 |_,_=>false
def chkOper (P:Program) (prims:FuncId->Bool) (nt:Nat) (ops:Array Oper) (x:XOper) (o:Oper):Bool:=
 x.dst==o.dst&&(match x.dst with|some d=>Nat.blt d nt|none=>true)&&chkGuard ops x.guard o.guard&&chkOp P prims o.type x.op o.op
def isShr (X:Nat->Option XR) (i:Nat):Prop:= ∃v s z,X i=some (.shr v s z)
def touches (X:Nat->Option XR) (i:Nat):Prop:=
 match X i with
 |some (.loc r)=>r.rd≠[]\/r.fr≠[]\/r.wr≠[]\/r.news≠[]
 |some (.shr ..)=>True
 |none=>False
def A (X:Nat->Option XR) (i t:Nat):Prop:=
 match X i with
 |some (.loc r)=>t∈r.rd\/t∈r.fr
 |_=>False
structure Ord (ops:List XOper) (S:Nat->St) (X:Nat->Option XR) (bef:Nat->Nat->Prop):Prop where
 slot1: ∀(i j t:Nat) (x y:XOper),i<j->ops[i]? =some x->ops[j]? =some y->x.dst=some t->(t∈uses y\/y.dst=some t)->bef i j
 slot2: ∀(i j t:Nat) (x y:XOper),i<j->ops[i]? =some x->ops[j]? =some y->y.dst=some t->t∈uses x->bef i j
 tok1: ∀i j t,i<j->j<ops.length->W X i t->(A X j t\/W X j t)->bef i j
 tok2: ∀i j t,i<j->j<ops.length->A X i t->W X j t->bef i j
 tok3: ∀i j t,i<j->j<ops.length-> ¬isShr X i->(S i).sto.length<=t->t<(S (i+1)).sto.length-> ¬isShr X j->W X j t->bef i j
 bar: ∀i j,i<j->j<ops.length->(isShr X i/\touches X j\/touches X i/\isShr X j)->bef i j
 cl: ∀i t,i<ops.length-> ¬isShr X i->(A X i t\/W X i t)->t<(S i).sto.length\/ ∀c,i<c->c<ops.length->bef i c
structure Inv (ops:List XOper) (S:Nat->St) (X:Nat->Option XR) (im0:Im) (loc0:Loc) (w0:World) (nt:Nat) (done:Nat->Prop) (im:Im) (loc:Loc) (a:Act) (w:World):Prop where
 tm: ∀t,∃m,m<=ops.length/\(∀i x,ops[i]? =some x->x.dst=some t->(done i↔i<m))/\VR im loc (lk t (S m).env) (a.tmps.getD t Go.undef)
 im_ok: ∀b o,im b=some o->w.heap[b]? =some o
 tok: ∀t li,loc t=some li-> ∃k,Cur S X ops.length done t k/\BR im loc w li k
 excl: ∀t u li lj k k',loc t=some li->loc u=some lj->Cur S X ops.length done t k->Cur S X ops.length done u k'->k.solid=true->k'.solid=true->li.blk=lj.blk->t=u
 free: ∀t li k,loc t=some li->Cur S X ops.length done t k->k.solid=true->t∉(S 0).fz->(∀i,i<ops.length->done i-> ¬FR X i t)->im li.blk=none
 fresh: ∀i,i<ops.length-> ¬done i-> ∀t,(S i).sto.length<=t->t<(S (i+1)).sto.length->loc t=none
 imle:ImLe im0 im
 locle:LocLe loc0 loc
 os:w.os=w0.os
 tape:w.tape=w0.tape
 output:w.output=w0.output
 size:w0.heap.size<=w.heap.size
 frame: ∀b,b<w0.heap.size->(∀t li k,loc0 t=some li->(S 0).sto[t]? =some k->k.solid=true->li.blk≠b)->w.heap[b]? =w0.heap[b]?
 imnew: ∀b o,im b=some o->im0 b=some o\/w0.heap.size<=b\/ ∃t li k,loc0 t=some li/\(S 0).sto[t]? =some k/\k.solid=true/\li.blk=b
 locs: ∀t li,loc t=some li->loc0 t=some li\/(S 0).sto.length<=t
 own: ∀t li k,loc t=some li->Cur S X ops.length done t k->k.solid=true->(w0.heap.size<=li.blk\/ ∃u lu ku,loc0 u=some lu/\(S 0).sto[u]? =some ku/\ku.solid=true/\lu.blk=li.blk)
 defers:a.defers=[]
 nts:a.tmps.size=nt
def plus (done:Nat->Prop) (i:Nat):Nat->Prop:=fun j=>done j\/j=i
section
variable {F : Tab} {rec : Task -> Option Out} {ops : List XOper} {S : Nat -> St} {X : Nat -> Option XR} {bef : Nat -> Nat -> Prop} {im0 : Im} {loc0 : Loc} {w0 : World} {nt : Nat}
  {done : Nat -> Prop} {im : Im} {loc : Loc} {a : Act} {w : World} {i : Nat}
structure Place (ops:List XOper) (bef:Nat->Nat->Prop) (done:Nat->Prop) (i:Nat):Prop where
 lt:i<ops.length
 nd: ¬done i
 pre: ∀j,j<ops.length->bef j i->done j
 clo: ∀k,k<ops.length->done k-> ∀j,j<ops.length->bef j k->done j
theorem Place.later (hp:Place ops bef done i) {k:Nat} (hk:k<ops.length) (h:bef i k): ¬done k:=fun hd=>hp.nd (hp.clo k hk hd i hp.lt h)
theorem Inv.slot (hr:Run F rec ops S X) (ho:Ord ops S X bef) (hv:Inv ops S X im0 loc0 w0 nt done im loc a w) (hp:Place ops bef done i) {x:XOper} (hx:ops[i]? =some x) {t:Nat} (ht:t∈uses x):
 VR im loc (lk t (S i).env) (a.tmps.getD t Go.undef):=by
 obtain ⟨m,hm,hd,hvr⟩:=hv.tm t;have hwr: ∀j y,ops[j]? =some y->y.dst=some t->(done j↔j<i):=by
  intro j y hy hyd;rcases Nat.lt_trichotomy j i with h|h|h
  · exact ⟨fun _=>h,fun _=>hp.pre j (lt_of_get hy) (ho.slot1 j i t y x h hy hx hyd (.inl ht))⟩
  · subst h;exact ⟨fun hd=>absurd hd hp.nd,fun h=>by omega⟩
  · exact ⟨fun hdj=>absurd hdj (hp.later (lt_of_get hy) (ho.slot2 i j t x y h hx hy hyd ht)),fun h'=>by omega⟩
 have same:lk t (S i).env=lk t (S m).env:=by
  rcases Nat.le_total m i with h|h
  · refine hr.env_to h (Nat.le_of_lt hp.lt) fun j hj h1 h2 hdst=>?_
    have a1:=hd j _ (List.getElem?_eq_getElem hj) hdst;have a2:=hwr j _ (List.getElem?_eq_getElem hj) hdst
    have:=a1.1 (a2.2 h2);omega
  · refine (hr.env_to h hm fun j hj h1 h2 hdst=>?_).symm
    have a1:=hd j _ (List.getElem?_eq_getElem hj) hdst;have a2:=hwr j _ (List.getElem?_eq_getElem hj) hdst
    have:=a2.1 (a1.2 h2);omega
 rw [same];exact hvr
theorem Inv.cur (hr:Run F rec ops S X) (ho:Ord ops S X bef) (hv:Inv ops S X im0 loc0 w0 nt done im loc a w) (hp:Place ops bef done i) {t:Nat} {li:LI} (hl:loc t=some li)
 (ht:(A X i t\/W X i t)) {k:Blk} (hc:Cur S X ops.length done t k):(S i).sto[t]? =some k:=by
 obtain ⟨m,hm,hw,hcr,hs⟩:=hc;have hlen:t<(S i).sto.length:=by
  rcases Nat.lt_or_ge t (S i).sto.length with h|h
  · exact h
  · exfalso
    have hmi:i<m:=by
     rcases Nat.lt_or_ge i m with h'|h'
     · exact h'
     · have:=hr.len_mono h' (Nat.le_of_lt hp.lt);have:=lt_of_get hs;omega
    have: ∃c,i<=c/\c<m/\(S c).sto.length<=t/\t<(S (c+1)).sto.length:=by
     have hex: ∀d,i+d<=m->t<(S (i+d)).sto.length-> ∃c,i<=c/\c<i+d/\(S c).sto.length<=t/\t<(S (c+1)).sto.length:=by
      intro d
      induction d with
      |zero=>intro _ h2;exact absurd h2 (by simpa using h)
      |succ d ih=>
       intro h1 h2;rcases Nat.lt_or_ge t (S (i+d)).sto.length with h3|h3
       · obtain ⟨c,c1,c2,c3,c4⟩:=ih (by omega) h3
         exact ⟨c,c1,by omega,c3,c4⟩
       · exact ⟨i+d,by omega,by omega,h3,h2⟩
     obtain ⟨c,c1,c2,c3,c4⟩:=hex (m-i) (by omega) (by rw [show i+(m-i)=m by omega];exact lt_of_get hs)
     exact ⟨c,c1,by omega,c3,c4⟩
    obtain ⟨c,c1,c2,c3,c4⟩:=this;have hcn:c<ops.length:=by omega
    have hndc: ¬done c:=by
     intro hdc;rcases Nat.eq_or_lt_of_le c1 with e|e
     · subst e;exact hp.nd hdc
     · by_cases hsh:isShr X i
       · refine hp.later hcn (ho.bar i c e hcn (.inl ⟨hsh,?_⟩)) hdc
         rcases hr.steps c _ (List.getElem?_eq_getElem hcn) with ⟨_,x,hx,_,hX,hn⟩|⟨_,_,hn⟩
         · unfold touches;rw [hX]
           cases x with
           |loc r=>
            refine .inr (.inr (.inr fun hnil=>?_))
            rw [hn] at c4;simp [XR.next,addN_eq,applyWr_length,hnil] at c4
            omega
           |shr v s z=>trivial
         · rw [hn] at c4;simp at c4;omega
       · rcases ho.cl i t hp.lt hsh ht with h'|h'
         · omega
         · exact hp.later hcn (h' c e hcn) hdc
    have:=hv.fresh c hcn hndc t c3 c4
    rw [hl] at this;cases this
 have hwr: ∀j,j<ops.length->W X j t->(done j↔j<i):=by
  intro j hj hW;rcases Nat.lt_trichotomy j i with h|h|h
  · exact ⟨fun _=>h,fun _=>hp.pre j hj (ho.tok1 j i t h hp.lt hW ht)⟩
  · subst h;exact ⟨fun hd=>absurd hd hp.nd,fun h=>by omega⟩
  · refine ⟨fun hdj=>absurd hdj (hp.later hj ?_),fun h'=>by omega⟩
    rcases ht with ht|ht
    · exact ho.tok2 i j t h hj ht hW
    · exact ho.tok1 i j t h hj ht (.inr hW)
 rcases Nat.le_total m i with h|h
 · rw [hr.same_to h (Nat.le_of_lt hp.lt) (fun j h1 h2 hW=>by
    have a1:=hw j (by have:=hp.lt;omega) hW
    have a2:=hwr j (by have:=hp.lt;omega) hW
    have:=a1.1 (a2.2 h2);omega) (lt_of_get hs)]
   exact hs
 · rw [<- hr.same_to h hm (fun j h1 h2 hW=>by
    have a1:=hw j (by omega) hW
    have a2:=hwr j (by omega) hW
    have:=a2.1 (a1.2 h2);omega) hlen]
   exact hs
end
end Go.Vm
/- A region: one more operation keeps what holds. -/
namespace Go.Vm
theorem BR.mono' {im im':Im} {loc loc':Loc} {w w':World} {li:LI} {k:Blk} (h:BR im loc w li k) (hi:ImLe im im') (hl:LocLe loc loc')
 (hw:k.solid=true->w'.heap[li.blk]? =w.heap[li.blk]?):BR im' loc' w' li k:=by
 cases hs:k.solid with
 |true=>exact h.mono hi hl (hw hs)
 |false=>
  cases k with
  |arr e rows=>
   cases rows with
   |nil=>exact ⟨h.1,h.2.1,fun hne=>absurd rfl hne⟩
   |cons _ _=>cases hs
  |box _=>cases hs
  |map _=>cases hs
  |dead=>trivial
section
variable {F : Tab} {rec : Task -> Option Out} {ops : List XOper} {S : Nat -> St} {X : Nat -> Option XR} {bef : Nat -> Nat -> Prop} {im0 : Im} {loc0 : Loc} {w0 : World} {nt : Nat}
  {done : Nat -> Prop} {im : Im} {loc : Loc} {a : Act} {w : World} {i : Nat}
theorem Run.fz_le (hr:Run F rec ops S X) {j:Nat} (hj:j<ops.length): ∀t,t∈(S j).fz->t∈(S (j+1)).fz:=by
 intro t ht;rcases hr.steps j _ (List.getElem?_eq_getElem hj) with ⟨_,x,hx,_,_,hn⟩|⟨_,_,hn⟩
 · rw [hn]
   cases x with
   |loc r=>simp only [XR.next];exact List.mem_append_right _ ht
   |shr v s z=>exact (shr_len hx).2 t ht
 · rw [hn];exact ht
theorem Run.fz_mono (hr : Run F rec ops S X) {m m' : Nat} (h : m <= m') (hm : m' <= ops.length) : ∀ t, t ∈ (S m).fz -> t ∈ (S m').fz := by
  induction m' with
  | zero => have : m = 0 := by omega
            subst this; exact fun _ h => h
  | succ j ih =>
    rcases Nat.eq_or_lt_of_le h with e | e
    · subst e; exact fun _ h => h
    · exact fun t ht => hr.fz_le (by omega) t (ih (by omega) (by omega) t ht)
theorem Run.fr_fz (hr:Run F rec ops S X) {j:Nat} (hj:j<ops.length) {t:Nat} (h:FR X j t):t∈(S (j+1)).fz:=by
 rcases hr.steps j _ (List.getElem?_eq_getElem hj) with ⟨_,x,hx,_,hX,hn⟩|⟨_,hX,_⟩
 · rw [hn]
   unfold FR at h;rw [hX] at h;cases x with
   |loc r=>exact List.mem_append_left _ h
   |shr v s z=>exact h
 · unfold FR at h;rw [hX] at h;exact h.elim
theorem FR_AW {j t:Nat} (h:FR X j t):A X j t\/W X j t:=by
 unfold FR at h;unfold A W;cases hX:X j with
 |none=>rw [hX] at h;exact h.elim
 |some x=>
  rw [hX] at h;cases x with
  |loc r=>exact .inl (.inr h)
  |shr v s z=>exact .inr trivial
theorem Inv.not_frozen (hr:Run F rec ops S X) (ho:Ord ops S X bef) (hp:Place ops bef done i) {t:Nat} (hW:W X i t) (hz:t∉(S i).fz):
 t∉(S 0).fz/\ ∀j,j<ops.length->done j-> ¬FR X j t:=by
 refine ⟨fun h=>hz (hr.fz_mono (Nat.zero_le _) (Nat.le_of_lt hp.lt) t h),fun j hj hd hf=>?_⟩
 rcases Nat.lt_trichotomy j i with h|h|h
 · exact hz (hr.fz_mono h (Nat.le_of_lt hp.lt) t (hr.fr_fz hj hf))
 · subst h;exact hp.nd hd
 · exact hp.later hj (ho.tok1 i j t h hj hW (FR_AW hf)) hd
theorem Inv.known (hr:Run F rec ops S X) (ho:Ord ops S X bef) (hv:Inv ops S X im0 loc0 w0 nt done im loc a w) (hp:Place ops bef done i) {r:Res} (hX:X i=some (.loc r)) (hok:(XR.loc r).ok (S i).fz=true)
 (hn:(S (i+1)).sto.length=(S i).sto.length+r.news.length):Known im loc (S i).sto w r where
 im_ok:=hv.im_ok
 tok:=fun t ht li hl=>by
  obtain ⟨k,hc,hbr⟩:=hv.tok t li hl;refine ⟨k,hv.cur hr ho hp hl ?_ hc,hbr⟩;rcases ht with ht|ht
  · exact .inl (by unfold A;rw [hX];exact .inl ht)
  · exact .inr (by unfold W;rw [hX];exact ht)
 free:=fun t k hm li k' hl hs hsol=>by
  have hW:W X i t:=by unfold W;rw [hX];exact ⟨k,hm⟩
  simp only [XR.ok,Bool.and_eq_true,List.all_eq_true,Bool.not_eq_true'] at hok;have hz:t∉(S i).fz:=has_false.1 (hok.1 (t,k) hm);obtain ⟨h0,h1⟩:=Inv.not_frozen hr ho hp hW hz;obtain ⟨k2,hc,_⟩:=hv.tok t li hl
  have:=hv.cur hr ho hp hl (.inr hW) hc
  rw [hs] at this;injection this with this;subst this;exact hv.free t li k' hl hc hsol h0 h1
 fresh:=fun j hj=>hv.fresh i hp.lt hp.nd _ (by omega) (by omega)
 excl:=fun t u li lj k k' ht hu hl hl' hs hs' hsol hsol' hb=>by
  have aw: ∀t,(t∈r.rd\/ ∃b,(t,b)∈r.wr)->A X i t\/W X i t:=fun t h=>by
   rcases h with h|h
   · exact .inl (by unfold A;rw [hX];exact .inl h)
   · exact .inr (by unfold W;rw [hX];exact h)
  obtain ⟨k1,hc1,_⟩:=hv.tok t li hl;obtain ⟨k2,hc2,_⟩:=hv.tok u lj hl';have e1:=hv.cur hr ho hp hl (aw t ht) hc1;have e2:=hv.cur hr ho hp hl' (aw u hu) hc2;rw [hs] at e1;injection e1 with e1;subst e1;rw [hs'] at e2;injection e2 with e2;subst e2;exact hv.excl t u li lj _ _ hl hl' hc1 hc2 hsol hsol' hb
theorem Inv.step_loc (hr:Run F rec ops S X) (ho:Ord ops S X bef) (hv:Inv ops S X im0 loc0 w0 nt done im loc a w) (hp:Place ops bef done i) {x:XOper} (hx:ops[i]? =some x) {r:Res} (hX:X i=some (.loc r))
 (hok:(XR.loc r).ok (S i).fz=true) (hS:S (i+1)=(XR.loc r).next x.dst (S i)) {v':Value} {im':Im} {loc':Loc} {w':World} (hvr:VR im' loc' r.v v') (he:Eff im loc (S i).sto w r im' loc' w')
 (hdst: ∀d,x.dst=some d->d<nt):Inv ops S X im0 loc0 w0 nt (plus done i) im' loc' (a.put x.dst v') w':=by
 have hlen:(S (i+1)).sto.length=(S i).sto.length+r.news.length:=by rw [hS];simp [XR.next,addN_eq,applyWr_length]
 have hin:=hp.lt;have hone:nodupW r.wr=true:=by simp only [XR.ok,Bool.and_eq_true] at hok;exact hok.2
 have hsto:(S (i+1)).sto=applyWr r.wr (S i).sto++r.news:=by rw [hS];exact addN_eq _ _
 have wr_at: ∀t k,(t,k)∈r.wr->t<(S i).sto.length->(S (i+1)).sto[t]? =some k:=by
  intro t k hm hlt;rw [hsto,List.getElem?_append_left (by rw [applyWr_length];exact hlt)]
  exact applyWr_at _ _ hone hm hlt
 have new_at: ∀j k,r.news[j]? =some k->(S (i+1)).sto[(S i).sto.length+j]? =some k:=by
  intro j k hj;rw [hsto,List.getElem?_append_right (by rw [applyWr_length];omega),applyWr_length,show (S i).sto.length+j- (S i).sto.length=j by omega]
  exact hj
 have wlt: ∀t li,loc t=some li->W X i t->t<(S i).sto.length:=by
  intro t li hl hW;obtain ⟨k,hc,_⟩:=hv.tok t li hl;exact lt_of_get (hv.cur hr ho hp hl (.inr hW) hc)
 have cur_wr: ∀t k li,(t,k)∈r.wr->loc t=some li->Cur S X ops.length (plus done i) t k:=by
  intro t k li hm hl;have hW:W X i t:=by unfold W;rw [hX];exact ⟨k,hm⟩
  have hlt:=wlt t li hl hW;refine ⟨i+1,hin,fun j hj hWj=>?_,fun c hc h1 h2=>?_,wr_at t k hm hlt⟩
  · rcases Nat.lt_trichotomy j i with h|h|h
    · exact ⟨fun _=>by omega,fun _=> .inl (hp.pre j hj (ho.tok1 j i t h hin hWj (.inr hW)))⟩
    · subst h;exact ⟨fun _=>by omega,fun _=> .inr rfl⟩
    · refine ⟨fun hd=>?_,fun h'=>by omega⟩
      rcases hd with hd|hd
      · exact absurd hd (hp.later hj (ho.tok1 i j t h hj hW (.inr hWj)))
      · omega
  · rcases Nat.lt_or_ge c (i+1) with h|h
    · exact h
    · have:=hr.len_mono (show i<=c by omega) (by omega);omega
 have cur_new: ∀j k,r.news[j]? =some k->Cur S X ops.length (plus done i) ((S i).sto.length+j) k:=by
  intro j k hj;have hjl:=lt_of_get hj;refine ⟨i+1,hin,fun q hq hWq=>?_,fun c hc h1 h2=>?_,new_at j k hj⟩
  · rcases Nat.lt_trichotomy q i with h|h|h
    · refine ⟨fun _=>by omega,fun _=> .inl ?_⟩
      by_cases hs:isShr X q
      ·
       refine hp.pre q hq (ho.bar q i h hin (.inl ⟨hs,?_⟩));unfold touches;rw [hX];exact .inr (.inr (.inr (by intro e;rw [e] at hj;simp at hj)))
      · rcases ho.cl q _ hq hs (.inr hWq) with h'|h'
        · have:=hr.len_mono (show q<=i by omega) (by omega);omega
        · exact hp.pre q hq (h' i h hin)
    · subst h;exact ⟨fun _=>by omega,fun _=> .inr rfl⟩
    · refine ⟨fun hd=>?_,fun h'=>by omega⟩
      rcases hd with hd|hd
      · exfalso
        by_cases hs:isShr X q
        · refine hp.later hq (ho.bar i q h hq (.inr ⟨?_,hs⟩)) hd
          unfold touches;rw [hX];exact .inr (.inr (.inr (by intro e;rw [e] at hj;simp at hj)))
        · exact hp.later hq (ho.tok3 i q _ h hq (by rintro ⟨v,s,z,e⟩;rw [hX] at e;cases e) (by omega) (by omega) hs hWq) hd
      · omega
  · rcases Nat.lt_or_ge c (i+1) with h|h
    · exact h
    · have:=hr.len_mono (show i+1<=c by omega) (by omega);omega
 have cur_old: ∀t k,¬W X i t->Cur S X ops.length done t k->Cur S X ops.length (plus done i) t k:=by
  intro t k hW hc;obtain ⟨m,hm,h1,h2,h3⟩:=hc;refine ⟨m,hm,fun j hj hWj=>?_,h2,h3⟩
  have hne:j≠i:=fun e=>hW (e▸hWj)
  have:=h1 j hj hWj
  exact ⟨fun hd=>this.1 (hd.resolve_right hne),fun h=> .inl (this.2 h)⟩
 have not_shr: ¬isShr X i:=by rintro ⟨v,s,z,e⟩;rw [hX] at e;cases e
 have cases_t: ∀t li,loc' t=some li->(∃j k,t=(S i).sto.length+j/\r.news[j]? =some k/\loc t=none)\/loc t=some li:=by
  intro t li hl;rcases he.locnew t li hl with h|⟨h1,h2⟩
  · exact .inr h
  · refine .inl ⟨t- (S i).sto.length,r.news[t- (S i).sto.length],by omega,List.getElem?_eq_getElem (by omega),?_⟩
    exact hv.fresh i hin hp.nd t h1 (by omega)
 have old: ∀t li k,loc t=some li->Cur S X ops.length (plus done i) t k->k.solid=true-> ∃k0,Cur S X ops.length done t k0/\k0.solid=true/\BR im loc w li k0/\(¬W X i t->k0=k)/\(W X i t->(t,k)∈r.wr):=by
  intro t li k hl hc hs;obtain ⟨k0,hc0,hbr⟩:=hv.tok t li hl
  by_cases hW:W X i t
  · have hW2:=hW
    unfold W at hW2;rw [hX] at hW2;obtain ⟨k2,hm⟩:=hW2;have e:=(cur_wr t k2 li hm hl).unique hr hc;subst e;obtain ⟨k3,h3,h4⟩:=he.wrs t k2 hm hs
    have:=hv.cur hr ho hp hl (.inr hW) hc0
    rw [h3] at this;injection this with this;subst this;exact ⟨k3,hc0,h4,hbr,fun h=>absurd hW h,fun _=>hm⟩
  · have e:=(cur_old t k0 hW hc0).unique hr hc
    subst e;exact ⟨k0,hc0,hs,hbr,fun _=>rfl,fun h=>absurd h hW⟩
 have wr_cur: ∀t k li k0,(t,k)∈r.wr->loc t=some li->(S i).sto[t]? =some k0->Cur S X ops.length done t k0:=by
  intro t k li k0 hm hl hs;obtain ⟨k1,hc1,_⟩:=hv.tok t li hl
  have:=hv.cur hr ho hp hl (.inr (by unfold W;rw [hX];exact ⟨k,hm⟩)) hc1
  rw [hs] at this;injection this with this;subst this;exact hc1
 have fr_cur: ∀t li k0,t∈r.fr->loc t=some li->(S i).sto[t]? =some k0->Cur S X ops.length done t k0:=by
  intro t li k0 hm hl hs;obtain ⟨k1,hc1,_⟩:=hv.tok t li hl
  have:=hv.cur hr ho hp hl (.inl (by unfold A;rw [hX];exact .inr hm)) hc1
  rw [hs] at this;injection this with this;subst this;exact hc1
 refine {
  tm:=fun t=>?_
  im_ok:=he.im_ok
  tok:=fun t li hl=>?_
  excl:=fun t u li lj k k' hl hl' hc hc' hs hs' hb=>?_
  free:=fun t li k hl hc hs h0 hf=>?_
  fresh:=fun j hj hnd t h1 h2=>?_
  imle:=hv.imle.trans he.imle
  locle:=hv.locle.trans he.locle
  os:=he.os.trans hv.os
  tape:=he.tape.trans hv.tape
  output:=he.output.trans hv.output
  size:=Nat.le_trans hv.size he.size
  frame:=fun b hb hh=>?_
  imnew:=fun b o hb=>?_
  locs:=fun t li hl=>?_
  own:=fun t li k hl hc hs=>?_
  defers:=by
   cases hd:x.dst<;>simp [Act.put,hv.defers]
  nts:=by
   cases hd:x.dst<;>simp [Act.put,hv.nts]}
 ·
  by_cases hd:x.dst=some t
  · refine ⟨i+1,hin,fun j y hy hyd=>?_,?_⟩
    · rcases Nat.lt_trichotomy j i with h|h|h
      · exact ⟨fun _=>by omega,fun _=> .inl (hp.pre j (lt_of_get hy) (ho.slot1 j i t y x h hy hx hyd (.inr hd)))⟩
      · subst h;exact ⟨fun _=>by omega,fun _=> .inr rfl⟩
      · refine ⟨fun hdj=>?_,fun h'=>by omega⟩
        rcases hdj with hdj|hdj
        · exact absurd hdj (hp.later (lt_of_get hy) (ho.slot1 i j t x y h hx hy hd (.inr hyd)))
        · omega
    · rw [hS]
      simp only [XR.next,hd,putEnv,lk_cons,if_true,Act.put]
      have:=hdst t hd
      simp [hv.nts,this,hvr]
  · obtain ⟨m,hm,h1,h2⟩:=hv.tm t
    refine ⟨m,hm,fun j y hy hyd=>?_,?_⟩
    · have hne:j≠i:=by intro e;subst e;rw [hx] at hy;injection hy with hy;subst hy;exact hd hyd
      have:=h1 j y hy hyd
      exact ⟨fun hdj=>this.1 (hdj.resolve_right hne),fun h=> .inl (this.2 h)⟩
    · have:=h2.mono he.imle he.locle
      cases hxd:x.dst with
      |none=>simpa [Act.put] using this
      |some d=>
       have hne:d≠t:=fun e=>hd (by rw [hxd,e])
       simpa [Act.put,Array.getElem?_setIfInBounds,hne] using this
 ·
  rcases cases_t t li hl with ⟨j,k,rfl,hj,_⟩|hlo
  · obtain ⟨h2,_⟩:=he.news j k li hj hl
    exact ⟨k,cur_new j k hj,h2⟩
  · obtain ⟨k0,hc0,hbr⟩:=hv.tok t li hlo
    by_cases hW:W X i t
    · have hW2:=hW
      unfold W at hW2;rw [hX] at hW2;obtain ⟨k2,hm⟩:=hW2;exact ⟨k2,cur_wr t k2 li hm hlo,he.wr t k2 li hm hlo⟩
    · refine ⟨k0,cur_old t k0 hW hc0,hbr.mono' he.imle he.locle fun hs=>?_⟩
      refine he.frame _ (hbr.lt hs) fun t2 k2 l2 k3 hm hl2 hs3 hsol hbb=>?_
      have:=hv.excl t2 t l2 li k3 k0 hl2 hlo (wr_cur t2 k2 l2 k3 hm hl2 hs3) hc0 hsol hs hbb
      subst this;exact hW (by unfold W;rw [hX];exact ⟨k2,hm⟩)
 ·
  have newold: ∀t u li lj k k',(∃j k,t=(S i).sto.length+j/\r.news[j]? =some k/\loc t=none)->loc u=some lj->loc' t=some li->Cur S X ops.length (plus done i) t k->Cur S X ops.length (plus done i) u k'->
   k.solid=true->k'.solid=true->li.blk=lj.blk->False:=by
   intro t u li lj k k' hj hlu hl hc hc' hs hs' hb;obtain ⟨j,k1,rfl,hj,_⟩:=hj;have e:=(cur_new j k1 hj).unique hr hc;subst e;obtain ⟨h2,h3⟩:=he.news j k1 li hj hl;obtain ⟨k0,hc0,hs0,hbr0,hk0,hw0⟩:=old u lj k' hlu hc' hs';have hlt:=hbr0.lt hs0;rcases (h3 hs).2 with h|⟨td,lt,kd,hm,hld,hsd,hsold,hbd⟩
   · omega
   · have:=hv.excl td u lt lj kd k0 hld hlu (wr_cur td _ lt kd hm hld hsd) hc0 hsold hs0 (by rw [hbd,hb])
     subst this;have hm2:=hw0 (by unfold W;rw [hX];exact ⟨_,hm⟩)
     have e2:=(cur_wr td _ lj hm hlu).unique hr (cur_wr td _ lj hm2 hlu);subst e2;cases hs'
  rcases cases_t t li hl with h1|h1
  · rcases cases_t u lj hl' with h2|h2
    · obtain ⟨j1,k1,rfl,hj1,_⟩:=h1
      obtain ⟨j2,k2,rfl,hj2,_⟩:=h2;have e1:=(cur_new j1 k1 hj1).unique hr hc;have e2:=(cur_new j2 k2 hj2).unique hr hc';subst e1 e2;rw [he.distinct j1 j2 k1 k2 li lj hj1 hj2 hs hs' hl hl' hb]
    · exact (newold t u li lj k k' h1 h2 hl hc hc' hs hs' hb).elim
  · rcases cases_t u lj hl' with h2|h2
    · exact (newold u t lj li k' k h2 h1 hl' hc' hc hs' hs hb.symm).elim
    · obtain ⟨k0,hc0,hs0,_⟩:=old t li k h1 hc hs
      obtain ⟨k1,hc1,hs1,_⟩:=old u lj k' h2 hc' hs';exact hv.excl t u li lj k0 k1 h1 h2 hc0 hc1 hs0 hs1 hb
 ·
  rcases cases_t t li hl with ⟨j,k1,rfl,hj,_⟩|hlo
  · have e:=(cur_new j k1 hj).unique hr hc
    subst e;obtain ⟨h2,h3⟩:=he.news j k1 li hj hl;exact (h3 hs).1
  · obtain ⟨k0,hc0,hs0,hbr0,_,_⟩:=old t li k hlo hc hs
    have hn:=hv.free t li k0 hlo hc0 hs0 h0 (fun j hj hd=>hf j hj (.inl hd))
    cases hb:im' li.blk with
    |none=>rfl
    |some o=>
     rcases he.imnew _ _ hb with h|h|⟨t2,l2,k2,h1,h2,h3,h4,h5⟩
     · rw [hn] at h;cases h
     · have:=hbr0.lt hs0;omega
     · have hm:=has_iff.1 h1
       have:=hv.excl t2 t l2 li k2 k0 h2 hlo (fr_cur t2 l2 k2 hm h2 h3) hc0 h4 hs0 h5
       subst this;exact absurd (by unfold FR;rw [hX];exact hm) (hf i hin (.inr rfl))
 ·
  have hji:j≠i:=fun e=>hnd (.inr e)
  have hndj: ¬done j:=fun h=>hnd (.inl h)
  cases hl:loc' t with
  |none=>rfl
  |some li=>
   exfalso;rcases he.locnew t li hl with h|⟨h3,h4⟩
   · rw [hv.fresh j hj hndj t h1 h2] at h;cases h
   · rcases Nat.lt_or_gt_of_ne hji with h|h
     · have:=hr.len_mono (show j+1<=i by omega) (by omega);omega
     · have:=hr.len_mono (show i+1<=j by omega) (by omega);omega
 ·
  have hb2:b<w.heap.size:=Nat.lt_of_lt_of_le hb hv.size;rw [he.frame b hb2 (fun t k li k0 hm hl hs hsol hbb=>?_)]
  · exact hv.frame b hb hh
  · rcases hv.own t li k0 hl (wr_cur t k li k0 hm hl hs) hsol with h|⟨u,lu,ku,h1,h2,h3,h4⟩
    · omega
    · exact hh u lu ku h1 h2 h3 (by omega)
 · rcases he.imnew b o hb with h|h|⟨t,li,k,h1,h2,h3,h4,h5⟩
   · exact hv.imnew b o h
   · exact .inr (.inl (Nat.le_trans hv.size h))
   · rcases hv.own t li k h2 (fr_cur t li k (has_iff.1 h1) h2 h3) h4 with h|⟨u,lu,ku,g1,g2,g3,g4⟩
     · exact .inr (.inl (by omega))
     · exact .inr (.inr ⟨u,lu,ku,g1,g2,g3,by omega⟩)
 · rcases he.locnew t li hl with h|⟨h,_⟩
   · exact hv.locs t li h
   · exact .inr (Nat.le_trans (hr.len_mono (Nat.zero_le _) (by omega)) h)
 · rcases cases_t t li hl with ⟨j,k1,rfl,hj,_⟩|hlo
   · have e:=(cur_new j k1 hj).unique hr hc
     subst e;obtain ⟨h2,h3⟩:=he.news j k1 li hj hl;rcases (h3 hs).2 with h|⟨td,lt,kd,hm,hld,hsd,hsold,hbd⟩
     · exact .inl (Nat.le_trans hv.size h)
     · rcases hv.own td lt kd hld (wr_cur td _ lt kd hm hld hsd) hsold with h|⟨u,lu,ku,g1,g2,g3,g4⟩
       · exact .inl (by omega)
       · exact .inr ⟨u,lu,ku,g1,g2,g3,by omega⟩
   · obtain ⟨k0,hc0,hs0,_⟩:=old t li k hlo hc hs
     exact hv.own t li k0 hlo hc0 hs0
end
end Go.Vm
/- A region: a call that works on the blocks themselves, and a skipped operation. -/
namespace Go.Vm
section
variable {F : Tab} {rec : Task -> Option Out} {ops : List XOper} {S : Nat -> St} {X : Nat -> Option XR} {bef : Nat -> Nat -> Prop} {im0 : Im} {loc0 : Loc} {w0 : World} {nt : Nat}
  {done : Nat -> Prop} {im : Im} {loc : Loc} {a : Act} {w : World} {i : Nat}
theorem W_shr {v:PV} {s:Sto} {z:List Nat} (hX:X i=some (.shr v s z)) (t:Nat):W X i t:=by unfold W;rw [hX];trivial
theorem touches_of_W {j t:Nat} (h:W X j t):touches X j:=by
 unfold W at h;unfold touches;cases hX:X j with
 |none=>rw [hX] at h;exact h.elim
 |some x=>
  rw [hX] at h;cases x with
  |loc r=>
   obtain ⟨k,hk⟩:=h;exact .inr (.inr (.inl (by intro e;rw [e] at hk;cases hk)))
  |shr v s z=>trivial
theorem Inv.sr (hr:Run F rec ops S X) (ho:Ord ops S X bef) (hv:Inv ops S X im0 loc0 w0 nt done im loc a w) (hp:Place ops bef done i) {v:PV} {s:Sto} {z:List Nat} (hX:X i=some (.shr v s z)):
 SR im loc (S i).sto (S i).fz w where
 im_ok:=hv.im_ok
 blk:=fun t li hl=>by
  obtain ⟨k,hc,hb⟩:=hv.tok t li hl;exact ⟨k,hv.cur hr ho hp hl (.inr (W_shr hX t)) hc,hb⟩
 excl:=fun t u li lj k k' hl hl' hs hs' h h' hb=>by
  obtain ⟨k1,hc1,_⟩:=hv.tok t li hl;obtain ⟨k2,hc2,_⟩:=hv.tok u lj hl';have e1:=hv.cur hr ho hp hl (.inr (W_shr hX t)) hc1;have e2:=hv.cur hr ho hp hl' (.inr (W_shr hX u)) hc2;rw [hs] at e1;injection e1 with e1;subst e1;rw [hs'] at e2;injection e2 with e2;subst e2;exact hv.excl t u li lj _ _ hl hl' hc1 hc2 h h' hb
 free:=fun t li k hl hs h hz=>by
  obtain ⟨k1,hc1,_⟩:=hv.tok t li hl;have e1:=hv.cur hr ho hp hl (.inr (W_shr hX t)) hc1;rw [hs] at e1;injection e1 with e1;subst e1;obtain ⟨h0,h1⟩:=Inv.not_frozen hr ho hp (W_shr hX t) (has_false.1 hz);exact hv.free t li _ hl hc1 h h0 h1
theorem Inv.put_tm {S:Nat->St} (ho:Ord ops S X bef) (hp:Place ops bef done i) {x:XOper} (hx:ops[i]? =some x) {v:PV} {v':Value} {im':Im} {loc':Loc}
 (hv:Inv ops S X im0 loc0 w0 nt done im loc a w) (hi:ImLe im im') (hl:LocLe loc loc') (hS:(S (i+1)).env=putEnv x.dst v (S i).env) (hvr:VR im' loc' v v') (hdst: ∀d,x.dst=some d->d<nt):
 ∀t,∃m,m<=ops.length/\(∀j y,ops[j]? =some y->y.dst=some t->(plus done i j↔j<m))/\VR im' loc' (lk t (S m).env) ((a.put x.dst v').tmps.getD t Go.undef):=by
 intro t;have hin:=hp.lt
 by_cases hd:x.dst=some t
 · refine ⟨i+1,hin,fun j y hy hyd=>?_,?_⟩
   · rcases Nat.lt_trichotomy j i with h|h|h
     · exact ⟨fun _=>by omega,fun _=> .inl (hp.pre j (lt_of_get hy) (ho.slot1 j i t y x h hy hx hyd (.inr hd)))⟩
     · subst h;exact ⟨fun _=>by omega,fun _=> .inr rfl⟩
     · refine ⟨fun hdj=>?_,fun h'=>by omega⟩
       rcases hdj with hdj|hdj
       · exact absurd hdj (hp.later (lt_of_get hy) (ho.slot1 i j t x y h hx hy hd (.inr hyd)))
       · omega
   · rw [hS]
     simp only [hd,putEnv,lk_cons,if_true,Act.put]
     have:=hdst t hd
     simp [hv.nts,this,hvr]
 · obtain ⟨m,hm,h1,h2⟩:=hv.tm t
   refine ⟨m,hm,fun j y hy hyd=>?_,?_⟩
   · have hne:j≠i:=by intro e;subst e;rw [hx] at hy;injection hy with hy;subst hy;exact hd hyd
     have:=h1 j y hy hyd
     exact ⟨fun hdj=>this.1 (hdj.resolve_right hne),fun h=> .inl (this.2 h)⟩
   · have:=h2.mono hi hl
     cases hxd:x.dst with
     |none=>simpa [Act.put] using this
     |some d=>
      have hne:d≠t:=fun e=>hd (by rw [hxd,e])
      simpa [Act.put,Array.getElem?_setIfInBounds,hne] using this
theorem put_defers (a:Act) (d:Option Nat) (v:Value):(a.put d v).defers=a.defers:=by cases d<;>rfl
theorem put_size (a:Act) (d:Option Nat) (v:Value):(a.put d v).tmps.size=a.tmps.size:=by cases d<;>simp [Act.put]
theorem Inv.step_shr (hr:Run F rec ops S X) (ho:Ord ops S X bef) (hv:Inv ops S X im0 loc0 w0 nt done im loc a w) (hp:Place ops bef done i) {x:XOper} (hx:ops[i]? =some x) {v:PV} {s:Sto} {z:List Nat}
 (hX:X i=some (.shr v s z)) (hS:S (i+1)=(XR.shr v s z).next x.dst (S i)) {v':Value} {im':Im} {loc':Loc} {w':World} (hf:FPost im loc (S i).sto w v s z im' loc' w' v')
 (hdst: ∀d,x.dst=some d->d<nt):Inv ops S X im0 loc0 w0 nt (plus done i) im' loc' (a.put x.dst v') w':=by
 have hin:=hp.lt;have hsto:(S (i+1)).sto=s:=by rw [hS];rfl
 have cur0: ∀t li,loc t=some li-> ∀k,(S i).sto[t]? =some k->Cur S X ops.length done t k:=by
  intro t li hl k hs;obtain ⟨k1,hc1,_⟩:=hv.tok t li hl;have e1:=hv.cur hr ho hp hl (.inr (W_shr hX t)) hc1;rw [hs] at e1;injection e1 with e1;subst e1;exact hc1
 have cur1: ∀t k,s[t]? =some k->Cur S X ops.length (plus done i) t k:=by
  intro t k hs;refine ⟨i+1,hin,fun j hj hWj=>?_,fun c hc h1 h2=>?_,by rw [hsto];exact hs⟩
  · rcases Nat.lt_trichotomy j i with h|h|h
    · exact ⟨fun _=>by omega,fun _=> .inl (hp.pre j hj (ho.bar j i h hin (.inr ⟨touches_of_W hWj,⟨v,s,z,hX⟩⟩)))⟩
    · subst h;exact ⟨fun _=>by omega,fun _=> .inr rfl⟩
    · refine ⟨fun hd=>?_,fun h'=>by omega⟩
      rcases hd with hd|hd
      · exact absurd hd (hp.later hj (ho.bar i j h hj (.inl ⟨⟨v,s,z,hX⟩,touches_of_W hWj⟩)))
      · omega
  · rcases Nat.lt_or_ge c (i+1) with h|h
    · exact h
    · have:=hr.len_mono (show i+1<=c by omega) (by omega)
      have:=lt_of_get hs
      rw [hsto] at*;omega
 have cur2: ∀t li,loc' t=some li-> ∀k,Cur S X ops.length (plus done i) t k->s[t]? =some k:=by
  intro t li hl k hc;obtain ⟨k1,h1,_⟩:=hf.sr.blk t li hl
  have:=hc.unique hr (cur1 t k1 h1)
  subst this;exact h1
 refine {
  tm:=Inv.put_tm ho hp hx hv hf.imle hf.locle (by rw [hS];rfl) hf.vr hdst
  im_ok:=hf.sr.im_ok
  tok:=fun t li hl=>by
   obtain ⟨k,h1,h2⟩:=hf.sr.blk t li hl;exact ⟨k,cur1 t k h1,h2⟩
  excl:=fun t u li lj k k' hl hl' hc hc' hs hs' hb=>hf.sr.excl t u li lj k k' hl hl' (cur2 t li hl k hc) (cur2 u lj hl' k' hc') hs hs' hb
  free:=fun t li k hl hc hs h0 hfr=>by
   refine hf.sr.free t li k hl (cur2 t li hl k hc) hs (has_false.2 ?_)
   have:=hfr i hin (.inr rfl)
   unfold FR at this;rw [hX] at this;exact this
  fresh:=fun j hj hnd t h1 h2=>?_
  imle:=hv.imle.trans hf.imle
  locle:=hv.locle.trans hf.locle
  os:=hf.os.trans hv.os
  tape:=hf.tape.trans hv.tape
  output:=hf.output.trans hv.output
  size:=Nat.le_trans hv.size hf.size
  frame:=fun b hb hh=>?_
  imnew:=fun b o hb=>?_
  locs:=fun t li hl=>?_
  own:=fun t li k hl hc hs=>?_
  defers:=by rw [put_defers];exact hv.defers
  nts:=by rw [put_size];exact hv.nts}
 · have hji:j≠i:=fun e=>hnd (.inr e)
   have hndj: ¬done j:=fun h=>hnd (.inl h)
   cases hl:loc' t with
   |none=>rfl
   |some li=>
    exfalso;obtain ⟨k,hk,_⟩:=hf.sr.blk t li hl;have hlt:=lt_of_get hk;rcases hf.locs t li hl with h|h
    · rw [hv.fresh j hj hndj t h1 h2] at h;cases h
    · rcases Nat.lt_or_gt_of_ne hji with h'|h'
      · have:=hr.len_mono (show j+1<=i by omega) (by omega);omega
      · have:=hr.len_mono (show i+1<=j by omega) (by omega)
        rw [hsto] at this;omega
 · rw [hf.frame b (Nat.lt_of_lt_of_le hb hv.size) fun t li k hl hs hsol hbb=>?_]
   · exact hv.frame b hb hh
   · rcases hv.own t li k hl (cur0 t li hl k hs) hsol with h|⟨u,lu,ku,g1,g2,g3,g4⟩
     · omega
     · exact hh u lu ku g1 g2 g3 (by omega)
 · rcases hf.imnew b o hb with h|h|⟨t,li,k,h1,h2,h3,h4⟩
   · exact hv.imnew b o h
   · exact .inr (.inl (Nat.le_trans hv.size h))
   · rcases hv.own t li k h1 (cur0 t li h1 k h2) h3 with h|⟨u,lu,ku,g1,g2,g3,g4⟩
     · exact .inr (.inl (by omega))
     · exact .inr (.inr ⟨u,lu,ku,g1,g2,g3,by omega⟩)
 · rcases hf.locs t li hl with h|h
   · exact hv.locs t li h
   · exact .inr (Nat.le_trans (hr.len_mono (Nat.zero_le _) (by omega)) h)
 · rcases hf.own t li k hl (cur2 t li hl k hc) hs with h|⟨u,lu,ku,h1,h2,h3,h4⟩
   · exact .inl (Nat.le_trans hv.size h)
   · rcases hv.own u lu ku h1 (cur0 u lu h1 ku h2) h3 with h|⟨u',lu',ku',g1,g2,g3,g4⟩
     · exact .inl (by omega)
     · exact .inr ⟨u',lu',ku',g1,g2,g3,by omega⟩
theorem Inv.step_skip (_hr:Run F rec ops S X) (ho:Ord ops S X bef) (hv:Inv ops S X im0 loc0 w0 nt done im loc a w) (hp:Place ops bef done i) {x:XOper} (hx:ops[i]? =some x)
 (hX:X i=none) (hS:S (i+1)={S i with env:=putEnv x.dst .nul (S i).env}) (hdst: ∀d,x.dst=some d->d<nt):Inv ops S X im0 loc0 w0 nt (plus done i) im loc (a.put x.dst Go.undef) w:=by
 have hin:=hp.lt;have hnW: ∀t,¬W X i t:=fun t h=>by unfold W at h;rw [hX] at h;exact h
 have hsto:(S (i+1)).sto=(S i).sto:=by rw [hS]
 have cur1: ∀t k,Cur S X ops.length done t k->Cur S X ops.length (plus done i) t k:=by
  intro t k ⟨m,hm,h1,h2,h3⟩;refine ⟨m,hm,fun j hj hWj=>?_,h2,h3⟩
  have hne:j≠i:=fun e=>hnW t (e▸hWj)
  have:=h1 j hj hWj
  exact ⟨fun hd=>this.1 (hd.resolve_right hne),fun h=> .inl (this.2 h)⟩
 have cur2: ∀t k,Cur S X ops.length (plus done i) t k->Cur S X ops.length done t k:=by
  intro t k ⟨m,hm,h1,h2,h3⟩;refine ⟨m,hm,fun j hj hWj=>?_,h2,h3⟩
  have hne:j≠i:=fun e=>hnW t (e▸hWj)
  have:=h1 j hj hWj
  exact ⟨fun hd=>this.1 (.inl hd),fun h=>(this.2 h).resolve_right hne⟩
 refine {
  tm:=Inv.put_tm ho hp hx hv (.refl _) (.refl _) (by rw [hS]) .nul hdst
  im_ok:=hv.im_ok
  tok:=fun t li hl=>let ⟨k,h1,h2⟩:=hv.tok t li hl;⟨k,cur1 t k h1,h2⟩
  excl:=fun t u li lj k k' hl hl' hc hc' hs hs' hb=>hv.excl t u li lj k k' hl hl' (cur2 t k hc) (cur2 u k' hc') hs hs' hb
  free:=fun t li k hl hc hs h0 hfr=>hv.free t li k hl (cur2 t k hc) hs h0 fun j hj hd=>hfr j hj (.inl hd)
  fresh:=fun j hj hnd t h1 h2=>hv.fresh j hj (fun h=>hnd (.inl h)) t h1 h2
  imle:=hv.imle
  locle:=hv.locle
  os:=hv.os
  tape:=hv.tape
  output:=hv.output
  size:=hv.size
  frame:=hv.frame
  imnew:=hv.imnew
  locs:=hv.locs
  own:=fun t li k hl hc hs=>hv.own t li k hl (cur2 t k hc) hs
  defers:=by rw [put_defers];exact hv.defers
  nts:=by rw [put_size];exact hv.nts}
theorem Inv.start {st:St} (h0:S 0=st) (hsr:SR im0 loc0 st.sto st.fz w0) (her:ER im0 loc0 st.env a.tmps) (hd:a.defers=[]) (hn:a.tmps.size=nt) (hr:Run F rec ops S X):
 Inv ops S X im0 loc0 w0 nt (fun _=>False) im0 loc0 a w0:=by
 subst h0;have hlt: ∀t li,loc0 t=some li->t<(S 0).sto.length:=fun t li hl=>let ⟨k,h,_⟩:=hsr.blk t li hl;lt_of_get h
 have cur: ∀t li k,loc0 t=some li->Cur S X ops.length (fun _=>False) t k->(S 0).sto[t]? =some k:=by
  intro t li k hl ⟨m,hm,h1,h2,h3⟩;rw [<- hr.same_to (Nat.zero_le m) hm (fun j _ hj hW=>(h1 j (by omega) hW).2 hj) (hlt t li hl)]
  exact h3
 exact {
  tm:=fun t=>⟨0,Nat.zero_le _,fun j y _ _=>⟨fun h=>h.elim,fun h=>by omega⟩,her t⟩
  im_ok:=hsr.im_ok
  tok:=fun t li hl=>by
   obtain ⟨k,h1,h2⟩:=hsr.blk t li hl;refine ⟨k,⟨0,Nat.zero_le _,fun j _ _=>⟨fun h=>h.elim,fun h=>by omega⟩,fun c hc h3 h4=>?_,h1⟩,h2⟩
   have:=hlt t li hl
   have:=hr.len_mono (Nat.zero_le c) (by omega)
   omega
  excl:=fun t u li lj k k' hl hl' hc hc'=>hsr.excl t u li lj k k' hl hl' (cur t li k hl hc) (cur u lj k' hl' hc')
  free:=fun t li k hl hc hs hz _=>hsr.free t li k hl (cur t li k hl hc) hs (has_false.2 hz)
  fresh:=fun j hj _ t h1 h2=>by
   cases hl:loc0 t with
   |none=>rfl
   |some li=>
    have:=hlt t li hl
    have:=hr.len_mono (Nat.zero_le j) (by omega)
    omega
  imle:= .refl _
  locle:= .refl _
  os:=rfl
  tape:=rfl
  output:=rfl
  size:=Nat.le_refl _
  frame:=fun _ _ _=>rfl
  imnew:=fun _ _ h=> .inl h
  locs:=fun _ _ h=> .inl h
  own:=fun t li k hl hc hs=> .inr ⟨t,li,k,hl,cur t li k hl hc,hs,rfl⟩
  defers:=hd
  nts:=hn}
structure Kept (im0:Im) (loc0:Loc) (sto0:Sto) (w0:World) (st:St) (im:Im) (loc:Loc) (w:World):Prop where
 sr:SR im loc st.sto st.fz w
 imle:ImLe im0 im
 locle:LocLe loc0 loc
 os:w.os=w0.os
 tape:w.tape=w0.tape
 output:w.output=w0.output
 size:w0.heap.size<=w.heap.size
 frame: ∀b,b<w0.heap.size->(∀t li k,loc0 t=some li->sto0[t]? =some k->k.solid=true->li.blk≠b)->w.heap[b]? =w0.heap[b]?
 imnew: ∀b o,im b=some o->im0 b=some o\/w0.heap.size<=b\/ ∃t li k,loc0 t=some li/\sto0[t]? =some k/\k.solid=true/\li.blk=b
 locs: ∀t li,loc t=some li->loc0 t=some li\/sto0.length<=t
 own: ∀t li k,loc t=some li->st.sto[t]? =some k->k.solid=true->(w0.heap.size<=li.blk\/ ∃u lu ku,loc0 u=some lu/\sto0[u]? =some ku/\ku.solid=true/\lu.blk=li.blk)
theorem Inv.finish (hr : Run F rec ops S X) (hv : Inv ops S X im0 loc0 w0 nt done im loc a w) (hd : ∀ j, j < ops.length -> done j) :
    Kept im0 loc0 (S 0).sto w0 (S ops.length) im loc w /\ ER im loc (S ops.length).env a.tmps /\ a.defers = [] /\ a.tmps.size = nt := by
  have cur : ∀ t k, Cur S X ops.length done t k -> (S ops.length).sto[t]? = some k := by
    intro t k ⟨m, hm, h1, h2, h3⟩
    rw [hr.same_to hm (Nat.le_refl _) (fun j h4 h5 hW => by have := (h1 j h5 hW).1 (hd j h5); omega) (lt_of_get h3)]
    exact h3
  have cur' : ∀ t li k, loc t = some li -> (S ops.length).sto[t]? = some k -> Cur S X ops.length done t k := by
    intro t li k hl hs
    obtain ⟨k1, hc, _⟩ := hv.tok t li hl
    have := cur t k1 hc
    rw [hs] at this; injection this with this; subst this; exact hc
  refine ⟨{
    sr := { im_ok := hv.im_ok
            blk := fun t li hl => let ⟨k, h1, h2⟩ := hv.tok t li hl; ⟨k, cur t k h1, h2⟩
            excl := fun t u li lj k k' hl hl' hs hs' => hv.excl t u li lj k k' hl hl' (cur' t li k hl hs) (cur' u lj k' hl' hs')
            free := fun t li k hl hs hsol hz => by
              have hz := has_false.1 hz
              refine hv.free t li k hl (cur' t li k hl hs) hsol (fun h => hz (hr.fz_mono (Nat.zero_le _) (Nat.le_refl _) t h)) fun j hj _ hf => ?_
              exact hz (hr.fz_mono (show j + 1 <= ops.length from hj) (Nat.le_refl _) t (hr.fr_fz hj hf)) }
    imle := hv.imle, locle := hv.locle, os := hv.os, tape := hv.tape, output := hv.output, size := hv.size, frame := hv.frame, imnew := hv.imnew, locs := hv.locs
    own := fun t li k hl hs => hv.own t li k hl (cur' t li k hl hs) }, fun t => ?_, hv.defers, hv.nts⟩
  obtain ⟨m, hm, h1, h2⟩ := hv.tm t
  rw [hr.env_to hm (Nat.le_refl _) fun j hj h3 h4 hdst => ?_]
  · exact h2
  · have := (h1 j _ (List.getElem?_eq_getElem hj) hdst).1 (hd j hj); omega
end
end Go.Vm
/- One operation of a region, in the model. -/
namespace Go.Vm
theorem callTo_wp {P:Program} {o:Oper} {a:Act} {w:World} {f:FuncId} {us:Array Value} {R:Value->World->Prop} {next:Act->World->Prop} {Q:Exit->Act->World->Prop}
 (h:(execOp a.eval o).run P w=(callFunc f us).run P w) (hc:CallTo P f us w R) (hR: ∀v w',R v w'->next (a.put o.dst v) w'):o.wp P a w next Q:=by
 unfold Oper.wp;rw [h];rcases hc with ⟨v,w',h1,h2⟩|⟨h1,h2⟩
 · rw [h1,Oper.upon_value];exact hR v w' h2
 · rw [h1,Oper.upon_enter]
   refine h2.mono fun e w' ⟨v,he,hv⟩=>?_
   subst he;exact hR v w' hv
theorem opd_ok {im:Im} {loc:Loc} {e:Env} {a:Act} (x:Opd) (h: ∀t,x= .t t->VR im loc (lk t e) (a.tmps.getD t Go.undef)) (o:Operand) (hc:chkOpd x o=true):VR im loc (x.ev e) (a.eval o):=by
 unfold chkOpd at hc;split at hc
 · rename_i n m
   have:n=m:=by simpa using hc
   subst this;exact h n rfl
 · exact cval_ok hc
 · rename_i f g
   have:f=g:=by simpa using hc
   subst this;exact .clo f [] [] [] [] .nil .nil
 · exact .undef _
 · cases hc
section
variable {P : Program} {F : Tab} {rec : Task -> Option Out} {ops : List XOper} {S : Nat -> St} {X : Nat -> Option XR} {bef : Nat -> Nat -> Prop} {im0 : Im} {loc0 : Loc} {w0 : World} {nt : Nat}
  {done : Nat -> Prop} {im : Im} {loc : Loc} {a : Act} {w : World} {i : Nat} {prims : FuncId -> Bool} {mops : Array Oper}
theorem VR.nul_inv {v:Value} (h:VR im loc .nul v):v=Go.undef:=by
 cases h;rfl
theorem noRes_next {r:Res} {d:Option Nat} {st:St}:((XR.loc r).next d st).sto.length=st.sto.length+r.news.length:=by simp [XR.next,addN_eq,applyWr_length]
theorem wanted_ok {x:XOper} {o:Oper} {e:Env} {b:Bool} (hc:chkGuard mops x.guard o.guard=true) (hs: ∀s c,x.guard=some (s,c)->VR im loc (lk s e) (a.tmps.getD s Go.undef)) (h:wanted x.guard e=some b):
 Region.wanted o (yielded mops a.tmps)=b:=by
 unfold Region.wanted;cases hg:x.guard with
 |none=>
  rw [hg] at hc h;cases ho:o.guard with
  |none=>simp [wanted] at h;subst h;rfl
  |some q=>rw [ho] at hc;simp [chkGuard] at hc
 |some q=>
  obtain ⟨s,c⟩:=q;rw [hg] at hc h;cases ho:o.guard with
  |none=>rw [ho] at hc;simp [chkGuard] at hc
  |some q'=>
   obtain ⟨j,c'⟩:=q';rw [ho] at hc;simp only [chkGuard,Bool.and_eq_true,beq_iff_eq] at hc;obtain ⟨rfl,hd⟩:=hc;have hv:=hs s c hg;dsimp only;unfold yielded;rw [hd];simp only [wanted] at h;simp only [Option.bind_some];split at h
   · rename_i b' hl
     rw [hl] at hv
     have:=hv.bool_inv
     have ht:a.tmps[s]? =some (.bool b'):=by
      simp only [Array.getD_eq_getD_getElem?] at this;cases hq:a.tmps[s]? with
      |none=>rw [hq] at this;simp [Go.undef] at this
      |some u=>rw [hq] at this;exact congrArg some this
     rw [ht];rw [Option.some.injEq] at h;rw [<- h];cases b'<;>cases c<;>rfl
   · rename_i hl
     rw [hl] at hv
     have:a.tmps.getD s Go.undef=Go.undef:=hv.nul_inv
     injection h with h;subst h;have ht: ∀b',a.tmps[s]?≠some (.bool b'):=by
      intro b' hq;simp only [Array.getD_eq_getD_getElem?,hq,Option.getD_some,Go.undef] at this;cases this
     split
     · rename_i b' hq
       exact absurd hq (ht b')
     · rfl
   · cases h
structure Env0 (P:Program) (F:Tab) (rec:Task->Option Out):Prop where
 func:FuncOK P rec
 prim:PrimsOK P F
theorem Inv.wpOp (hE:Env0 P F rec) (hr:Run F rec ops S X) (ho:Ord ops S X bef) (hv:Inv ops S X im0 loc0 w0 nt done im loc a w) (hp:Place ops bef done i) {x:XOper} {o:Oper} (hx:ops[i]? =some x) (hmo:mops[i]? =some o)
 (hc:chkOper P prims nt mops x o=true) {Q:Exit->Act->World->Prop} {K:Act->World->Prop}
 (hK: ∀im' loc' a' w',Inv ops S X im0 loc0 w0 nt (plus done i) im' loc' a' w'->K a' w'):Go.wpOp P mops Q i K a w:=by
 unfold chkOper at hc;simp only [Bool.and_eq_true,beq_iff_eq] at hc;obtain ⟨⟨⟨hdst,hnt⟩,hg⟩,hop⟩:=hc;have hd: ∀d,x.dst=some d->d<nt:=by
  intro d h;rw [h] at hnt;simpa using hnt
 have hslot: ∀t,t∈uses x->VR im loc (lk t (S i).env) (a.tmps.getD t Go.undef):=fun t ht=>hv.slot hr ho hp hx ht
 have hopd: ∀y∈x.op.opds,∀o',chkOpd y o'=true->VR im loc (y.ev (S i).env) (a.eval o'):=by
  intro y hy o' hco;refine opd_ok y (fun t ht=>hslot t ?_) o' hco
  subst ht;exact List.mem_append_left _ (List.mem_filterMap.2 ⟨.t t,hy,rfl⟩)
 have hgs: ∀s c,x.guard=some (s,c)->VR im loc (lk s (S i).env) (a.tmps.getD s Go.undef):=by
  intro s c h;refine hslot s (List.mem_append_right _ ?_);rw [h];simp
 unfold Go.wpOp;simp only [hmo];rcases hr.steps i x hx with ⟨hw,xr,hev,hok,hX,hS⟩|⟨hw,hX,hS⟩
 · rw [wanted_ok hg hgs hw]
   simp only [if_true];left;have loc_call: ∀{own:Bool} {f:FuncId} {args:List PV} {us:List Value} {r:Res},xr= .loc r->callPure F rec own f args (S i).sto (S i).fz=some r->VRL im loc args us->
    (execOp a.eval o).run P w=(callFunc f ⟨us⟩).run P w->o.wp P a w K Q:=by
    intro own f args us r hxr hcp hus hrun;subst hxr;have hk:=hv.known hr ho hp hX hok (by rw [hS];exact noRes_next)
    refine callTo_wp hrun (callPure_sim hE.func hE.prim hcp hus hk) fun v' w' ⟨im',loc',hvr,heff⟩=>?_
    exact hK _ _ _ _ (hdst▸hv.step_loc hr ho hp hx hX hok hS hvr heff hd)
   have shr_call: ∀{f:FuncId} {args:List PV} {us:List Value},callShared rec f args (S i).sto (S i).fz=some xr->VRL im loc args us->
    (execOp a.eval o).run P w=(callFunc f ⟨us⟩).run P w->o.wp P a w K Q:=by
    intro f args us hcs hus hrun;unfold callShared at hcs;split at hcs
    · rename_i v s z hrec
      split at hcs
      · injection hcs with hcs;subst hcs
        refine callTo_wp hrun (hE.func f args _ _ v s z hrec im loc w us (hv.sr hr ho hp hX) hus) fun v' w' ⟨im',loc',hf⟩=>?_
        exact hK _ _ _ _ (hdst▸hv.step_shr hr ho hp hx hX hS hf hd)
      · cases hcs
    · cases hcs
   have loc_op: ∀{r:Res},xr= .loc r->evOp (S i).env (S i).sto (S i).fz x.op=some r->o.wp P a w K Q:=by
    intro r hxr he;subst hxr;have hk:=hv.known hr ho hp hX hok (by rw [hS];exact noRes_next)
    obtain ⟨nx,w',loc',hrun,hnx,heff⟩:=evOp_sim hop hopd he hk;unfold Oper.wp;rw [hrun];rcases hnx with ⟨rfl,hu⟩|⟨v,rfl,hvr⟩
    · rw [Oper.upon_skip]
      exact hK _ _ _ _ (hdst▸hv.step_loc hr ho hp hx hX hok hS (by rw [hu];exact .undef _) heff hd)
    · rw [Oper.upon_value]
      exact hK _ _ _ _ (hdst▸hv.step_loc hr ho hp hx hX hok hS hvr heff hd)
   cases hxo:x.op with
   |call m f args=>
    rw [hxo] at hev hop hopd;have hcall: ∃as ats,o.op= .call {callee:= .value (.func f),args:=as,argTypes:=ats}/\chkOpds args as.toList=true:=by
     cases hoo:o.op with
     |call c=>
      obtain ⟨callee,as,ats⟩:=c;rw [hoo] at hop;cases callee with
      |value g=>
       cases g with
       |func g=>
        simp only [chkOp,Bool.and_eq_true,beq_iff_eq] at hop;obtain ⟨⟨rfl,_⟩,h⟩:=hop;exact ⟨as,ats,rfl,h⟩
       |_=>simp [chkOp] at hop
      |_=>simp [chkOp] at hop
     |_=>rw [hoo] at hop;simp [chkOp] at hop
    obtain ⟨as,ats,hoo,hco⟩:=hcall;have hrel:VRL im loc (evs (S i).env args) (as.toList.map a.eval):=chkOpds_rel (fun y hy=>hopd y (by simpa [XOp.opds] using hy)) hco
    have hrun:(execOp a.eval o).run P w=(callFunc f ⟨as.toList.map a.eval⟩).run P w:=by
     have:(⟨as.toList.map a.eval⟩:Array Value)=as.map a.eval:=by apply Array.ext';simp
     rw [this];simp [execOp,hoo,resolve,Act.eval,Deferred.ofValue,invoke]
    cases m with
    |pur=>
     simp only [evX,Option.map_eq_some_iff] at hev;obtain ⟨r,hr1,hr2⟩:=hev;exact loc_call hr2.symm hr1 hrel hrun
    |own=>
     simp only [evX,Option.map_eq_some_iff] at hev;obtain ⟨r,hr1,hr2⟩:=hev;exact loc_call hr2.symm hr1 hrel hrun
    |shr=>exact shr_call hev hrel hrun
    |fp=>
     simp only [evX,Option.map_eq_some_iff] at hev;obtain ⟨r,hr1,hr2⟩:=hev;subst hr2;have hk:=hv.known hr ho hp hX hok (by rw [hS];exact noRes_next)
     refine callTo_wp hrun (callFp_sim hE.func hr1 hrel hk) fun v' w' ⟨im',loc',hvr,heff⟩=>?_
     exact hK _ _ _ _ (hdst▸hv.step_loc hr ho hp hx hX hok hS hvr heff hd)
   |callv y args=>
    rw [hxo] at hev hop hopd;have hcall: ∃t as ats,o.op= .call {callee:= .value (.tmp t),args:=as,argTypes:=ats}/\chkOpd y (.tmp t)=true/\chkOpds args as.toList=true:=by
     cases hoo:o.op with
     |call c=>
      obtain ⟨callee,as,ats⟩:=c;rw [hoo] at hop;cases callee with
      |value g=>
       cases g with
       |tmp g=>
        simp only [chkOp,Bool.and_eq_true] at hop;exact ⟨g,as,ats,rfl,hop.1,hop.2⟩
       |_=>simp [chkOp] at hop
      |_=>simp [chkOp] at hop
     |_=>rw [hoo] at hop;simp [chkOp] at hop
    obtain ⟨t,as,ats,hoo,hcy,hco⟩:=hcall;have hrel:VRL im loc (evs (S i).env args) (as.toList.map a.eval):=chkOpds_rel (fun y hy=>hopd y (by simp [XOp.opds,hy])) hco
    have hy:=hopd y (by simp [XOp.opds]) (.tmp t) hcy
    simp only [evX] at hev;split at hev
    · rename_i f p q hyv
      rw [hyv] at hy;generalize hgv:a.eval (.tmp t)=gv at hy;cases hy with
      |clo _ _ _ us vs h1 h2=>
      have hargs:=(h1.append hrel).append h2;have hrun:(execOp a.eval o).run P w=(callFunc f ⟨us++as.toList.map a.eval++vs⟩).run P w:=by
       have:(⟨us++as.toList.map a.eval++vs⟩:Array Value)=(⟨us⟩++as.map a.eval)++⟨vs⟩:=by apply Array.ext';simp
       rw [this];simp [execOp,hoo,resolve,hgv,Deferred.ofValue,invoke]
      split at hev
      · exact shr_call hev hargs hrun
      · rw [Option.map_eq_some_iff] at hev
        obtain ⟨r,hr1,hr2⟩:=hev;exact loc_call hr2.symm hr1 hargs hrun
    · cases hev
   |_=>
    rw [hxo] at hev;simp only [evX,Option.map_eq_some_iff] at hev;obtain ⟨r,hr1,hr2⟩:=hev;exact loc_op hr2.symm (by rw [hxo];exact hr1)
 · rw [wanted_ok hg hgs hw]
   simp only [Bool.false_eq_true,if_false];exact hK _ _ _ _ (hdst▸hv.step_skip hr ho hp hx hX hS hd)
end
end Go.Vm
/- A region, in the order of the text or in a drawn one. -/
namespace Go.Vm
def chkOpers (P:Program) (prims:FuncId->Bool) (nt:Nat) (mops:Array Oper):List XOper->List Oper->Bool
 | [],[]=>true
 |x::xs,o::os=>chkOper P prims nt mops x o&&chkOpers P prims nt mops xs os
 |_,_=>false
theorem chkOpers_get {P:Program} {prims:FuncId->Bool} {nt:Nat} {mops:Array Oper}: ∀{xs:List XOper} {os:List Oper},chkOpers P prims nt mops xs os=true->
 xs.length=os.length/\ ∀(i:Nat) (x:XOper) (o:Oper),xs[i]? =some x->os[i]? =some o->chkOper P prims nt mops x o=true
 | [],[],_=>⟨rfl,fun i x o h=>by simp at h⟩
 |x::xs,o::os,h=>by
  simp only [chkOpers,Bool.and_eq_true] at h;obtain ⟨h1,h2⟩:=chkOpers_get h.2;refine ⟨by simp [h1],fun i y p hy hp=>?_⟩
  cases i with
  |zero=>simp at hy hp;subst hy hp;exact h.1
  |succ i=>exact h2 i y p (by simpa using hy) (by simpa using hp)
 | [],_::_,h=>by simp [chkOpers] at h
 |_::_,[],h=>by simp [chkOpers] at h
def bit (m i:Nat):Bool:=Nat.testBit m i
def edgesMask (masks:List Nat) (j:Nat):List Edge->Option Nat
 | []=>some 0
 |e::es=>match edgesMask masks j es with
  |some m=>if Region.binds .any e then (if Nat.blt e.on j then some (m|||((masks.getD e.on 0)|||(1<<<e.on))) else none) else some m
  |none=>none
def chkMasks (masks:List Nat):Nat->List Nat->List Oper->Bool
 |_,[],[]=>true
 |j,m::ms,o::os=>(match edgesMask masks j o.after.toList with|some m'=>m==m'|none=>false)&&chkMasks masks (j+1) ms os
 |_,_,_=>false
def chkSlots1 (i : Nat) (x : XOper) (ux : List Nat) : List XOper -> List Nat -> Bool
  | [], _ => true
  | y :: ys, m :: ms => (bit m i || ((match x.dst with
      | some d => !has (uses y) d && (match y.dst with | some d' => !(Nat.beq d d') | none => true)
      | none => true) && (match y.dst with | some d => !has ux d | none => true))) && chkSlots1 i x ux ys ms
  | _ :: _, [] => false
def chkSlots:Nat->List XOper->List Nat->Bool
 |_,[],_=>true
 |i,x::xs,_::ms=>chkSlots1 i x (uses x) xs ms&&chkSlots (i+1) xs ms
 |_,_::_,[]=>false
def chkRegion (P:Program) (prims:FuncId->Bool) (nt:Nat) (draw:Option (List Nat)) (xops:List XOper) (mops:Array Oper) (flag:Bool):Bool:=
 chkOpers P prims nt mops xops mops.toList&&match draw with
 |none=>!flag
 |some bf=>flag&&Nat.beq bf.length xops.length&&chkMasks bf 0 bf mops.toList&&chkSlots 0 xops bf
section
variable {P : Program} {F : Tab} {rec : Task -> Option Out} {ops : List XOper} {S : Nat -> St} {X : Nat -> Option XR} {bef : Nat -> Nat -> Prop} {im0 : Im} {loc0 : Loc} {w0 : World} {nt : Nat}
  {done : Nat -> Prop} {im : Im} {loc : Loc} {a : Act} {w : World} {i : Nat} {prims : FuncId -> Bool} {mops : Array Oper}
theorem Ord.text:Ord ops S X (· < ·) where
 slot1:=fun _ _ _ _ _ h _ _ _ _=>h
 slot2:=fun _ _ _ _ _ h _ _ _ _=>h
 tok1:=fun _ _ _ h _ _ _=>h
 tok2:=fun _ _ _ h _ _ _=>h
 tok3:=fun _ _ _ h _ _ _ _ _ _=>h
 bar:=fun _ _ h _ _=>h
 cl:=fun _ _ _ _ _=> .inr fun _ h _=>h
theorem wpOps_text (hE:Env0 P F rec) (hr:Run F rec ops S X) (hc: ∀(i:Nat) (x:XOper) (o:Oper),ops[i]? =some x->mops[i]? =some o->chkOper P prims nt mops x o=true) (hlen:ops.length=mops.size)
 {Q:Exit->Act->World->Prop} (hQ: ∀im loc a w,Inv ops S X im0 loc0 w0 nt (fun i=>i<ops.length) im loc a w->Q .normal a w):
 ∀(d n:Nat) (im:Im) (loc:Loc) (a:Act) (w:World),n+d=ops.length->Inv ops S X im0 loc0 w0 nt (fun i=>i<n) im loc a w->wpOps P mops Q (List.range' n d) a w
 |0,n,im,loc,a,w,hn,hv=>by
  have:n=ops.length:=by omega
  subst this;exact hQ im loc a w hv
 |d+1,n,im,loc,a,w,hn,hv=>by
  rw [List.range'_succ,wpOps_cons];have hx:=List.getElem?_eq_getElem (show n<ops.length by omega)
  have ho:=Array.getElem?_eq_getElem (show n<mops.size by omega)
  refine Inv.wpOp hE hr Ord.text hv {lt:=by omega,nd:=by omega,pre:=fun j _ h=>h,clo:=fun k _ h1 j _ h2=>by omega} hx ho (hc n _ _ hx ho) fun im' loc' a' w' h'=>?_
  refine wpOps_text hE hr hc hlen hQ d (n+1) im' loc' a' w' (by omega) ?_
  have e:plus (fun i=>i<n) n=fun i=>i<n+1:=by
   funext j;unfold plus;apply propext;omega
  rw [e] at h';exact h'
def Bef (masks:List Nat) (i j:Nat):Prop:=bit (masks.getD j 0) i=true
theorem edgesMask_ok {masks:List Nat} {j:Nat}: ∀{es:List Edge} {m:Nat},edgesMask masks j es=some m->(∀e∈es,Region.binds .any e=true->e.on<j)/\
 ∀i,bit m i=true-> ∃e∈es,Region.binds .any e=true/\(e.on=i\/bit (masks.getD e.on 0) i=true)
 | [],m,h=>by
  simp only [edgesMask,Option.some.injEq] at h;subst h;exact ⟨fun e h=>(by cases h),fun i h=>by simp [bit] at h⟩
 |e::es,m,h=>by
  simp only [edgesMask] at h;split at h
  · rename_i m' hm'
    obtain ⟨h1,h2⟩:=edgesMask_ok hm';split at h
    · rename_i hb
      split at h
      · rename_i hlt
        injection h with h;subst h;refine ⟨fun e' he' hb'=>?_,fun i hi=>?_⟩
        · rcases List.mem_cons.1 he' with rfl|he'
          · simpa using hlt
          · exact h1 e' he' hb'
        · simp only [bit,Nat.testBit_or,Bool.or_eq_true] at hi
          rcases hi with hi|hi|hi
          · obtain ⟨e',he',h3⟩:=h2 i hi
            exact ⟨e',List.mem_cons_of_mem _ he',h3⟩
          · exact ⟨e,by simp,hb,.inr hi⟩
          · refine ⟨e,by simp,hb,.inl ?_⟩
            rw [Nat.one_shiftLeft,Nat.testBit_two_pow] at hi;simpa using hi
      · cases h
    · rename_i hb
      injection h with h;subst h;refine ⟨fun e' he' hb'=>?_,fun i hi=>?_⟩
      · rcases List.mem_cons.1 he' with rfl|he'
        · exact absurd hb' hb
        · exact h1 e' he' hb'
      · obtain ⟨e',he',h3⟩:=h2 i hi
        exact ⟨e',List.mem_cons_of_mem _ he',h3⟩
  · cases h
theorem chkMasks_ok {masks:List Nat}: ∀{j:Nat} {ms:List Nat} {os:List Oper},chkMasks masks j ms os=true->ms.length=os.length/\
 ∀(k:Nat) (m:Nat) (o:Oper),ms[k]? =some m->os[k]? =some o->edgesMask masks (j+k) o.after.toList=some m
 |j,[],[],_=>⟨rfl,fun k m o h=>by simp at h⟩
 |j,m::ms,o::os,h=>by
  simp only [chkMasks,Bool.and_eq_true] at h;obtain ⟨h1,h2⟩:=h;obtain ⟨h3,h4⟩:=chkMasks_ok h2;refine ⟨by simp [h3],fun k m' o' hm ho=>?_⟩
  cases k with
  |zero=>
   simp at hm ho;subst hm ho;split at h1
   · rename_i m2 hm2
     have:m=m2:=by simpa using h1
     subst this;exact hm2
   · cases h1
  |succ k=>
   have:=h4 k m' o' (by simpa using hm) (by simpa using ho)
   rw [show j+(k+1)=j+1+k by omega];exact this
 |j,[],_::_,h=>by simp [chkMasks] at h
 |j,_::_,[],h=>by simp [chkMasks] at h
theorem chkSlots1_ok {i:Nat} {x:XOper} {ux:List Nat}: ∀{ys:List XOper} {ms:List Nat},chkSlots1 i x ux ys ms=true-> ∀(k:Nat) (y:XOper),ys[k]? =some y->
 bit (ms.getD k 0) i=true\/((∀d,x.dst=some d->d∉uses y/\y.dst≠some d)/\ ∀d,y.dst=some d->d∉ux)
 | [],_,_,k,y,h=>by simp at h
 |z::ys,[],h,k,y,hy=>by simp [chkSlots1] at h
 |z::ys,m::ms,h,k,y,hy=>by
  simp only [chkSlots1,Bool.and_eq_true,Bool.or_eq_true] at h;obtain ⟨h1,h2⟩:=h;cases k with
  |succ k=>simpa using chkSlots1_ok h2 k y (by simpa using hy)
  |zero=>
   simp at hy;subst hy;rcases h1 with h1|⟨h1,h3⟩
   · exact .inl (by simpa using h1)
   · refine .inr ⟨fun d hd=>?_,fun d hd=>?_⟩
     · rw [hd] at h1
       simp only [Bool.and_eq_true,Bool.not_eq_true'] at h1;refine ⟨has_false.1 h1.1,fun hz=>?_⟩
       rw [hz] at h1;simp at h1
     · rw [hd] at h3
       simp only [Bool.not_eq_true'] at h3;exact has_false.1 h3
theorem chkSlots_ok: ∀{i0:Nat} {xs:List XOper} {ms:List Nat},chkSlots i0 xs ms=true-> ∀(i j:Nat) (x y:XOper),i<j->xs[i]? =some x->xs[j]? =some y->
 bit (ms.getD j 0) (i0+i)=true\/((∀d,x.dst=some d->d∉uses y/\y.dst≠some d)/\ ∀d,y.dst=some d->d∉uses x)
 |i0,[],_,_,i,j,x,y,_,hx,_=>by simp at hx
 |i0,z::xs,[],h,i,j,x,y,_,hx,_=>by simp [chkSlots] at h
 |i0,z::xs,m::ms,h,i,j,x,y,hij,hx,hy=>by
  simp only [chkSlots,Bool.and_eq_true] at h;obtain ⟨h1,h2⟩:=h;cases j with
  |zero=>omega
  |succ j=>
   cases i with
   |zero=>
    simp at hx;subst hx;simpa using chkSlots1_ok h1 j y (by simpa using hy)
   |succ i=>
    have:=chkSlots_ok h2 i j x y (by omega) (by simpa using hx) (by simpa using hy)
    rw [show i0+(i+1)=i0+1+i by omega]
    simpa using this
theorem freeOf_ok {i:Nat} {t:Tr}: ∀{l:List (Tr×Nat)},freeOf i t l=true-> ∀(k:Nat) (b:Tr) (m:Nat),l[k]? =some (b,m)->t.clash b=true->bit m i=true
 | [],_,k,b,m,h,_=>by simp at h
 |(b',m')::r,h,k,b,m,hk,hc=>by
  simp only [freeOf,Bool.and_eq_true,Bool.or_eq_true,Bool.not_eq_true'] at h;cases k with
  |zero=>
   simp at hk;obtain ⟨rfl,rfl⟩:=hk;rcases h.1 with h1|h1
   · rw [hc] at h1;cases h1
   · exact h1
  |succ k=>exact freeOf_ok h.2 k b m (by simpa using hk) hc
theorem orderOk_ok: ∀{i0:Nat} {l:List (Tr×Nat)},orderOk i0 l=true->(∀(i:Nat) (t:Tr) (m:Nat),l[i]? =some (t,m)->t.cl=true)/\
 ∀(i j:Nat) (t b:Tr) (m m':Nat),i<j->l[i]? =some (t,m)->l[j]? =some (b,m')->t.clash b=true->bit m' (i0+i)=true
 |_,[],_=>⟨fun i t m h=>by simp at h,fun i j t b m m' _ h=>by simp at h⟩
 |i0,(t0,m0)::r,h=>by
  simp only [orderOk,Bool.and_eq_true] at h;obtain ⟨⟨h1,h2⟩,h3⟩:=h;obtain ⟨h4,h5⟩:=orderOk_ok h3;refine ⟨fun i t m hi=>?_,fun i j t b m m' hij hi hj hc=>?_⟩
  · cases i with
    |zero=>simp at hi;obtain ⟨rfl,rfl⟩:=hi;exact h1
    |succ i=>exact h4 i t m (by simpa using hi)
  · cases j with
    |zero=>omega
    |succ j=>
     cases i with
     |zero=>
      simp at hi;obtain ⟨rfl,rfl⟩:=hi;exact freeOf_ok h2 j b m' (by simpa using hj) hc
     |succ i=>
      rw [show i0+(i+1)=i0+1+i by omega]
      exact h5 i j t b m m' (by omega) (by simpa using hi) (by simpa using hj) hc
theorem meets_of {l m:List Nat} {t:Nat} (h1:t∈l) (h2:t∈m):meets l m=true:=by
 unfold meets;rw [List.any_eq_true];exact ⟨t,h1,has_iff.2 h2⟩
theorem Ord.drawn (hr : Run F rec ops S X) {masks : List Nat} (hml : masks.length = ops.length) (hs : chkSlots 0 ops masks = true) (ho : orderOk 0 ((trsOf S X ops.length).zip masks) = true) : Ord ops S X (Bef masks) := by
  obtain ⟨hcl, hcz⟩ := orderOk_ok ho
  have hget : ∀ i, i < ops.length -> ((trsOf S X ops.length).zip masks)[i]? = some (trOf (X i) (S i), masks.getD i 0) := by
    intro i hi
    rw [List.getElem?_zip_eq_some]
    refine ⟨?_, ?_⟩
    · unfold trsOf; simp [hi]
    · rw [List.getD_eq_getElem?_getD, List.getElem?_eq_getElem (by omega)]; rfl
  have clash : ∀ i j, i < j -> j < ops.length -> (trOf (X i) (S i)).clash (trOf (X j) (S j)) = true -> Bef masks i j := by
    intro i j hij hj hc
    have := hcz i j _ _ _ _ hij (hget i (by omega)) (hget j hj) hc
    unfold Bef; simpa using this
  have tch : ∀ j, touches X j -> (trOf (X j) (S j)).touches = true := by
    intro j h
    unfold touches at h
    unfold trOf
    cases hX : X j with
    | none => rw [hX] at h; exact h.elim
    | some x =>
      rw [hX] at h
      cases x with
      | shr v s z => rfl
      | loc r =>
        simp only [XR.tr, Tr.touches, Bool.or_false]
        rcases h with h | h | h | h
        · cases hrd : r.rd with
          | nil => exact absurd hrd h
          | cons _ _ => simp
        · cases hrd : r.fr with
          | nil => exact absurd hrd h
          | cons _ _ => simp
        · cases hrd : r.wr with
          | nil => exact absurd hrd h
          | cons _ _ => simp
        · cases hrd : r.news with
          | nil => exact absurd hrd h
          | cons _ _ => simp
  have brr : ∀ j, isShr X j -> (trOf (X j) (S j)).bar = true := by
    rintro j ⟨v, s, z, h⟩; rw [h]; rfl
  have tW : ∀ j t, W X j t -> touches X j := fun j t h => touches_of_W h
  have tA : ∀ j t, A X j t -> touches X j := by
    intro j t h
    unfold A at h; unfold touches
    cases hX : X j with
    | none => rw [hX] at h; exact h.elim
    | some x =>
      rw [hX] at h
      cases x with
      | shr v s z => exact h.elim
      | loc r =>
        rcases h with h | h
        · exact .inl (by intro e; rw [e] at h; cases h)
        · exact .inr (.inl (by intro e; rw [e] at h; cases h))
  have bar : ∀ i j, i < j -> j < ops.length -> (isShr X i /\ touches X j \/ touches X i /\ isShr X j) -> Bef masks i j := by
    intro i j hij hj h
    refine clash i j hij hj ?_
    unfold Tr.clash
    rcases h with ⟨h1, h2⟩ | ⟨h1, h2⟩
    · rw [brr i h1, tch j h2]; simp
    · rw [brr j h2, tch i h1]; simp
  have wrT : ∀ j t, W X j t -> ¬ isShr X j -> t ∈ (trOf (X j) (S j)).wr := by
    intro j t h hn
    unfold W at h
    cases hX : X j with
    | none => rw [hX] at h; exact h.elim
    | some x =>
      rw [hX] at h
      cases x with
      | shr v s z => exact absurd ⟨v, s, z, hX⟩ hn
      | loc r =>
        obtain ⟨k, hk⟩ := h
        exact List.mem_map.2 ⟨(t, k), hk, rfl⟩
  have rdT : ∀ j t, A X j t -> t ∈ (trOf (X j) (S j)).rd := by
    intro j t h
    unfold A at h
    cases hX : X j with
    | none => rw [hX] at h; exact h.elim
    | some x =>
      rw [hX] at h
      cases x with
      | shr v s z => exact h.elim
      | loc r => exact List.mem_append.2 h
  exact {
    slot1 := fun i j t x y hij hx hy hd hu => by
      rcases chkSlots_ok hs i j x y hij hx hy with h | ⟨h, _⟩
      · unfold Bef; simpa using h
      · rcases hu with hu | hu
        · exact absurd hu (h t hd).1
        · exact absurd hu (h t hd).2
    slot2 := fun i j t x y hij hx hy hd hu => by
      rcases chkSlots_ok hs i j x y hij hx hy with h | ⟨_, h⟩
      · unfold Bef; simpa using h
      · exact absurd hu (h t hd)
    tok1 := fun i j t hij hj hW hAW => by
      by_cases hi : isShr X i
      · exact bar i j hij hj (.inl ⟨hi, hAW.elim (tA j t) (tW j t)⟩)
      · by_cases hsj : isShr X j
        · exact bar i j hij hj (.inr ⟨tW i t hW, hsj⟩)
        · refine clash i j hij hj ?_
          unfold Tr.clash
          rcases hAW with h | h
          · rw [meets_of (wrT i t hW hi) (rdT j t h)]; simp
          · rw [meets_of (wrT i t hW hi) (wrT j t h hsj)]; simp
    tok2 := fun i j t hij hj hA hW => by
      by_cases hsj : isShr X j
      · exact bar i j hij hj (.inr ⟨tA i t hA, hsj⟩)
      · refine clash i j hij hj ?_
        unfold Tr.clash
        rw [meets_of (rdT i t hA) (wrT j t hW hsj)]; simp
    tok3 := fun i j t hij hj hsi h1 h2 hsj hW => by
      refine clash i j hij hj ?_
      unfold Tr.clash
      have : ((trOf (X j) (S j)).wr.any fun t => Nat.ble (trOf (X i) (S i)).lo t && Nat.blt t (trOf (X i) (S i)).hi) = true := by
        rw [List.any_eq_true]
        refine ⟨t, wrT j t hW hsj, ?_⟩
        rcases hr.steps i _ (List.getElem?_eq_getElem (show i < ops.length by omega)) with ⟨_, x, hx, _, hX, hn⟩ | ⟨_, hX, hn⟩
        · cases x with
          | shr v s z => exact absurd ⟨v, s, z, hX⟩ hsi
          | loc r =>
            rw [hn, noRes_next] at h2
            rw [hX]
            simp only [trOf, XR.tr, Bool.and_eq_true, Nat.ble_eq]
            exact ⟨h1, by simpa using h2⟩
        · rw [hn] at h2; dsimp only at h2; omega
      rw [this]; simp
    bar := bar
    cl := fun i t hi hsi hAW => by
      left
      have hc := hcl i _ _ (hget i hi)
      cases hX : X i with
      | none => rcases hAW with h | h
                · unfold A at h; rw [hX] at h; exact h.elim
                · unfold W at h; rw [hX] at h; exact h.elim
      | some x =>
        cases x with
        | shr v s z => exact absurd ⟨v, s, z, hX⟩ hsi
        | loc r =>
          have hb : ∀ u v : Nat, Nat.blt u v = true -> u < v := fun u v h => by simpa using h
          rw [hX] at hc
          simp only [trOf, XR.tr, Bool.and_eq_true, List.all_eq_true] at hc
          rcases hAW with h | h
          · unfold A at h; rw [hX] at h
            exact hb _ _ (hc.1 t (List.mem_append.2 h))
          · unfold W at h; rw [hX] at h
            obtain ⟨k, hk⟩ := h
            exact hb _ _ (hc.2 (t, k) hk) }
end
end Go.Vm
/- A region: the theorem. -/
namespace Go.Vm
section
variable {P : Program} {F : Tab} {rec : Task -> Option Out} {ops : List XOper} {S : Nat -> St} {X : Nat -> Option XR} {im0 : Im} {loc0 : Loc} {w0 : World} {nt : Nat}
  {im : Im} {loc : Loc} {a : Act} {w : World} {i : Nat} {prims : FuncId -> Bool} {mops : Array Oper} {masks : List Nat}
def Listed (l:Array Bool) (i:Nat):Prop:=l.getD i false=true
theorem wpAny_drawn (hE : Env0 P F rec) (hr : Run F rec ops S X) (ho : Ord ops S X (Bef masks)) (hc : ∀ (i : Nat) (x : XOper) (o : Oper), ops[i]? = some x -> mops[i]? = some o -> chkOper P prims nt mops x o = true) (hlen : ops.length = mops.size)
    (hm : ∀ (k : Nat) (o : Oper), mops[k]? = some o -> edgesMask masks k o.after.toList = some (masks.getD k 0))
    {Q : Exit -> Act -> World -> Prop} (hQ : ∀ im loc a w (done : Nat -> Prop), (∀ i, i < ops.length -> done i) -> Inv ops S X im0 loc0 w0 nt done im loc a w -> Q .normal a w) :
    ∀ (fuel : Nat) (l : Array Bool) (im : Im) (loc : Loc) (a : Act) (w : World), l.size = ops.length -> fuel + l.toList.count true = ops.length -> (∀ k j, Listed l k -> Bef masks j k -> Listed l j) ->
      Inv ops S X im0 loc0 w0 nt (Listed l) im loc a w -> wpAny P .any mops Q fuel l a w := by
  have full : ∀ l : Array Bool, l.size = ops.length -> Region.ready .any mops l = [] -> ∀ i, i < ops.length -> Listed l i := by
    intro l hl hnil i
    induction i using Nat.strongRecOn with
    | _ i ih =>
      intro hi
      by_cases h : Listed l i
      · exact h
      · exfalso
        have hmem : i ∈ Region.ready .any mops l := by
          rw [mem_ready]
          have ho := Array.getElem?_eq_getElem (show i < mops.size by omega)
          refine ⟨?_, _, ho, fun e he hb => ?_⟩
          · unfold Listed at h
            have hlt : i < l.size := by omega
            simp [hlt] at h ⊢; exact h
          · have := (edgesMask_ok (hm i _ ho)).1 e (by simpa using he) hb
            exact ih e.on this (by omega)
        rw [hnil] at hmem; cases hmem
  intro fuel
  induction fuel with
  | zero =>
    intro l im loc a w hl hcnt hclo hv
    have hall : ∀ b ∈ l.toList, true = b := by
      have : l.toList.count true = l.toList.length := by simp only [Array.length_toList]; omega
      exact List.count_eq_length.1 this
    have hfull : ∀ i, i < ops.length -> Listed l i := by
      intro i hi
      have hlt : i < l.size := by omega
      have := hall (l[i]) (by simp)
      unfold Listed
      simp [hlt, <- this]
    refine ⟨?_, hQ im loc a w _ hfull hv⟩
    cases hrd : Region.ready .any mops l with
    | nil => rfl
    | cons x xs =>
      exfalso
      have hmem : x ∈ Region.ready .any mops l := by rw [hrd]; simp
      obtain ⟨h0, o, hox, _⟩ := mem_ready.1 hmem
      have hlt := (Array.getElem?_eq_some_iff.1 hox).1
      have := hfull x (by omega)
      unfold Listed at this
      have hlt' : x < l.size := by omega
      simp [hlt'] at this h0
      rw [this] at h0; cases h0
  | succ fuel ih =>
    intro l im loc a w hl hcnt hclo hv
    refine ⟨fun hnil => hQ im loc a w _ (full l hl hnil) hv, fun i hi => ?_⟩
    obtain ⟨h0, o, hox, hall⟩ := mem_ready.1 hi
    have hlt := (Array.getElem?_eq_some_iff.1 hox).1
    have hlt' : i < l.size := by omega
    have hx := List.getElem?_eq_getElem (show i < ops.length by omega)
    have hpre : ∀ j, Bef masks j i -> Listed l j := by
      intro j hj
      obtain ⟨e, he, hb, h⟩ := (edgesMask_ok (hm i o hox)).2 j hj
      have hle : Listed l e.on := hall e (by simpa using he) hb
      rcases h with rfl | h
      · exact hle
      · exact hclo _ _ hle h
    have hnd : ¬ Listed l i := by
      unfold Listed; simp [hlt'] at h0 ⊢; exact h0
    refine Inv.wpOp hE hr ho hv { lt := by omega, nd := hnd, pre := fun j _ h => hpre j h, clo := fun k _ h1 j _ h2 => hclo k j h1 h2 } hx hox (hc i _ _ hx hox) fun im' loc' a' w' h' => ?_
    have e : plus (Listed l) i = Listed (l.setIfInBounds i true) := by
      funext j
      apply propext
      unfold plus Listed
      by_cases hij : i = j
      · subst hij; simp [hlt']
      · simp only [getD_set_ne false hij]
        exact ⟨fun h => h.elim id fun h => absurd h.symm hij, .inl⟩
    rw [e] at h'
    refine ih _ im' loc' a' w' (by simpa using hl) ?_ ?_ h'
    · rw [Array.toList_setIfInBounds, List.count_set (by simpa using hlt')]
      have : l.toList[i] = false := by simp [hlt'] at h0; simpa using h0
      rw [this]; simp only [Array.count_toList] at hcnt ⊢; simp; omega
    · intro k j hk hj
      rw [<- e] at hk ⊢
      rcases hk with hk | rfl
      · exact .inl (hclo k j hk hj)
      · exact .inl (hpre j hj)
theorem ER.keep {st:Env} {keep:List Nat} (h:ER im loc st a.tmps):ER im loc (keep.map fun s=>(s,lk s st)) a.tmps:=by
 intro t
 have:lk t (keep.map fun s=>(s,lk s st))=lk t st\/lk t (keep.map fun s=>(s,lk s st))= .undef:=by
  induction keep with
  |nil=>exact .inr rfl
  |cons s r ih=>
   simp only [List.map_cons,lk_cons];split
   · rename_i e;subst e;exact .inl rfl
   · exact ih
 rcases this with h'|h'
 · rw [h'];exact h t
 · rw [h'];exact .undef _
structure ActOK (im:Im) (loc:Loc) (nt:Nat) (st:St) (a:Act):Prop where
 env:ER im loc st.env a.tmps
 defers:a.defers=[]
 nts:a.tmps.size=nt
theorem Kept.world {sto0 : Sto} {st : St} {w1 : World} (h : Kept im0 loc0 sto0 w1 st im loc w) (hh : w1.heap = w0.heap) (ho : w1.os = w0.os) (ht : w1.tape = w0.tape) (hp : w1.output = w0.output) : Kept im0 loc0 sto0 w0 st im loc w :=
  { sr := h.sr, imle := h.imle, locle := h.locle, os := h.os.trans ho, tape := h.tape.trans ht, output := h.output.trans hp, size := by have := h.size; rw [hh] at this; exact this
    frame := by have := h.frame; rw [hh] at this; exact this
    imnew := by have := h.imnew; rw [hh] at this; exact this
    locs := h.locs
    own := by have := h.own; rw [hh] at this; exact this }
theorem SR.world {sto:Sto} {fz:List Nat} {w1:World} (h:SR im loc sto fz w) (hh:w1.heap=w.heap):SR im loc sto fz w1 where
 im_ok:=by rw [hh];exact h.im_ok
 blk:=fun t li hl=>let ⟨k,h1,h2⟩:=h.blk t li hl;⟨k,h1,h2.mono (.refl _) (.refl _) (by rw [hh])⟩
 excl:=h.excl
 free:=h.free
theorem region_sim (hE:Env0 P F rec) (hmix:P.follows .mixedOrders=true) {draw:Option (List Nat)} {keep:List Nat} {id:Nat} {flag:Bool} {st st':St}
 (hc:chkRegion P prims nt draw ops mops flag=true) (hev:evRegion F rec draw ops keep st=some st') (hsr:SR im0 loc0 st.sto st.fz w0) (ha:ActOK im0 loc0 nt st a) {Q:Exit->Act->World->Prop}
 (hQ: ∀im loc a' w',Kept im0 loc0 st.sto w0 st' im loc w'->ActOK im loc nt st' a'->Q .normal a' w'):(Code.region id mops flag).wp P Q a w0:=by
 unfold chkRegion at hc;simp only [Bool.and_eq_true] at hc;obtain ⟨hops,hd⟩:=hc;obtain ⟨hlen,hchk⟩:=chkOpers_get hops;have hlen:ops.length=mops.size:=by simpa using hlen
 have hchk: ∀(i:Nat) (x:XOper) (o:Oper),ops[i]? =some x->mops[i]? =some o->chkOper P prims nt mops x o=true:=fun i x o hx ho=>hchk i x o hx (by simpa using ho)
 unfold evRegion at hev;cases he:evOps F rec ops st [] with
 |none=>rw [he] at hev;cases hev
 |some q=>
  obtain ⟨st1,tr⟩:=q;rw [he] at hev;dsimp only at hev;obtain ⟨S,X,h0,hn,hr,htr⟩:=evOps_run ops st [] st1 tr he;have fin: ∀(w1:World),w1.heap=w0.heap->w1.os=w0.os->w1.tape=w0.tape->w1.output=w0.output->st'={st1 with env:=keep.map fun s=>(s,lk s st1.env)}-> ∀im loc a' w' (done:Nat->Prop),(∀i,i<ops.length->done i)->
   Inv ops S X im0 loc0 w1 nt done im loc a' w'->Q .normal a' w':=by
   intro w1 q1 q2 q3 q4 hst im loc a' w' done hdn hv;obtain ⟨hk,her,hdf,hns⟩:=hv.finish hr hdn;rw [hn] at hk her;rw [h0] at hk;subst hst;have hk:=hk.world q1 q2 q3 q4;exact hQ im loc a' w' {sr:=hk.sr,imle:=hk.imle,locle:=hk.locle,os:=hk.os,tape:=hk.tape,output:=hk.output,size:=hk.size,frame:=hk.frame,imnew:=hk.imnew,locs:=hk.locs,own:=hk.own} ⟨her.keep,hdf,hns⟩
  cases draw with
  |none=>
   dsimp only at hd hev
   have:flag=false:=by simpa using hd
   subst this;injection hev with hev;refine wp_region ?_;rw [List.range_eq_range'];refine wpOps_text hE hr hchk hlen (fun im loc a w hv=>fin w0 rfl rfl rfl rfl hev.symm im loc a w _ (fun i h=>h) hv) mops.size 0 im0 loc0 a w0 (by omega) ?_
   have:=Inv.start (ops:=ops) (X:=X) (w0:=w0) h0 hsr ha.env ha.defers ha.nts hr
   have e:(fun _:Nat=>False)=fun i=>i<0:=by funext i;apply propext;exact ⟨fun h=>h.elim,fun h=>by omega⟩
   rw [e] at this;exact this
  |some bf=>
   dsimp only at hd hev;simp only [Bool.and_eq_true] at hd;obtain ⟨⟨⟨rfl,hbl⟩,hmk⟩,hsl⟩:=hd;have hbl:bf.length=ops.length:=by simpa using hbl
   split at hev
   · rename_i hoo
     injection hev with hev;have htr':tr.reverse=trsOf S X ops.length:=by rw [htr];simp
     rw [htr'] at hoo;obtain ⟨_,hmk⟩:=chkMasks_ok hmk;refine wp_region_any hmix ?_;refine wpAny_drawn (w0:={w0 with drawn:=w0.drawn+1}) (im0:=im0) (loc0:=loc0) hE hr (Ord.drawn hr hbl hsl hoo) hchk hlen ?_ (fun im loc a w done hdn hv=>fin {w0 with drawn:=w0.drawn+1} rfl rfl rfl rfl hev.symm im loc a w done hdn hv) mops.size _ im0 loc0 a _ (by simp [hlen]) ?_ ?_ ?_
     · intro k o ho
       have hlt:=(Array.getElem?_eq_some_iff.1 ho).1;have hk:bf[k]? =some (bf.getD k 0):=by
        rw [List.getD_eq_getElem?_getD,List.getElem?_eq_getElem (by omega)];rfl
       simpa using hmk k _ o hk (by simpa using ho)
     · simp [hlen,List.count_replicate]
     · intro k j h
       unfold Listed at h
       by_cases hk:k<mops.size<;>simp [hk] at h
     · have:=Inv.start (ops:=ops) (X:=X) (w0:={w0 with drawn:=w0.drawn+1}) h0 (hsr.world rfl) ha.env ha.defers ha.nts hr
       have e:(fun _:Nat=>False)=Listed (Array.replicate mops.size false):=by
        funext i;apply propext
        unfold Listed
        by_cases hk:i<mops.size<;>simp [hk]
       rw [e] at this;exact this
   · cases hev
end
end Go.Vm
/- What a function keeps from its beginning on; the head of a loop. -/
namespace Go.Vm
theorem Kept.trans {im0 im1 im2:Im} {loc0 loc1 loc2:Loc} {sto0:Sto} {w0 w1 w2:World} {st1 st2:St} (h1:Kept im0 loc0 sto0 w0 st1 im1 loc1 w1) (h2:Kept im1 loc1 st1.sto w1 st2 im2 loc2 w2) (hl:sto0.length<=st1.sto.length):
 Kept im0 loc0 sto0 w0 st2 im2 loc2 w2 where
 sr:=h2.sr
 imle:=h1.imle.trans h2.imle
 locle:=h1.locle.trans h2.locle
 os:=h2.os.trans h1.os
 tape:=h2.tape.trans h1.tape
 output:=h2.output.trans h1.output
 size:=Nat.le_trans h1.size h2.size
 frame:=fun b hb hh=>by
  rw [h2.frame b (Nat.lt_of_lt_of_le hb h1.size) fun t li k hl hs hsol hbb=>?_]
  · exact h1.frame b hb hh
  · rcases h1.own t li k hl hs hsol with h|⟨u,lu,ku,g1,g2,g3,g4⟩
    · omega
    · exact hh u lu ku g1 g2 g3 (by omega)
 imnew:=fun b o hb=>by
  rcases h2.imnew b o hb with h|h|⟨t,li,k,g1,g2,g3,g4⟩
  · exact h1.imnew b o h
  · exact .inr (.inl (Nat.le_trans h1.size h))
  · rcases h1.own t li k g1 g2 g3 with h|⟨u,lu,ku,k1,k2,k3,k4⟩
    · exact .inr (.inl (by omega))
    · exact .inr (.inr ⟨u,lu,ku,k1,k2,k3,by omega⟩)
 locs:=fun t li h=>by
  rcases h2.locs t li h with h|h
  · exact h1.locs t li h
  · exact .inr (Nat.le_trans hl h)
 own:=fun t li k hl hs hsol=>by
  rcases h2.own t li k hl hs hsol with h|⟨u,lu,ku,g1,g2,g3,g4⟩
  · exact .inl (Nat.le_trans h1.size h)
  · rcases h1.own u lu ku g1 g2 g3 with h|⟨u',lu',ku',k1,k2,k3,k4⟩
    · exact .inl (by omega)
    · exact .inr ⟨u',lu',ku',k1,k2,k3,by omega⟩
structure KeptF (im0:Im) (loc0:Loc) (sto0:Sto) (w0:World) (st:St) (im:Im) (loc:Loc) (w:World):Prop where
 kept:Kept im0 loc0 sto0 w0 st im loc w
 kn:st.kn=sto0.length
 len:sto0.length<=st.sto.length
 dom: ∀t li,loc0 t=some li->t<sto0.length
theorem evOps_kn {F:Tab} {rec:Task->Option Out}: ∀(ops:List XOper) (st:St) (tr:List Tr) (st':St) (tr':List Tr),evOps F rec ops st tr=some (st',tr')->st'.kn=st.kn
 | [],st,tr,st',tr',h=>by simp only [evOps,Option.some.injEq,Prod.mk.injEq] at h;rw [h.1]
 |o::l,st,tr,st',tr',h=>by
  simp only [evOps] at h;split at h
  · split at h
    · rename_i x hx
      split at h
      · have:=evOps_kn l _ _ st' tr' h
        rw [this];cases x<;>rfl
      · cases h
    · cases h
  · have:=evOps_kn l _ _ st' tr' h
    exact this
  · cases h
theorem evRegion_len {F:Tab} {rec:Task->Option Out} {draw:Option (List Nat)} {ops:List XOper} {keep:List Nat} {st st':St} (h:evRegion F rec draw ops keep st=some st'):st'.kn=st.kn/\st.sto.length<=st'.sto.length:=by
 unfold evRegion at h;cases he:evOps F rec ops st [] with
 |none=>rw [he] at h;cases h
 |some q=>
  obtain ⟨st1,tr⟩:=q;rw [he] at h;dsimp only at h;obtain ⟨S,X,h0,hn,hr,_⟩:=evOps_run ops st [] st1 tr he;have h1:=evOps_kn ops st [] st1 tr he;have h2:=hr.len_mono (Nat.zero_le ops.length) (Nat.le_refl _);rw [h0,hn] at h2;cases draw with
  |none=>dsimp only at h;injection h with h;subst h;exact ⟨h1,h2⟩
  |some bf=>
   dsimp only at h;split at h
   · injection h with h;subst h;exact ⟨h1,h2⟩
   · cases h
section
variable {im : Im} {loc loc1 : Loc} {m : List Nat}
theorem renFz_ok {fz:List Nat}: ∀{l:List Nat} {i0 u t:Nat},l[u]? =some t->(i0+u)∉renFz fz i0 l->t∉fz
 | [],i0,u,t,h,_=>by simp at h
 |s::r,i0,u,t,h,hn=>by
  simp only [renFz] at hn;cases u with
  |zero=>
   simp at h;subst h;intro hf;rw [if_pos (has_iff.2 hf)] at hn;exact hn (by simp)
  |succ u=>
   refine renFz_ok (l:=r) (i0:=i0+1) (u:=u) (by simpa using h) fun hmem=>?_
   rw [show i0+(u+1)=i0+1+u by omega] at hn
   split at hn
   · exact hn (List.mem_cons_of_mem _ hmem)
   · exact hn hmem
theorem reach_ok {sto:Sto}: ∀{n:Nat} {ts seen:List Nat} {m:List Nat},reach sto n ts seen=some m->(∃l,m=seen++l)/\(seen.Nodup->m.Nodup)
 |_,[],seen,m,h=>by
  have h:some seen=some m:=by rw [<- h];unfold reach;cases ‹Nat› <;>rfl
  injection h with h;subst h;exact ⟨⟨[],by simp⟩,id⟩
 |0,_::_,seen,m,h=>by simp [reach] at h
 |n+1,t::ts,seen,m,h=>by
  simp only [reach] at h;split at h
  · exact reach_ok h
  · rename_i hn
    split at h
    · obtain ⟨⟨l,hl⟩,h2⟩:=reach_ok h
      refine ⟨⟨t::l,by rw [hl];simp⟩,fun hd=>h2 ?_⟩
      rw [List.nodup_append];refine ⟨hd,by simp,fun a ha b hb=>?_⟩
      have:b=t:=by simpa using hb
      subst this;intro e;subst e;exact hn (has_iff.2 ha)
    · cases h
theorem upTo_get: ∀{n i:Nat},i<n->(upTo n)[i]? =some i
 |n+1,i,h=>by
  have hl: ∀n,(upTo n).length=n:=by
   intro n;induction n with
   |zero=>rfl
   |succ n ih=>simp [upTo,ih]
  simp only [upTo];rcases Nat.lt_or_ge i n with h'|h'
  · rw [List.getElem?_append_left (by rw [hl];exact h')];exact upTo_get h'
  · rw [List.getElem?_append_right (by rw [hl];exact h'),hl]
    have:i=n:=by omega
    subst this;simp
theorem upTo_mem: ∀{n i:Nat},i∈upTo n->i<n
 |n+1,i,h=>by
  simp only [upTo,List.mem_append,List.mem_singleton] at h;rcases h with h|h
  · have:=upTo_mem h;omega
  · omega
theorem upTo_nodup: ∀n,(upTo n).Nodup
 |0=>by simp [upTo]
 |n+1=>by
  simp only [upTo];rw [List.nodup_append];refine ⟨upTo_nodup n,by simp,fun a ha b hb=>?_⟩
  have:=upTo_mem ha
  have:b=n:=by simpa using hb
  omega
end
end Go.Vm
/- The head of a loop. -/
namespace Go.Vm
def EmptyBlks (s2:Sto):Prop:= ∀(j:Nat) (k:Blk),s2[j]? =some k-> ∃e,k= .arr e []
theorem liveEnv_ok {im:Im} {loc loc1:Loc} {m:List Nat} {e:Env} {tmps:Array Value} (hm:Ren m loc loc1) (he:ER im loc e tmps): ∀{live:List (Nat×Option Nat)} {nx:Nat} {e1:Env} {s2:Sto},liveEnv e m nx live=some (e1,s2)->
 EmptyBlks s2/\((∀(j:Nat) (esz:Nat),s2[j]? =some (.arr esz [])->loc1 (nx+j)=some ⟨0,0,esz,0,0⟩)->ER im loc1 e1 tmps)
 | [],nx,e1,s2,h=>by
  simp only [liveEnv,Option.some.injEq,Prod.mk.injEq] at h;obtain ⟨rfl,rfl⟩:=h;exact ⟨fun j k h=>by simp at h,fun _ t=> .undef _⟩
 |(s,k)::r,nx,e1,s2,h=>by
  have hs:=he s;simp only [liveEnv] at h;split at h
  · rename_i esz e' hlk
    rw [Option.map_eq_some_iff] at h;obtain ⟨⟨e2,s3⟩,h1,h2⟩:=h;simp only [Prod.mk.injEq] at h2;obtain ⟨rfl,rfl⟩:=h2;obtain ⟨g1,g2⟩:=liveEnv_ok hm he h1;refine ⟨fun j k hj=>?_,fun hl t=>?_⟩
    · cases j with
      |zero=>simp at hj;exact ⟨_,hj.symm⟩
      |succ j=>exact g1 j k (by simpa using hj)
    · rw [lk_cons]
      split
      · rename_i e;subst e
        rw [hlk] at hs;generalize hg:tmps.getD s Go.undef=v at hs;cases hs with
        |sl _ _ _ a cap h1 h2 h3=>
        have:cap=0:=by simpa using h2 rfl
        subst this;exact .own nx esz 0 0 0 false ⟨0,0,esz,0,0⟩ a 0 (by simpa using hl 0 esz rfl) rfl (Nat.le_refl _) (Nat.le_refl _) (Nat.le_refl _) (fun h=>by cases h) (.inl rfl)
      · refine g2 (fun j esz' hj=>?_) t
        have:=hl (j+1) esz' (by simpa using hj)
        rw [show nx+1+j=nx+(j+1) by omega];exact this
  · split at h
    · rename_i v' p h1 h2
      injection h with h;simp only [Prod.mk.injEq] at h;obtain ⟨rfl,rfl⟩:=h;obtain ⟨g1,g2⟩:=liveEnv_ok hm he (e1:=p.1) (s2:=p.2) h2;refine ⟨g1,fun hl t=>?_⟩
      rw [lk_cons];split
      · rename_i e;subst e
        exact ren_ok hm hs h1
      · exact g2 hl t
    · cases h
theorem VRL.setAt {im:Im} {loc:Loc} {x:PV}: ∀{xs:List PV} {vs:List Value} {c:Nat} {y:PV},VRL im loc xs vs->xs[c]? =some y->(∀v,VR im loc y v->VR im loc x v)->VRL im loc (xs.set c x) vs
 | [],_,c,y,h,hc,_=>by simp at hc
 |z::zs,vs,c,y,h,hc,hx=>by
  cases h with
  |cons _ v _ us g1 g2=>
   cases c with
   |zero=>simp at hc;subst hc;exact .cons _ _ _ _ (hx v g1) g2
   |succ c=>exact .cons _ _ _ _ g1 (VRL.setAt g2 (by simpa using hc) hx)
theorem ownCell_ok {im0 im:Im} {loc0 loc:Loc} {sto0:Sto} {w0 w:World} {nt:Nat} {st:St} {a:Act} (t c esz:Nat) (hk:KeptF im0 loc0 sto0 w0 st im loc w) (ha:ActOK im loc nt st a):
 ∃loc1,KeptF im0 loc0 sto0 w0 (ownCell st t c esz) im loc1 w/\ActOK im loc1 nt (ownCell st t c esz) a:=by
 unfold ownCell;split
 · rename_i cs hb
   split
   · rename_i e hc
     have sr:=hk.kept.sr;have hdom: ∀u li,loc u=some li->u<st.sto.length:=fun u li h=>by obtain ⟨k,h1,_⟩:=sr.blk u li h;exact lt_of_get h1
     have hn:loc st.sto.length=none:=by
      cases h:loc st.sto.length with
      |none=>rfl
      |some li=>exact absurd (hdom _ _ h) (Nat.lt_irrefl _)
     let loc1:Loc:=fun u=>if u=st.sto.length then some ⟨0,0,esz,0,0⟩ else loc u
     have hle:LocLe loc loc1:=fun u li h=>by
      have:=hdom u li h
      simp only [loc1,show u≠st.sto.length by omega,if_false];exact h
     have back: ∀u li,loc1 u=some li->u≠st.sto.length->loc u=some li:=fun u li h hu=>by
      simpa only [loc1,hu,if_false] using h
     have htl:t<st.sto.length:=lt_of_get hb;have get: ∀u,u<st.sto.length->(st.sto.set t (.box (cs.set c (.own st.sto.length esz 0 0 0 false)))++[.arr esz []])[u]? =if t=u then some (.box (cs.set c (.own st.sto.length esz 0 0 0 false))) else st.sto[u]?:=fun u hu=>by
      rw [List.getElem?_append_left (by simpa using hu),List.getElem?_set]
      split
      · rename_i e;subst e;simp [htl]
      · rfl
     have getn:(st.sto.set t (.box (cs.set c (.own st.sto.length esz 0 0 0 false)))++[.arr esz []])[st.sto.length]? =some (.arr esz []):=by
      rw [List.getElem?_append_right (by simp)];simp
     have solid: ∀(u:Nat) (k:Blk),(st.sto.set t (.box (cs.set c (.own st.sto.length esz 0 0 0 false)))++[.arr esz []])[u]? =some k->k.solid=true->u≠st.sto.length/\ ∃k0:Blk,st.sto[u]? =some k0/\k0.solid=true:=by
      intro u k hu hs;have hlt:=lt_of_get hu;simp only [List.length_append,List.length_set,List.length_singleton] at hlt;have hne:u≠st.sto.length:=by
       intro e;subst e;rw [getn] at hu;injection hu with hu;subst hu;cases hs
      refine ⟨hne,?_⟩;rw [get u (by omega)] at hu
      split at hu
      · rename_i e;subst e;exact ⟨_,hb,rfl⟩
      · exact ⟨k,hu,hs⟩
     refine ⟨loc1,⟨⟨?_,hk.kept.imle,hk.kept.locle.trans hle,hk.kept.os,hk.kept.tape,hk.kept.output,hk.kept.size,hk.kept.frame,hk.kept.imnew,fun u li h=>?_,fun u li k h hs hsol=>?_⟩,hk.kn,?_,hk.dom⟩,⟨ha.env.mono (ImLe.refl _) hle,ha.defers,ha.nts⟩⟩
     · refine {
        im_ok:=sr.im_ok
        blk:=fun u li hl=>?_
        excl:=fun u u' li lj k k' hl hl' hs hs' hsol hsol' hbk=>?_
        free:=fun u li k hl hs hsol hz=>?_}
       · by_cases hu:u=st.sto.length
         · subst hu
           simp only [loc1,if_true] at hl;injection hl with hl;subst hl;exact ⟨_,getn,rfl,rfl,fun h=>absurd rfl h⟩
         · have hl0:=back u li hl hu
           obtain ⟨k,h1,h2⟩:=sr.blk u li hl0
           show∃k,(st.sto.set t (.box (cs.set c (.own st.sto.length esz 0 0 0 false)))++[.arr esz []])[u]? =some k/\BR im loc1 w li k
           rw [get u (lt_of_get h1)];split
           · rename_i et;subst et
             rw [hb] at h1;injection h1 with h1;subst h1;obtain ⟨g1,g2,g3,vs,el,g4,g5,g6⟩:=h2;refine ⟨_,rfl,by simpa using g1,g2,g3,vs,el,g4,g5,(g6.mono (ImLe.refl _) hle).setAt hc fun v hv=>?_⟩
             cases hv with
             |sl _ _ _ a' cap h1 h2 h3=>
             have:cap=0:=by simpa using h2 rfl
             subst this;exact .own _ esz 0 0 0 false ⟨0,0,esz,0,0⟩ a' 0 (by simp only [loc1,if_true]) rfl (Nat.le_refl _) (Nat.le_refl _) (Nat.le_refl _) (fun h=>by cases h) (.inl rfl)
           · exact ⟨k,h1,h2.mono (ImLe.refl _) hle rfl⟩
       · obtain ⟨n1,k0,g1,g2⟩:=solid u k hs hsol
         obtain ⟨n2,k0',g1',g2'⟩:=solid u' k' hs' hsol';exact sr.excl u u' li lj k0 k0' (back _ _ hl n1) (back _ _ hl' n2) g1 g1' g2 g2' hbk
       · obtain ⟨n1,k0,g1,g2⟩:=solid u k hs hsol
         exact sr.free u li k0 (back _ _ hl n1) g1 g2 hz
     · by_cases hu:u=st.sto.length
       · right;have:=hk.len;omega
       · exact hk.kept.locs u li (back u li h hu)
     · obtain ⟨n1,k0,g1,g2⟩:=solid u k hs hsol
       exact hk.kept.own u li k0 (back _ _ h n1) g1 g2
     · have:=hk.len
       show sto0.length<=(st.sto.set t (.box (cs.set c (.own st.sto.length esz 0 0 0 false)))++[Blk.arr esz []]).length;simp only [List.length_append,List.length_set];omega
   · exact ⟨loc,hk,ha⟩
 · exact ⟨loc,hk,ha⟩
theorem ownCells_ok {im0 im:Im} {loc0:Loc} {sto0:Sto} {w0 w:World} {nt:Nat} {a:Act}: ∀(live:List (Nat×Option Nat)) {st:St} {loc:Loc},KeptF im0 loc0 sto0 w0 st im loc w->ActOK im loc nt st a->
 ∃loc1,KeptF im0 loc0 sto0 w0 (ownCells live st) im loc1 w/\ActOK im loc1 nt (ownCells live st) a
 | [],st,loc,hk,ha=>⟨loc,hk,ha⟩
 |(s,k)::r,st,loc,hk,ha=>by
  simp only [ownCells];split
  · split
    · split
      · rename_i t _
        obtain ⟨loc1,h1,h2⟩:=ownCell_ok t _ _ hk ha;exact ownCells_ok r h1 h2
      · exact ownCells_ok r hk ha
    · exact ownCells_ok r hk ha
  · exact ownCells_ok r hk ha
theorem norm1_ok {im0 im:Im} {loc0 loc:Loc} {sto0:Sto} {w0 w:World} {nt:Nat} {live:List (Nat×Option Nat)} {st st1:St} {a:Act} (h:norm1 live st=some st1) (hk:KeptF im0 loc0 sto0 w0 st im loc w) (ha:ActOK im loc nt st a):
 ∃loc1,KeptF im0 loc0 sto0 w0 st1 im loc1 w/\ActOK im loc1 nt st1 a:=by
 unfold norm1 at h;split at h
 · cases h
 · rename_i m hreach
   split at h
   · rename_i s1 e1 s2 hs1 hlv
     injection h with h;subst h;refine (fun hh: ∃loc1,KeptF im0 loc0 sto0 w0 {env:=e1,sto:=s1++s2,fz:=renFz st.fz 0 m,kn:=st.kn} im loc1 w/\ActOK im loc1 nt {env:=e1,sto:=s1++s2,fz:=renFz st.fz 0 m,kn:=st.kn} a=>
      let ⟨_,g1,g2⟩:=hh;ownCells_ok live g1 g2) ?_
     obtain ⟨⟨ml,hml⟩,hnd⟩:=reach_ok hreach;have hnd:=hnd (upTo_nodup _);obtain ⟨hl1,hget⟩:=renSto_ok hs1;have hupl: ∀n,(upTo n).length=n:=by
      intro n;induction n with
      |zero=>rfl
      |succ n ih=>simp [upTo,ih]
     have hid: ∀t,t<st.kn->m[t]? =some t:=by
      intro t ht;rw [hml,List.getElem?_append_left (by rw [hupl];exact ht)]
      exact upTo_get ht
     have hmlen:st.kn<=m.length:=by rw [hml];simp [hupl]
     let loc1:Loc:=fun u=>if u<m.length then (match m[u]? with|some t=>loc t|none=>none) else match s2[u-m.length]? with
      |some (.arr e [])=>some ⟨0,0,e,0,0⟩
      |_=>none
     have hren:Ren m loc loc1:=by
      intro u t hu
      have:=lt_of_get hu
      simp only [loc1,this,if_true,hu]
     obtain ⟨hemp,her⟩:=liveEnv_ok hren ha.env hlv;have old: ∀u li,loc1 u=some li->u<m.length-> ∃t,m[u]? =some t/\loc t=some li:=by
      intro u li hl hu;have e:=List.getElem?_eq_getElem hu;rw [hren u _ e] at hl;exact ⟨_,e,hl⟩
     have stoL: ∀u,u<m.length->(s1++s2)[u]? =s1[u]?:=fun u hu=>List.getElem?_append_left (by rw [hl1];exact hu)
     have stoR: ∀u,¬u<m.length->(s1++s2)[u]? =s2[u-m.length]?:=fun u hu=>by rw [List.getElem?_append_right (by rw [hl1];omega),hl1]
     have solid_old: ∀(u:Nat) (k:Blk),(s1++s2)[u]? =some k->k.solid=true->u<m.length:=by
      intro u k hs hsol;rcases Nat.lt_or_ge u m.length with h|h
      · exact h
      · rw [stoR u (by omega)] at hs
        obtain ⟨e,rfl⟩:=hemp _ _ hs;cases hsol
     have back: ∀(u:Nat) (k:Blk),(s1++s2)[u]? =some k-> ∀t,m[u]? =some t-> ∃k0:Blk,st.sto[t]? =some k0/\k.solid=k0.solid:=by
      intro u k hs t ht;obtain ⟨k0,k',g1,g2,g3⟩:=hget u t ht;rw [stoL u (lt_of_get ht),g3] at hs;injection hs with hs;subst hs;exact ⟨k0,g1,renBlk_solid g2⟩
     have sr:=hk.kept.sr;have keptsr:SR im loc1 (s1++s2) (renFz st.fz 0 m) w:=by
      refine {
       im_ok:=sr.im_ok
       blk:=fun u li hl=>?_
       excl:=fun u u' li lj k k' hl hl' hs hs' hsol hsol' hb=>?_
       free:=fun u li k hl hs hsol hz=>?_}
      · by_cases hu:u<m.length
        · obtain ⟨t,ht,hlt⟩:=old u li hl hu
          obtain ⟨k0,h1,h2⟩:=sr.blk t li hlt;obtain ⟨k1,k',g1,g2,g3⟩:=hget u t ht;rw [h1] at g1;injection g1 with g1;subst g1;exact ⟨k',by rw [stoL u hu];exact g3,renBlk_ok hren g2 h2⟩
        · simp only [loc1,hu,if_false] at hl
          split at hl
          · rename_i e he
            injection hl with hl;subst hl;exact ⟨.arr e [],by rw [stoR u hu];exact he,rfl,rfl,fun h=>absurd rfl h⟩
          · cases hl
      · have hu:=solid_old u k hs hsol
        have hu':=solid_old u' k' hs' hsol';obtain ⟨t,ht,hlt⟩:=old u li hl hu;obtain ⟨t',ht',hlt'⟩:=old u' lj hl' hu';obtain ⟨k0,g1,g2⟩:=back u k hs t ht;obtain ⟨k0',g1',g2'⟩:=back u' k' hs' t' ht'
        have:=sr.excl t t' li lj k0 k0' hlt hlt' g1 g1' (by rw [<- g2];exact hsol) (by rw [<- g2'];exact hsol') hb
        subst this;have pw:=List.pairwise_iff_getElem.1 hnd;have e1:=(List.getElem?_eq_some_iff.1 ht).2;have e2:=(List.getElem?_eq_some_iff.1 ht').2;rcases Nat.lt_trichotomy u u' with h|h|h
        · exact absurd (e1.trans e2.symm) (pw u u' hu hu' h)
        · exact h
        · exact absurd (e2.trans e1.symm) (pw u' u hu' hu h)
      · have hu:=solid_old u k hs hsol
        obtain ⟨t,ht,hlt⟩:=old u li hl hu;obtain ⟨k0,g1,g2⟩:=back u k hs t ht;refine sr.free t li k0 hlt g1 (by rw [<- g2];exact hsol) (has_false.2 ?_)
        exact renFz_ok (i0:=0) ht (by have:=has_false.1 hz;simpa using this)
     refine ⟨loc1,⟨⟨keptsr,hk.kept.imle,fun t li hl=>?_,hk.kept.os,hk.kept.tape,hk.kept.output,hk.kept.size,hk.kept.frame,hk.kept.imnew,fun t li hl=>?_,fun u li k hl hs hsol=>?_⟩,hk.kn,?_,hk.dom⟩,
      ⟨her fun j esz hj=>?_,ha.defers,ha.nts⟩⟩
     · have h1:=hk.kept.locle t li hl
       have ht:t<st.kn:=by rw [hk.kn];exact hk.dom t li hl
       rw [hren t t (hid t ht)];exact h1
     · rcases Nat.lt_or_ge t st.kn with ht|ht
       · rw [hren t t (hid t ht)] at hl
         exact hk.kept.locs t li hl
       · right;rw [hk.kn] at ht;exact ht
     · have hu:=solid_old u k hs hsol
       obtain ⟨t,ht,hlt⟩:=old u li hl hu;obtain ⟨k0,g1,g2⟩:=back u k hs t ht;exact hk.kept.own t li k0 hlt g1 (by rw [<- g2];exact hsol)
     · rw [<- hk.kn]
       simp only [List.length_append];omega
     · simp only [loc1,show¬m.length+j<m.length by omega,if_false,show m.length+j-m.length=j by omega,hj]
   · exact (by cases h)
theorem norm_ok {im0 im:Im} {loc0 loc:Loc} {sto0:Sto} {w0 w:World} {nt:Nat} {live:List (Nat×Option Nat)} {st st1:St} {a:Act} (h:norm live st=some st1) (hk:KeptF im0 loc0 sto0 w0 st im loc w) (ha:ActOK im loc nt st a):
 ∃loc1,KeptF im0 loc0 sto0 w0 st1 im loc1 w/\ActOK im loc1 nt st1 a:=by
 unfold norm at h;cases h1:norm1 live st with
 |none=>rw [h1] at h;cases h
 |some s=>
  rw [h1] at h;dsimp only at h;obtain ⟨loc1,hk1,ha1⟩:=norm1_ok h1 hk ha;split at h
  · exact norm1_ok h hk1 ha1
  · injection h with h
    subst h;exact ⟨loc1,hk1,ha1⟩
end Go.Vm
/- The code of a function; what it returns. -/
namespace Go.Vm
def chkCode (P:Program) (prims:FuncId->Bool) (nt:Nat):XCode->Code->Bool
 | .skip,.skip=>true
 | .region d ops _,.region _ mops flag=>chkRegion P prims nt d ops mops flag
 | .seq a b,.seq c d=>chkCode P prims nt a c&&chkCode P prims nt b d
 | .cond c a b,.cond c' a' b'=>chkOpd c c'&&chkCode P prims nt a a'&&chkCode P prims nt b b'
 | .block id b,.block id' b'=>id==id'&&chkCode P prims nt b b'
 | .loop _ b,.loop b'=>chkCode P prims nt b b'
 | .exit id,.exit id'=>id==id'
 | .ret,.ret=>true
 |_,_=>false
def XExit.out:XExit->Exit
 | .normal=> .normal
 | .exit id=> .exit id
 | .ret=> .ret
section
variable {P : Program} {F : Tab} {rec : Task -> Option Out} {im0 : Im} {loc0 : Loc} {sto0 : Sto} {w0 : World} {nt : Nat} {prims : FuncId -> Bool}
structure At (im0:Im) (loc0:Loc) (sto0:Sto) (w0:World) (nt:Nat) (st:St) (a:Act) (w:World):Prop where
 ex: ∃im loc,KeptF im0 loc0 sto0 w0 st im loc w/\ActOK im loc nt st a
def LoopOK (P : Program) (prims : FuncId -> Bool) (rec : Task -> Option Out) : Prop :=
  ∀ (live : List (Nat × Option Nat)) (x : XCode) (st : St) (e : XExit) (st' : St), rec (.loop live x st) = some (.code e st') ->
    ∀ (c : Code) (nt : Nat) (im0 : Im) (loc0 : Loc) (sto0 : Sto) (w0 : World) (a : Act) (w : World), chkCode P prims nt x c = true -> At im0 loc0 sto0 w0 nt st a w ->
      ∀ (b : Frame) (k : List Item) (cs : List Frame), ∃ a' w', At im0 loc0 sto0 w0 nt st' a' w' /\ Arrives P (lone (b.at a (.code c :: .inLoop c :: k)) cs w) b k cs e.out a' w'
theorem code_sim (hE:Env0 P F rec) (hL:LoopOK P prims rec) (hmix:P.follows .mixedOrders=true): ∀(x:XCode) (c:Code) (st:St) (e:XExit) (st':St),chkCode P prims nt x c=true->evC F rec x st=some (e,st')->
 ∀(a:Act) (w:World),At im0 loc0 sto0 w0 nt st a w-> ∀(Q:Exit->Act->World->Prop),(∀a' w',At im0 loc0 sto0 w0 nt st' a' w'->Q e.out a' w')->c.wp P Q a w
 | .skip,c,st,e,st',hc,hev,a,w,ha,Q,hQ=>by
  cases c<;>simp only [chkCode,Bool.false_eq_true] at hc
  simp only [evC,Option.some.injEq,Prod.mk.injEq] at hev;obtain ⟨rfl,rfl⟩:=hev;exact wp_skip (hQ _ _ ha)
 | .region d ops keep,c,st,e,st',hc,hev,a,w,ha,Q,hQ=>by
  cases c<;>simp only [chkCode,Bool.false_eq_true] at hc
  simp only [evC,Option.map_eq_some_iff] at hev;obtain ⟨st1,hev,h⟩:=hev;simp only [Prod.mk.injEq] at h;obtain ⟨rfl,rfl⟩:=h;obtain ⟨im,loc,hk,hact⟩:=ha.ex;refine region_sim hE hmix hc hev hk.kept.sr hact fun im' loc' a' w' hk' ha'=>hQ a' w' ⟨im',loc',?_,ha'⟩
  obtain ⟨h1,h2⟩:=evRegion_len hev;exact ⟨hk.kept.trans hk' hk.len,by rw [h1];exact hk.kn,Nat.le_trans hk.len h2,hk.dom⟩
 | .seq x y,c,st,e,st',hc,hev,a,w,ha,Q,hQ=>by
  cases c<;>simp only [chkCode,Bool.false_eq_true,Bool.and_eq_true] at hc
  obtain ⟨h1,h2⟩:=hc;simp only [evC] at hev;refine wp_seq ?_;cases hx:evC F rec x st with
  |none=>rw [hx] at hev;cases hev
  |some q=>
   obtain ⟨e1,st1⟩:=q;rw [hx] at hev;refine code_sim hE hL hmix x _ st e1 st1 h1 hx a w ha _ fun a' w' ha'=>?_
   cases e1 with
   |normal=>exact code_sim hE hL hmix y _ st1 e st' h2 hev a' w' ha' Q hQ
   |exit id=>
    simp only [Option.some.injEq,Prod.mk.injEq] at hev;obtain ⟨rfl,rfl⟩:=hev;exact hQ a' w' ha'
   |ret=>
    simp only [Option.some.injEq,Prod.mk.injEq] at hev;obtain ⟨rfl,rfl⟩:=hev;exact hQ a' w' ha'
 | .cond cc x y,c,st,e,st',hc,hev,a,w,ha,Q,hQ=>by
  cases c<;>simp only [chkCode,Bool.false_eq_true,Bool.and_eq_true] at hc
  obtain ⟨⟨h0,h1⟩,h2⟩:=hc;obtain ⟨im,loc,hk,hact⟩:=ha.ex;have hv:=opd_ok (a:=a) (e:=st.env) cc (fun t _=>hact.env t) _ h0
  simp only [evC] at hev;split at hev
  · rename_i hb
    rw [hb] at hv;exact wp_cond_true hv.bool_inv (code_sim hE hL hmix x _ st e st' h1 hev a w ha Q hQ)
  · rename_i hb
    rw [hb] at hv;exact wp_cond_false hv.bool_inv (code_sim hE hL hmix y _ st e st' h2 hev a w ha Q hQ)
  · cases hev
 | .block id x,c,st,e,st',hc,hev,a,w,ha,Q,hQ=>by
  cases c<;>simp only [chkCode,Bool.false_eq_true,Bool.and_eq_true,beq_iff_eq] at hc
  obtain ⟨rfl,h1⟩:=hc;refine wp_block ?_;simp only [evC] at hev;cases hx:evC F rec x st with
  |none=>rw [hx] at hev;cases hev
  |some q=>
   obtain ⟨e1,st1⟩:=q;rw [hx] at hev;refine code_sim hE hL hmix x _ st e1 st1 h1 hx a w ha _ fun a' w' ha'=>?_
   cases e1 with
   |normal=>
    simp only [Option.some.injEq,Prod.mk.injEq] at hev;obtain ⟨rfl,rfl⟩:=hev;exact hQ a' w' ha'
   |ret=>
    simp only [Option.some.injEq,Prod.mk.injEq] at hev;obtain ⟨rfl,rfl⟩:=hev;exact hQ a' w' ha'
   |exit j=>
    dsimp only at hev;simp only [XExit.out,Exit.inBlock];split at hev
    · rename_i hj
      have:j=id:=by simpa using hj
      simp only [Option.some.injEq,Prod.mk.injEq] at hev;obtain ⟨rfl,rfl⟩:=hev;rw [if_pos this];exact hQ a' w' ha'
    · rename_i hj
      have:j≠id:=by simpa using hj
      simp only [Option.some.injEq,Prod.mk.injEq] at hev;obtain ⟨rfl,rfl⟩:=hev;rw [if_neg this];exact hQ a' w' ha'
 | .loop live x,c,st,e,st',hc,hev,a,w,ha,Q,hQ=>by
  cases c<;>simp only [chkCode,Bool.false_eq_true] at hc
  simp only [evC] at hev;split at hev
  · rename_i e1 st1 hr
    simp only [Option.some.injEq,Prod.mk.injEq] at hev;obtain ⟨rfl,rfl⟩:=hev;intro b k cs;obtain ⟨a',w',h1,h2⟩:=hL live x st _ _ hr _ nt im0 loc0 sto0 w0 a w hc ha b k cs;exact ⟨_,a',w',hQ a' w' h1,.of_steps (.one step_loop) h2⟩
  · cases hev
 | .exit id,c,st,e,st',hc,hev,a,w,ha,Q,hQ=>by
  cases c<;>simp only [chkCode,Bool.false_eq_true,beq_iff_eq] at hc
  subst hc;simp only [evC,Option.some.injEq,Prod.mk.injEq] at hev;obtain ⟨rfl,rfl⟩:=hev;exact wp_exit (hQ _ _ ha)
 | .ret,c,st,e,st',hc,hev,a,w,ha,Q,hQ=>by
  cases c<;>simp only [chkCode,Bool.false_eq_true] at hc
  simp only [evC,Option.some.injEq,Prod.mk.injEq] at hev;obtain ⟨rfl,rfl⟩:=hev;exact wp_ret (hQ _ _ ha)
theorem loop_step (hE:Env0 P F rec) (hL:LoopOK P prims rec) (hmix:P.follows .mixedOrders=true):LoopOK P prims (step F rec):=by
 intro live x st e st' h c nt im0 loc0 sto0 w0 a w hc ha b k cs;simp only [step] at h;cases hn:norm live st with
 |none=>rw [hn] at h;cases h
 |some st1=>
  rw [hn] at h;dsimp only at h;obtain ⟨im,loc,hk,hact⟩:=ha.ex;obtain ⟨loc1,hk1,ha1⟩:=norm_ok hn hk hact;have hat:At im0 loc0 sto0 w0 nt st1 a w:=⟨im,loc1,hk1,ha1⟩;cases hx:evC F rec x st1 with
  |none=>rw [hx] at h;cases h
  |some q=>
   obtain ⟨e1,st2⟩:=q;rw [hx] at h;have hw:=code_sim hE hL hmix x c st1 e1 st2 hc hx a w hat (fun e' a' w'=>e'=e1.out/\At im0 loc0 sto0 w0 nt st2 a' w') fun a' w' h=>⟨rfl,h⟩
   obtain ⟨e',a1,w1,⟨rfl,hq⟩,harr⟩:=hw b (.inLoop c::k) cs;cases e1 with
   |normal=>
    dsimp only at h;obtain ⟨a',w',h1,h2⟩:=hL live x st2 e st' h c nt im0 loc0 sto0 w0 a1 w1 hc hq b k cs;exact ⟨a',w',h1,.of_steps (Steps.trans harr (.one step_inLoop)) h2⟩
   |exit id=>
    simp only [Option.some.injEq,Out.code.injEq] at h;obtain ⟨rfl,rfl⟩:=h;exact ⟨a1,w1,hq,.pass (x:= .inLoop c) rfl (fun _ _=> .inl (by simp [XExit.out])) harr⟩
   |ret=>
    simp only [Option.some.injEq,Out.code.injEq] at h;obtain ⟨rfl,rfl⟩:=h;exact ⟨a1,w1,hq,.pass (x:= .inLoop c) rfl (fun _ _=> .inl (by simp [XExit.out])) harr⟩
def chkRes (P:Program):List RV->List ResultVar->Bool
 | [],[]=>true
 | .tmp t::r,.tmp t'::s=>t==t'&&chkRes P r s
 | .cell t agg::r,.cell t' ty::s=>t==t'&&aggIs P ty agg&&chkRes P r s
 |_,_=>false
def resM (tmps:Array Value):ResultVar->Sem Value
 | .tmp t=>pure (tmps.getD t undef)
 | .cell a t=>do loadVar t (<- asAddr (tmps.getD a undef))
theorem loadE_ptr {im:Im} {loc:Loc} {sto:Sto} {agg:Option Nat} {p:PV} {u:Value} {r:Res} (hp:VR im loc p u) (h:loadE sto agg p=some r): ∃ad,u= .pointer (some ad):=by
 cases hp<;>first|(simp [loadE] at h;done)|exact ⟨_,rfl⟩
theorem SR.known {im:Im} {loc:Loc} {sto:Sto} {fz:List Nat} {w:World} (h:SR im loc sto fz w) {r:Res} (hn:r.news=[]) (hw:r.wr=[]):Known im loc sto w r where
 im_ok:=h.im_ok
 tok:=fun t _ li hl=>h.blk t li hl
 free:=fun t k hm=>by rw [hw] at hm;cases hm
 fresh:=fun j hj=>by rw [hn] at hj;simp at hj
 excl:=fun t u li lj k k' _ _=>h.excl t u li lj k k'
theorem loadE_pure {sto:Sto} {agg:Option Nat} {p:PV} {r:Res} (h:loadE sto agg p=some r):r.news=[]/\r.wr=[]:=by
 unfold loadE at h;split at h
 · split at h
   · split at h
     · rw [Option.map_eq_some_iff] at h;obtain ⟨_,_,rfl⟩:=h;exact ⟨rfl,rfl⟩
     · cases h
   · split at h
     · rw [Option.map_eq_some_iff] at h;obtain ⟨_,_,rfl⟩:=h;exact ⟨rfl,rfl⟩
     · cases h
   · cases h
 · rw [Option.map_eq_some_iff] at h;obtain ⟨_,_,rfl⟩:=h;exact ⟨rfl,rfl⟩
 · cases h
theorem res_ok {im:Im} {loc:Loc} {st:St} {a:Act} {w:World} (hsr:SR im loc st.sto st.fz w) (ha:ER im loc st.env a.tmps): ∀{rs:List RV} {vs:List PV} {os:List ResultVar},chkRes P rs os=true->resAll st rs=some vs->
 ∃us,(os.mapM (resM a.tmps)).run P w= .ok us w/\VRL im loc vs us
 | [],vs,os,hc,h=>by
  cases os<;>simp only [chkRes,Bool.false_eq_true] at hc
  simp only [resAll,Option.some.injEq] at h;subst h;exact ⟨[],by simp,.nil⟩
 |r::rs,vs,[],hc,h=>by cases r<;>simp [chkRes] at hc
 |r::rs,vs,o::os,hc,h=>by
  simp only [resAll] at h;split at h
  · rename_i v vs' h1 h2
    injection h with h;subst h;have hone: ∃u,(resM a.tmps o).run P w= .ok u w/\VR im loc v u/\chkRes P rs os=true:=by
     cases r with
     |tmp t=>
      cases o with
      |tmp t'=>
       simp only [chkRes,Bool.and_eq_true,beq_iff_eq] at hc;obtain ⟨rfl,hc⟩:=hc;simp only [resOf,Option.some.injEq] at h1;subst h1;exact ⟨_,rfl,ha t,hc⟩
      |cell _ _=>simp [chkRes] at hc
     |cell t agg=>
      cases o with
      |tmp t'=>simp [chkRes] at hc
      |cell t' ty=>
       simp only [chkRes,Bool.and_eq_true,beq_iff_eq] at hc;obtain ⟨⟨rfl,hag⟩,hc⟩:=hc;simp only [resOf,Option.map_eq_some_iff] at h1;obtain ⟨rr,h3,rfl⟩:=h1;obtain ⟨g1,g2⟩:=loadE_pure h3;obtain ⟨u,hrun,hvr,_⟩:=sim_load (P:=P) (ha t) hag h3 (hsr.known g1 g2);obtain ⟨ad,had⟩:=loadE_ptr (ha t) h3;refine ⟨u,?_,hvr,hc⟩;simp only [resM,had,asAddr];rw [had] at hrun
       simpa [Instr.loadAt,Instr.sureAddr] using hrun
    obtain ⟨u,hu,hvr,hc⟩:=hone;obtain ⟨us,hus,hvrs⟩:=res_ok hsr ha hc h2;refine ⟨u::us,?_,.cons _ _ _ _ hvr hvrs⟩;rw [List.mapM_cons];simp only [Sem.run_bind,hu,Result.andThen_ok,hus,Sem.run_pure]
  · cases h
theorem results_ok {im:Im} {loc:Loc} {st:St} {a:Act} {w:World} {fn:Func} (hsr:SR im loc st.sto st.fz w) (ha:ER im loc st.env a.tmps) {rs:List RV} {vs:List PV} (hc:chkRes P rs fn.results.toList=true) (h:resAll st rs=some vs):
 ∃u,(results fn a.tmps).run P w= .ok u w/\VR im loc (results1 vs) u:=by
 obtain ⟨us,h1,h2⟩:=res_ok (P:=P) hsr ha hc h;have e:fn.results.mapM (resM a.tmps)=List.toArray<$>fn.results.toList.mapM (resM a.tmps):=Array.mapM_eq_mapM_toList;have h3:(fn.results.mapM (resM a.tmps)).run P w= .ok us.toArray w:=by
  rw [e];rw [map_eq_pure_bind,Sem.run_bind,h1];rfl
 have hres:results fn a.tmps=(do let vs <- fn.results.mapM (resM a.tmps);pure (if h:vs.size=1 then vs[0] else .tuple vs)):=by
  unfold results
  congr 1
 rw [hres];simp only [Sem.run_bind,h3,Result.andThen_ok,Sem.run_pure];refine ⟨_,rfl,?_⟩;cases h2 with
 |nil=>exact .tup _ _ .nil
 |cons x u xs us g2 g3=>
  cases g3 with
  |nil=>exact g2
  |cons y v ys vs g4 g5=>exact .tup _ _ (.cons _ _ _ _ g2 (.cons _ _ _ _ g4 g5))
end
end Go.Vm
/- What the logical machine answers, the model answers. -/
namespace Go.Vm
def chkFunc (P:Program) (prims:FuncId->Bool) (x:XFunc) (f:FuncId):Bool:=
 match P.funcs[f]? with
 |some fn=>!(fn.name== "runtime.NumGoroutine")&&Nat.ble x.nargs fn.ntmps&&chkRes P x.res fn.results.toList&&(match fn.body with|some c=>chkCode P prims fn.ntmps x.code c|none=>false)
 |none=>false
section
variable {P : Program} {F : Tab} {rec : Task -> Option Out} {prims : FuncId -> Bool}
def TabOK (P:Program) (prims:FuncId->Bool) (F:Tab):Prop:= ∀f x,F f=some (.code x)->chkFunc P prims x f=true
theorem lk_envOf: ∀(args:List PV) (i t:Nat),lk t (envOf i args)=if i<=t then (args[t-i]?).getD .undef else .undef
 | [],i,t=>by simp [envOf,lk]
 |v::r,i,t=>by
  simp only [envOf,lk_cons];rw [lk_envOf r (i+1) t]
  by_cases h:i=t
  · subst h;simp
  · rw [if_neg h]
    by_cases h2:i<=t
    · rw [if_pos h2,if_pos (by omega)]
      have:t-i=(t- (i+1))+1:=by omega
      rw [this];simp
    · rw [if_neg h2,if_neg (by omega)]
theorem start_env {im:Im} {loc:Loc} {args:List PV} {us:List Value} (h:VRL im loc args us) (n:Nat):ER im loc (envOf 0 args) ((⟨us⟩:Array Value)++Array.replicate n Go.undef):=by
 intro t;rw [lk_envOf];simp only [Nat.zero_le,if_true,Nat.sub_zero];cases ha:args[t]? with
 |none=>exact .undef _
 |some x=>
  obtain ⟨v,hv,hr⟩:=h.get t x ha
  have:((⟨us⟩:Array Value)++Array.replicate n Go.undef).getD t Go.undef=v:=by
   have hlt:=lt_of_get hv;simp only [Array.getD_eq_getD_getElem?];rw [Array.getElem?_append_left (by simpa using hlt)]
   simp [hv]
  rw [this];exact hr
theorem callFunc_enter {f:FuncId} {fn:Func} {c:Code} {us:Array Value} {w:World} (hf:P.funcs[f]? =some fn) (hn:(fn.name== "runtime.NumGoroutine")=false) (hb:fn.body=some c):(callFunc f us).run P w= .ok (.enter f us) w:=by
 unfold callFunc;have hn: ¬fn.name= "runtime.NumGoroutine" :=by simpa using hn
 simp [Sem.run_bind,hf,hn,hb]
theorem func_step (hE:Env0 P F rec) (hL:LoopOK P prims rec) (hT:TabOK P prims F) (hmix:P.follows .mixedOrders=true):FuncOK P (step F rec):=by
 intro f args sto fz v sto' fz' h im loc w us hsr hus;simp only [step] at h;split at h
 · rename_i x hF
   have hc:=hT f x hF;unfold chkFunc at hc;cases hf:P.funcs[f]? with
   |none=>rw [hf] at hc;cases hc
   |some fn=>
    rw [hf] at hc;simp only [Bool.and_eq_true,Bool.not_eq_true'] at hc;obtain ⟨⟨⟨hname,hna⟩,hres⟩,hbody⟩:=hc;cases hb:fn.body with
    |none=>rw [hb] at hbody;cases hbody
    |some c=>
     rw [hb] at hbody;dsimp only at hbody;refine .inr ⟨callFunc_enter hf hname hb,calls_of_wp hf hb ?_⟩;split at h
     · rename_i hlen
       have hlen:args.length=x.nargs:=by simpa using hlen
       have hna:x.nargs<=fn.ntmps:=by simpa using hna
       have husl:=hus.length
       let st0:St:={env:=envOf 0 args,sto,fz,kn:=sto.length}
       let a0:Act:={tmps:=(⟨us⟩:Array Value)++Array.replicate (fn.ntmps- (⟨us⟩:Array Value).size) Go.undef,defers:=[]}
       have hat:At im loc sto w fn.ntmps st0 a0 w:=by
        refine ⟨im,loc,⟨⟨hsr,.refl _,.refl _,rfl,rfl,rfl,Nat.le_refl _,fun _ _ _=>rfl,fun _ _ h=> .inl h,fun _ _ h=> .inl h,fun t li k hl hs hsol=> .inr ⟨t,li,k,hl,hs,hsol,rfl⟩⟩,rfl,Nat.le_refl _,fun t li hl=>?_⟩,⟨start_env hus _,rfl,?_⟩⟩
        · obtain ⟨k,hk,_⟩:=hsr.blk t li hl
          exact lt_of_get hk
        · simp only [a0,Array.size_append,Array.size_replicate]
          show us.length+_=_
          have:(⟨us⟩:Array Value).size=us.length:=rfl
          rw [this];omega
       have fin: ∀(st:St),(resAll st x.res).map (fun vs=>Out.func (results1 vs) st.sto st.fz)=some (.func v sto' fz')-> ∀a' w',At im loc sto w fn.ntmps st a' w'->
        a'.defers=[]/\ ∃u,(results fn a'.tmps).run P w'= .ok u w'/\ ∃v',Ending.returned u= .returned v'/\ ∃im' loc',FPost im loc sto w v sto' fz' im' loc' w' v':=by
        intro st hst a' w' hat
        obtain ⟨im',loc',hk,hact⟩:=hat.ex;rw [Option.map_eq_some_iff] at hst;obtain ⟨vs,hvs,he⟩:=hst;simp only [Out.func.injEq] at he;obtain ⟨rfl,rfl,rfl⟩:=he;obtain ⟨u,hu,hvr⟩:=results_ok (P:=P) (fn:=fn) hk.kept.sr hact.env hres hvs;have K:=hk.kept;exact ⟨hact.defers,u,hu,u,rfl,im',loc',⟨K.imle,K.locle,hvr,K.sr,K.os,K.tape,K.output,K.size,K.frame,K.imnew,K.locs,K.own⟩⟩
       split at h
       · rename_i st hev
         exact code_sim hE hL hmix x.code c st0 .normal st hbody hev a0 w hat _ fun a' w' hat'=>fin st h a' w' hat'
       · rename_i st hev
         exact code_sim hE hL hmix x.code c st0 .ret st hbody hev a0 w hat _ fun a' w' hat'=>fin st h a' w' hat'
       · cases h
     · cases h
 · cases h
theorem sound (hT:TabOK P prims F) (hprim:PrimsOK P F) (hmix:P.follows .mixedOrders=true): ∀n,FuncOK P (run F n)/\LoopOK P prims (run F n)
 |0=>⟨fun f args sto fz v sto' fz' h=>by simp [run] at h,fun live x st e st' h=>by simp [run] at h⟩
 |n+1=>by
  obtain ⟨h1,h2⟩:=sound hT hprim hmix n;have hE:Env0 P F (run F n):=⟨h1,hprim⟩;exact ⟨func_step hE h2 hT hmix,loop_step hE h2 hmix⟩
theorem call_pure (hT:TabOK P prims F) (hprim:PrimsOK P F) (hmix:P.follows .mixedOrders=true) {n:Nat} {f:FuncId} {args:List PV} {v:PV} {sto':Sto} {fz':List Nat} (h:run F n (.func f args [] [])=some (.func v sto' fz'))
 {im:Im} {w:World} {us:List Value} (him: ∀b o,im b=some o->w.heap[b]? =some o) (hus:VRL im noLoc args us):
 Calls P f ⟨us⟩ w fun e w'=> ∃u,e= .returned u/\(∃im' loc',VR im' loc' v u/\SR im' loc' sto' fz' w')/\w'.os=w.os/\w'.tape=w.tape/\w'.output=w.output/\w.heap.size<=w'.heap.size/\ ∀b,b<w.heap.size->w'.heap[b]? =w.heap[b]?:=by
 have key:=(sound hT hprim hmix n).1 f args [] [] v sto' fz' h im noLoc w us (SR.empty him) hus;rcases key with ⟨u,w',h1,h2⟩|⟨h1,h2⟩
 · exfalso
   cases n with
   |zero=>simp [run] at h
   |succ n=>
    have h:step F (run F n) (.func f args [] [])=some (.func v sto' fz'):=h;simp only [step] at h;split at h
    · rename_i x hF
      have hc:=hT f x hF;unfold chkFunc at hc;cases hf:P.funcs[f]? with
      |none=>rw [hf] at hc;cases hc
      |some fn=>
       rw [hf] at hc;simp only [Bool.and_eq_true,Bool.not_eq_true'] at hc;cases hb:fn.body with
       |none=>rw [hb] at hc;exact (by have hzz:=hc.2;cases hzz)
       |some c=>
        rw [callFunc_enter hf hc.1.1.1 hb] at h1;cases h1
    · cases h
 · refine h2.mono fun e w' ⟨u,he,im',loc',hp⟩=>⟨u,he,⟨im',loc',hp.vr,hp.sr⟩,hp.os,hp.tape,hp.output,hp.size,fun b hb=>hp.frame b hb fun t li k hl=>by cases hl⟩
end
end Go.Vm
/- Functions that are known without their code: math/bits.Add64 and Sub64, slices.Clone. -/
namespace Go.Vm
section
variable {P : Program}
theorem fpost_pure {im:Im} {w:World} {v:PV} {u:Value} (hsr:SR im noLoc [] [] w) (hv:VR im noLoc v u):FPost im noLoc [] w v [] [] im noLoc w u where
 imle:= .refl _
 locle:= .refl _
 vr:=hv
 sr:=hsr
 os:=rfl
 tape:=rfl
 output:=rfl
 size:=Nat.le_refl _
 frame:=fun _ _ _=>rfl
 imnew:=fun _ _ h=> .inl h
 locs:=fun _ _ h=> .inl h
 own:=fun t li k h=>by cases h
theorem three_ints {im:Im} {loc:Loc} {k1 k2 k3:IntKind} {a b c:Int} {us:List Value} (h:VRL im loc [.int k1 a,.int k2 b,.int k3 c] us):us=[.int k1 a,.int k2 b,.int k3 c]:=by
 cases h with
 |cons _ _ _ _ h1 h=>
  cases h with
  |cons _ _ _ _ h2 h=>
   cases h with
   |cons _ _ _ _ h3 h=>
    cases h;rw [h1.int_inv,h2.int_inv,h3.int_inv]
theorem prim_add64 {f:FuncId} {fn:Func} (hf:P.funcs[f]? =some fn) (hname:(fn.name== "runtime.NumGoroutine")=false) (hb:fn.body.isNone=true) (hn:Extern.findNext fn=none) (he:Extern.find fn=some add64Entry):PrimOK P f pAdd64:=by
 intro args v news hp im w us hsr hus;unfold pAdd64 at hp;split at hp
 · rename_i a b c
   split at hp
   · rename_i hc
     have hc:c<=1:=by simpa using hc
     simp only [Option.some.injEq,Prod.mk.injEq] at hp;obtain ⟨rfl,rfl⟩:=hp;obtain rfl:=three_ints hus;refine .inl ⟨_,w,?_,im,noLoc,fpost_pure hsr (.tup _ [.int .u64 (((a:Int)+b+c)%18446744073709551616),.int .u64 (((a:Int)+b+c) / 18446744073709551616)] (.cons _ _ _ _ ?_ (.cons _ _ _ _ ?_ .nil)))⟩
     · rw [run_callFunc_extern hf hname hb hn he]
       have:=run_add64 (P:=P) (a:Int) b c (by omega) (by omega) (by omega) (by omega) w
       simp only [Int.ofNat_eq_natCast];rw [this];rfl
     · have:Int.ofNat ((a+b+c)%18446744073709551616)=((a:Int)+b+c)%18446744073709551616:=by
        simp only [Int.ofNat_eq_natCast];omega
       rw [this];exact .int _ _
     · have:Int.ofNat ((a+b+c) / 18446744073709551616)=((a:Int)+b+c) / 18446744073709551616:=by
        simp only [Int.ofNat_eq_natCast];omega
       rw [this];exact .int _ _
   · cases hp
 · cases hp
def xcA (esz:Nat):XCode:= .region none [⟨some 2,.mov (.c (.sl esz true [])),none⟩] [0]
def xcN (esz:Nat):XCode:= .seq (.region none [⟨some 2,.mov (.c (.sl esz true [])),none⟩] [2]) .ret
def xcC (esz:Nat) (zero:Row):XCode:= .seq (.region none [⟨some 5,.mkrow esz 0 zero [],none⟩,⟨some 6,.mov (.t 0),none⟩,⟨some 7,.append esz (.t 5) (.t 6),none⟩,⟨some 2,.mov (.t 7),none⟩] [2]) .ret
def chkNil (P:Program) (o:Oper):Bool:=
 o.guard.isNone&&o.dst==some 4&&(match o.op with
  | .binOp .eql t x (.const (.slice none 0 0)) _=>chkOpd (.t 3) x&&isSliceT P t
  |_=>false)
def chkClone (P:Program) (esz:Nat) (zero:Row) (f:FuncId):Bool:=
 match P.funcs[f]? with
 |some fn=>!(fn.name== "runtime.NumGoroutine")&&Nat.blt 7 fn.ntmps&&chkRes P [.tmp 2] fn.results.toList&&(match fn.body with
  |some (.seq a (.seq (.seq (.region _ ops false) (.cond c n .skip)) r))=>
   chkCode P (fun _=>true) fn.ntmps (xcA esz) a&&chkCode P (fun _=>true) fn.ntmps (xcN esz) n&&chkCode P (fun _=>true) fn.ntmps (xcC esz zero) r&&chkOpd (.t 4) c&&
    (match ops.toList with
    | [o1,o2]=>chkOper P (fun _=>true) fn.ntmps ops ⟨some 3,.mov (.t 0),none⟩ o1&&chkNil P o2
    |_=>false)
  |_=>false)
 |none=>false
theorem env0:Env0 P (fun _=>none) (fun _=>none):=⟨(fun _ _args _sto _fz _v _sto' _fz' h=>(by cases h)),(fun _ _k _p h=>(by cases h))⟩
theorem loop0 {prims:FuncId->Bool}:LoopOK P prims (fun _=>none):=fun _ _x _st _e _st' h=>(by cases h)
theorem prim_clone (hmix:P.follows .mixedOrders=true) {esz:Nat} {zero:Row} {f:FuncId} (hc:chkClone P esz zero f=true):PrimOK P f (pClone esz):=by
 intro args v news hp im w us hsr hus;unfold chkClone at hc;cases hf:P.funcs[f]? with
 |none=>rw [hf] at hc;cases hc
 |some fn=>
  rw [hf] at hc;simp only [Bool.and_eq_true,Bool.not_eq_true'] at hc;obtain ⟨⟨⟨hname,hnt⟩,hres⟩,hbody⟩:=hc;have hnt:7<fn.ntmps:=by simpa using hnt
  split at hbody
  · rename_i ca id ops cc cn cr hb
    simp only [Bool.and_eq_true] at hbody;obtain ⟨⟨⟨⟨hA,hN⟩,hC⟩,hcc⟩,hops⟩:=hbody;split at hops
    · rename_i o1 o2 hl
      simp only [Bool.and_eq_true] at hops;obtain ⟨ho1,ho2⟩:=hops;have harg: ∃e c rows,args=[.sl e c rows]:=by
       unfold pClone at hp;split at hp
       · exact ⟨_,_,_,rfl⟩
       · cases hp
      obtain ⟨e,cl,rows,rfl⟩:=harg;obtain ⟨u,rfl⟩: ∃u,us=[u]:=by
       cases hus with
       |cons _ u _ us h1 h2=>cases h2;exact ⟨u,rfl⟩
      refine .inr ⟨callFunc_enter hf hname hb,calls_of_wp hf hb ?_⟩
      let st0:St:={env:=[(0,.sl e cl rows)],sto:=[],fz:=[],kn:=0}
      let a0:Act:={tmps:=(⟨[u]⟩:Array Value)++Array.replicate (fn.ntmps- (⟨[u]⟩:Array Value).size) Go.undef,defers:=[]}
      have hat0:At im noLoc [] w fn.ntmps st0 a0 w:=by
       refine ⟨im,noLoc,⟨⟨hsr,.refl _,.refl _,rfl,rfl,rfl,Nat.le_refl _,fun _ _ _=>rfl,fun _ _ h=> .inl h,fun _ _ h=> .inl h,fun t li k hl=>by cases hl⟩,rfl,Nat.le_refl _,fun t li hl=>by cases hl⟩,⟨start_env hus _,rfl,?_⟩⟩
       simp only [a0,Array.size_append,Array.size_replicate];show 1+(fn.ntmps-1)=_;omega
      have fin: ∀(st:St) (v':PV),lk 2 st.env=v'-> ∀a' w',At im noLoc [] w fn.ntmps st a' w'->
       a'.defers=[]/\ ∃u,(results fn a'.tmps).run P w'= .ok u w'/\ ∃v'':Value,Ending.returned u= .returned v''/\ ∃im' loc',FPost im noLoc [] w v' st.sto st.fz im' loc' w' v'':=by
       intro st v' hv' a' w' hat
       obtain ⟨im',loc',hk,hact⟩:=hat.ex;obtain ⟨u,hu,hvr⟩:=results_ok (P:=P) (fn:=fn) hk.kept.sr hact.env hres (vs:=[v']) (by simp [resAll,resOf,hv'])
       have K:=hk.kept;exact ⟨hact.defers,u,hu,u,rfl,im',loc',⟨K.imle,K.locle,hvr,K.sr,K.os,K.tape,K.output,K.size,K.frame,K.imnew,K.locs,K.own⟩⟩
      refine wp_seq ?_;refine code_sim env0 loop0 hmix (xcA esz) _ st0 .normal {env:=[(0,.sl e cl rows)],sto:=[],fz:=[],kn:=0} hA rfl a0 w hat0 _ fun a1 w1 hat1=>?_
      refine wp_seq (wp_seq ?_);refine wp_region ?_;have hops2:ops= #[o1,o2]:=Array.ext' (by simpa using hl)
      subst hops2;obtain ⟨im1,loc1,hk1,hact1⟩:=hat1.ex;have hx0:=hact1.env 0;have hx0:VR im1 loc1 (.sl e cl rows) (a1.tmps.getD 0 Go.undef):=hx0;obtain ⟨ad,cap,hu0,hcap,hck,hrows⟩:=hx0.sl_inv;unfold chkOper at ho1;simp only [Bool.and_eq_true,beq_iff_eq] at ho1;obtain ⟨⟨⟨hd1,_⟩,hg1⟩,hop1⟩:=ho1;have hg1':o1.guard=none:=by
       cases hg:o1.guard with
       |none=>rfl
       |some q=>rw [hg] at hg1;simp [chkGuard] at hg1
      have hop1': ∃x,(o1.op= .move x\/o1.op= .assign x)/\chkOpd (.t 0) x=true:=by
       cases ho:o1.op<;>rw [ho] at hop1<;>simp only [chkOp] at hop1<;>first|exact ⟨_,.inl rfl,hop1⟩|exact ⟨_,.inr rfl,hop1⟩|simp at hop1
      obtain ⟨x1,hx1,hcx1⟩:=hop1';have hx1':a1.eval x1= .slice ad rows.length cap:=by
       have h:=opd_ok (a:=a1) (e:=[(0,PV.sl e cl rows)]) (.t 0) (fun t ht=>by injection ht with ht;subst ht;exact hact1.env 0) x1 hcx1
       cases x1 with
       |tmp t=>
        have:(0:Nat)=t:=by simpa [chkOpd] using hcx1
        subst this;simpa [Act.eval] using hu0
       |_=>simp [chkOpd] at hcx1
      have hrun1:(execOp a1.eval o1).run P w1= .ok (.value (.slice ad rows.length cap)) w1:=by
       rcases hx1 with h|h<;>simp [execOp,h,hx1']
      unfold chkNil at ho2;simp only [Bool.and_eq_true,beq_iff_eq,Option.isNone_iff_eq_none] at ho2;obtain ⟨⟨hg2,hd2⟩,hop2⟩:=ho2;split at hop2
      case h_2=>cases hop2
      rename_i ty x2 ub hop2e;simp only [Bool.and_eq_true] at hop2;obtain ⟨hx2,hst⟩:=hop2;have hx2':x2= .tmp 3:=by
       cases x2 with
       |tmp t=>
        have:(3:Nat)=t:=by simpa [chkOpd] using hx2
        subst this;rfl
       |_=>simp [chkOpd] at hx2
      subst hx2';unfold isSliceT at hst;split at hst
      case h_2=>cases hst
      rename_i el hty;have hsz1:a1.tmps.size=fn.ntmps:=hact1.nts
      let a2:Act:=a1.put (some 3) (.slice ad rows.length cap)
      have ha2:a2.tmps.getD 3 Go.undef= .slice ad rows.length cap:=by
       simp only [a2,Act.put,Array.getD_eq_getD_getElem?];rw [Array.getElem?_setIfInBounds_self_of_lt (by omega)];rfl
      have hrun2:(execOp a2.eval o2).run P w1= .ok (.value (.bool ad.isNone)) w1:=by
       simp only [execOp,hop2e];refine run_value ?_;have e3:a2.eval (.tmp 3)= .slice ad rows.length cap:=by simpa [Act.eval] using ha2
       rw [e3];have hg:(eqGuard .eql ty (.tmp 3) (.const (.slice none 0 0)) (.slice ad rows.length cap) (a2.eval (.const (.slice none 0 0)))).run P w1= .ok () w1:=by
        unfold eqGuard;simp [Act.eval]
       simp only [Sem.run_bind,hg,Result.andThen_ok];exact Lib.run_eql_slice_nil w1 ty el ad rows.length cap 0 0 hty
      let a3:Act:=a2.put (some 4) (.bool ad.isNone)
      have hat3:At im noLoc [] w fn.ntmps {env:=[(0,.sl e cl rows)],sto:=[],fz:=[],kn:=0} a3 w1:=by
       refine ⟨im1,loc1,hk1,⟨fun t=>?_,hact1.defers,by simp [a3,a2,Act.put,hsz1]⟩⟩
       have h:=hact1.env t;simp only [lk_cons] at h ⊢
       by_cases ht:t=0
       · subst ht
         simp only [if_true] at h ⊢;simpa [a3,a2,Act.put,Array.getElem?_setIfInBounds] using h
       · rw [if_neg (fun e=>ht e.symm)];exact .undef _
      have ha3:a3.eval cc= .bool ad.isNone:=by
       cases cc with
       |tmp t=>
        have:(4:Nat)=t:=by simpa [chkOpd] using hcc
        subst this;simp only [Act.eval,a3,Act.put,Array.getD_eq_getD_getElem?];rw [Array.getElem?_setIfInBounds_self_of_lt (by simp [a2,Act.put];omega)];rfl
       |_=>simp [chkOpd] at hcc
      have hrange:List.range #[o1,o2].size=[0,1]:=rfl;rw [hrange];simp only [wpOps];have e0:(#[o1,o2]:Array Oper)[0]? =some o1:=rfl;have e1:(#[o1,o2]:Array Oper)[1]? =some o2:=rfl;rw [e0];dsimp only;have hw1:Region.wanted o1 (yielded #[o1,o2] a1.tmps)=true:=by unfold Region.wanted;rw [hg1']
      rw [hw1,if_pos rfl];refine .inl ?_;unfold Oper.wp;rw [hrun1,Oper.upon_value,<- hd1,e1];dsimp only;have hw2:Region.wanted o2 (yielded #[o1,o2] (a1.put (some 3) (.slice ad rows.length cap)).tmps)=true:=by unfold Region.wanted;rw [hg2]
      rw [hw2,if_pos rfl];refine .inl ?_;rw [show a1.put (some 3) (.slice ad rows.length cap)=a2 from rfl,hrun2,Oper.upon_value,hd2];show (Code.cond cc cn .skip).wp P _ a3 w1;cases had:ad with
      |none=>
       have hnil:rows=[]:=by
        rcases rows with _|⟨r,rs⟩
        · rfl
        · obtain ⟨b,o,h,_⟩:=hrows (by simp)
          rw [had] at h;cases h
       subst hnil;simp only [pClone,Option.some.injEq,Prod.mk.injEq] at hp;obtain ⟨rfl,rfl⟩:=hp;refine wp_cond_true (by rw [ha3,had];rfl) ?_
       refine code_sim env0 loop0 hmix (xcN esz) _ _ .ret {env:=[(2,.sl esz true [])],sto:=[],fz:=[],kn:=0} hN rfl a3 w1 hat3 _ fun a4 w4 hat4=>?_
       obtain ⟨hdf,u',hu',v'',hv'',im',loc',hf'⟩:=fin _ _ rfl a4 w4 hat4;refine ⟨hdf,u',hu',v'',hv'',im',loc'.set 1 ⟨0,0,esz,0,0⟩,?_⟩;have hnone: ∀t,loc' t=none:=fun t=>by
        cases hl:loc' t with
        |none=>rfl
        |some li=>obtain ⟨k,hk,_⟩:=hf'.sr.blk t li hl;simp at hk
       obtain ⟨ad',cap',hv3,_,hck',_⟩:=hf'.vr.sl_inv;have hc0:cap'=0:=by simpa using hck' rfl
       subst hc0;exact {
        imle:=hf'.imle,locle:=fun t li h=>by cases h
        vr:=by rw [hv3];exact .own 1 esz 0 0 0 false ⟨0,0,esz,0,0⟩ ad' 0 (Loc.set_same _ _ _) rfl (Nat.le_refl _) (Nat.le_refl _) (Nat.le_refl _) (fun h=>by cases h) (.inl rfl)
        sr:={
         im_ok:=hf'.sr.im_ok
         blk:=fun t li h=>by
          unfold Loc.set at h;split at h
          · rename_i ht;subst ht;injection h with h;subst h
            exact ⟨_,rfl,rfl,rfl,fun h=>absurd rfl h⟩
          · rw [hnone t] at h;cases h
         excl:=fun t u li lj k k' h h' hs hs' hso=>by
          unfold Loc.set at h;split at h
          · rename_i ht;subst ht;simp at hs;subst hs;cases hso
          · rw [hnone t] at h;cases h
         free:=fun t li k h hs hso=>by
          unfold Loc.set at h;split at h
          · rename_i ht;subst ht;simp at hs;subst hs;cases hso
          · rw [hnone t] at h;cases h}
        os:=hf'.os,tape:=hf'.tape,output:=hf'.output,size:=hf'.size,frame:=hf'.frame,imnew:=hf'.imnew
        locs:=fun t li h=> .inr (Nat.zero_le _)
        own:=fun t li k h hs hso=>by
         unfold Loc.set at h;split at h
         · rename_i ht;subst ht;simp at hs;subst hs;cases hso
         · rw [hnone t] at h;cases h}
      |some ad'=>
       refine wp_cond_false (by rw [ha3,had];rfl) (wp_skip ?_)
       rcases rows with _|⟨r,rs⟩
       · simp only [pClone,Option.some.injEq,Prod.mk.injEq] at hp
         obtain ⟨rfl,rfl⟩:=hp;exact code_sim env0 loop0 hmix (xcC esz zero) _ _ .ret {env:=[(2,.own 1 esz 0 0 0 false)],sto:=[.arr esz [],.arr esz []],fz:=[],kn:=0} hC rfl a3 w1 hat3 _ fun a4 w4 hat4=>fin _ _ rfl a4 w4 hat4
       · simp only [pClone] at hp
         split at hp
         case isFalse=>cases hp
         rename_i hcond;simp only [Bool.and_eq_true,Nat.beq_eq,Nat.ble_eq] at hcond;obtain ⟨rfl,hmost⟩:=hcond;simp only [Option.some.injEq,Prod.mk.injEq] at hp;obtain ⟨rfl,rfl⟩:=hp;have hap:appendE [.arr e []] [] e (.own 0 e 0 0 0 true) (.sl e cl (r::rs))=some {v:= .own 1 e 0 (0+(rs.length+1)) (0+(rs.length+1)) false,news:=[.arr e (r::rs)],rd:=[0]}:=by
          have h1:Nat.beq e e=true:=by simp
          have h2:Nat.ble (rs.length+1) 0=false:=rfl;have h3:Nat.ble (0+(rs.length+1)) most=true:=by simpa using hmost
          simp only [appendE,rowsOf,h1,if_true];simp [h2,hmost,tokOf]
         refine code_sim env0 loop0 hmix (xcC e zero) _ _ .ret {env:=[(2,.own 1 e 0 (0+(rs.length+1)) (0+(rs.length+1)) false)],sto:=[.arr e [],.arr e (r::rs)],fz:=[],kn:=0} hC ?_ a3 w1 hat3 _ fun a4 w4 hat4=>fin _ _ rfl a4 w4 hat4
         simp only [xcC,evC,evRegion,evOps,wanted,evX,evOp,Opd.ev,lk];simp [fillRows,XR.ok,nodupW,XR.next,putEnv,addN,applyWr,lk,hap]
    · cases hops
  · cases hbody
end
end Go.Vm
/- A table of functions as a tree. -/
namespace Go.Vm
inductive TT where
 |nil
 |leaf (k:Nat) (e:Ent)
 |node (m:Nat) (a b:TT)
def TT.get:TT->Nat->Option Ent
 | .nil,_=>none
 | .leaf k e,f=>bif Nat.beq f k then some e else none
 | .node m a b,f=>bif Nat.blt f m then a.get f else b.get f
def TT.All (p:Nat->Ent->Prop):TT->Prop
 | .nil=>True
 | .leaf k e=>p k e
 | .node _ a b=>a.All p/\b.All p
theorem TT.get_all {p:Nat->Ent->Prop}: ∀{t:TT} {f:Nat} {e:Ent},t.All p->t.get f=some e->p f e
 | .nil,f,e,_,h=>by cases h
 | .leaf k e',f,e,ha,h=>by
  simp only [TT.get] at h;cases hk:Nat.beq f k with
  |false=>rw [hk] at h;cases h
  |true=>
   rw [hk] at h
   have:f=k:=by simpa using hk
   subst this;have h:some e'=some e:=h;injection h with h;subst h;exact ha
 | .node m a b,f,e,ha,h=>by
  simp only [TT.get] at h;cases hk:Nat.blt f m with
  |false=>rw [hk] at h;exact TT.get_all ha.2 h
  |true=>rw [hk] at h;exact TT.get_all ha.1 h
def EntOK (P:Program) (f:Nat):Ent->Prop
 | .code x=>chkFunc P (fun _=>true) x f=true
 | .prim k p=>k=false/\PrimOK P f p
theorem TT.tabOK {P:Program} {t:TT} (h:t.All (EntOK P)):TabOK P (fun _=>true) t.get:=fun f x hf=>by
 have:=TT.get_all h hf
 exact this
theorem TT.primsOK {P:Program} {t:TT} (h:t.All (EntOK P)):PrimsOK P t.get:=fun f k p hf=>by
 have:=TT.get_all h hf
 exact this
end Go.Vm
/- A law's row from what the logical machine answers: the result is true, nothing that was there has turned. -/
namespace Go.Vm
open Go.ChangeShapes Go.WideShapes Go.ChangeAt Go.RowKit
section
variable {H : Type} {enc : TypeId × Value -> H} {P : Program}
theorem trodAll_below (hl:laidOutB P=true) {W W':World} (hb:Below W.heap.size W W'): ∀{ts:List TypeId} {vs:List Value} {ds:List (DataW H)} {ps:List MemPlace},(∀t∈ts,P.readableRec t=true/\t<P.types.size)->
 DataW.TrodAll enc P W 0 (fun _=>true) true ts vs ds ps->(∀x∈ps,x.block<W.heap.size)->DataW.TrodAll enc P W' 0 (fun b=>decide (b<W.heap.size)) true ts vs ds ps
 | [],vs,ds,ps,_,h,_=>by
  obtain ⟨rfl,rfl,rfl⟩:=trodAll_nil h;exact trodAll_mk0
 |t::ts,vs,ds,ps,ht,h,hlt=>by
  obtain ⟨v,vs',d,ds',p,q,rfl,rfl,rfl,h1,h2⟩:=trodAll_cons h;obtain ⟨h3,h4⟩:=ht t (by simp)
  exact trodAll_cons_mk (Below.trod hl h3 h4 h1 hb fun x hx=>hlt x (by simp [hx])) (trodAll_below hl hb (fun t' ht'=>ht t' (by simp [ht'])) h2 fun x hx=>hlt x (by simp [hx]))
theorem law_post (hl:laidOutB P=true) {f:Func} {s:ChangeSpec} {W W':World} {args:Array Value} {ds:List (DataW H)} {before:List MemPlace} {bt:TypeId} (hvars:s.vars=[]) (hres:f.resultTypes= #[bt]) (hbt:P.underlying bt=some .bool)
 (hp: ∀t∈f.params.toList,P.readableRec t=true/\t<P.types.size) (hW:DataW.Whole enc P f.params.toList s.vars false W args.toList ds [] before)
 (hfn:s.fn H (ds++[])={results:=[.lit (.bool true)],args:=ds}) (hb:Below W.heap.size W W'):s.post enc P f false true false false W args (.bool true) W':=by
 have hW':=hW;obtain ⟨p,q,hA,hV,rfl,hfz,hnd⟩:=hW;have hlt: ∀x∈p++q,x.block<W.heap.size:=fun x hx=>by simpa using hW'.lt x hx
 refine ⟨ds,[],p++q,[],p,[],hW',?_,?_,?_,hb.frame _,fun h=>by cases h⟩
 · rw [hfn,hres]
   exact trodAll_mk1 (shut_bool hbt true)
 · rw [hfn]
   exact trodAll_below hl hb hp hA fun x hx=>hlt x (by simp [hx])
 · rw [hfn,hvars]
   rfl
end
def imOf (w:World):Im:=fun b=>w.heap[b]?
theorem imOf_cell {w:World} {b o:Nat} {v:Value} (h:w.cell? ⟨b,o,none⟩=some v):imCell (imOf w) b o=some v:=by
 unfold World.cell? at h;unfold imCell imOf;exact h
theorem law_calls {P:Program} {F:Tab} {prims:FuncId->Bool} (hT:TabOK P prims F) (hprim:PrimsOK P F) (hmix:P.follows .mixedOrders=true) {f:FuncId} {args:List PV} {s:Sto} {z:List Nat} {n:Nat} {us:List Value} {w:World}
 (h:run F n (.func f args [] [])=some (.func (.bool true) s z)) (hus:VRL (imOf w) noLoc args us):Calls P f ⟨us⟩ w fun e w'=>e= .returned (.bool true)/\Below w.heap.size w w':=by
 refine (call_pure hT hprim hmix h (im:=imOf w) (fun b o h=>h) hus).mono fun e w' ⟨u,he,⟨im',loc',hvr,_⟩,h1,h2,h3,h4,h5⟩=>?_
 obtain rfl:=hvr.bool_inv;exact ⟨he,⟨h1,h2,h3,h4,h5⟩⟩
end Go.Vm
/- Regions of one order, step by step, for contracts. -/
namespace Go.Vm
def isCall:XOp->Bool
 | .call .. | .callv .. =>true
 |_=>false
variable {F : Tab}
def WS (F:Tab) (ops:List XOper) (st:St) (Q:St->Prop):Prop:= ∀tr,WO F ops st tr (fun s _=>Q s)
def stepOp (st:St) (o:XOper):Option St:=
 match wanted o.guard st.env with
 |some true=>match evOp st.env st.sto st.fz o.op with
  |some x=>if (XR.loc x).ok st.fz then some ((XR.loc x).next o.dst st) else none
  |none=>none
 |some false=>some {st with env:=putEnv o.dst .nul st.env}
 |none=>none
theorem evX_loc {rec:Task->Option Out} {e:Env} {sto:Sto} {fz:List Nat} {op:XOp} (h:isCall op=false):
 evX F rec e sto fz op=(evOp e sto fz op).map .loc:=by
 cases op<;>first|rfl|cases h
theorem WS.nil {st:St} {Q:St->Prop} (h:Q st):WS F [] st Q:=fun _=>WO.nil h
theorem WS.cons {o:XOper} {r:List XOper} {st st':St} {Q:St->Prop} (h:isCall o.op=false) (hs:stepOp st o=some st') (k:WS F r st' Q):WS F (o::r) st Q:=by
 intro tr;unfold stepOp at hs;split at hs
 · rename_i hw
   split at hs
   · rename_i x hx
     split at hs
     · rename_i hok
       injection hs with hs;subst hs;exact WO.op x hw (fun rec=>by rw [evX_loc h,hx];rfl) hok (k _)
     · cases hs
   · cases hs
 · rename_i hw
   injection hs with hs;subst hs;exact WO.skip hw (k _)
 · cases hs
theorem WS.one {o:XOper} {r:List XOper} {st:St} {Q:St->Prop} (x:Res) (hc:isCall o.op=false) (hw:wanted o.guard st.env=some true) (hx:evOp st.env st.sto st.fz o.op=some x) (hok:(XR.loc x).ok st.fz=true)
 (k:WS F r ((XR.loc x).next o.dst st) Q):WS F (o::r) st Q:=fun tr=>
 WO.op x hw (fun rec=>by rw [evX_loc hc,hx];rfl) hok (k _)
def stepOps:List XOper->St->Option St
 | [],st=>some st
 |o::r,st=>match isCall o.op with
  |true=>none
  |false=>match stepOp st o with
   |some st'=>stepOps r st'
   |none=>none
theorem WS.all: ∀{ops:List XOper} {st st':St} {Q:St->Prop},stepOps ops st=some st'->Q st'->WS F ops st Q
 | [],st,st',Q,h,hq=>by simp only [stepOps,Option.some.injEq] at h;subst h;exact WS.nil hq
 |o::r,st,st',Q,h,hq=>by
  simp only [stepOps] at h;cases hc:isCall o.op with
  |true=>rw [hc] at h;cases h
  |false=>
   rw [hc] at h;dsimp only at h;cases hs:stepOp st o with
   |none=>rw [hs] at h;cases h
   |some s1=>rw [hs] at h;exact WS.cons hc hs (WS.all h hq)
theorem WS.pure {d:Option Nat} {g:Option (Nat×Bool)} {f:FuncId} {as:List Opd} {r:List XOper} {st:St} {Q:St->Prop}
 {args:List PV} {v:PV} (h:Pure F f args v) (hw:wanted g st.env=some true) (ha:exL st.sto (exBx st.sto deep) (evs st.env as)=some args)
 (k:WS F r {st with env:=putEnv d v st.env} Q):WS F (⟨d,.call .pur f as,g⟩::r) st Q:=fun tr=>by
 refine WO.pure h hw ha ?_
 have:=k (XR.tr st.sto.length (.loc {v,rd:=toksL (toksBx st.sto deep) (evs st.env as)})::tr)
 simpa [XR.next,addN_eq,applyWr] using this
theorem WS.shr {d:Option Nat} {g:Option (Nat×Bool)} {f:FuncId} {as:List Opd} {r:List XOper} {st:St} {Q:St->Prop}
 (hw:wanted g st.env=some true) (h:Does F f (evs st.env as) st.sto st.fz fun v s z=>(Nat.ble st.sto.length s.length&&st.fz.all (has z))=true/\WS F r {st with env:=putEnv d v st.env,sto:=s,fz:=z} Q):
 WS F (⟨d,.call .shr f as,g⟩::r) st Q:=fun tr=>by
 obtain ⟨n,v,s,z,hr,hc,hk⟩:=h;refine WO.call (.shr v s z) hw ⟨n,?_⟩ rfl (hk _);simp only [evX,callShared,hr];rw [if_pos hc]
end Go.Vm
/- Plain terms for what a function computes: loops, elements of lists, numbers; and the machine's loop over a plain one. -/
namespace Go.Vm
inductive Step (σ ρ:Type) where
 |next (s:σ)
 |done (r:ρ)
section
variable {σ ρ : Type}
def iterO (body:σ->Option (Step σ ρ)):Nat->σ->Option ρ
 |0,_=>none
 |n+1,x=>match body x with
  |some (.next y)=>iterO body n y
  |some (.done r)=>some r
  |none=>none
open Classical in
noncomputable def whileO (body:σ->Option (Step σ ρ)) (x:σ):Option ρ:=
 if h: ∃n r,iterO body n x=some r then iterO body h.choose x else none
theorem iterO_mono {body:σ->Option (Step σ ρ)}: ∀{n:Nat} {x:σ} {r:ρ},iterO body n x=some r-> ∀k,iterO body (n+k) x=some r
 |0,x,r,h,_=>by cases h
 |n+1,x,r,h,k=>by
  rw [show n+1+k=(n+k)+1 by omega]
  simp only [iterO] at h ⊢;split at h
  · exact iterO_mono h k
  · exact h
  · cases h
theorem iterO_det {body:σ->Option (Step σ ρ)} {n m:Nat} {x:σ} {r s:ρ} (h:iterO body n x=some r) (k:iterO body m x=some s):r=s:=by
 have h1:=iterO_mono h m;have h2:=iterO_mono k n;rw [Nat.add_comm m n] at h2;rw [h1] at h2;exact Option.some.inj h2
theorem whileO_some {body:σ->Option (Step σ ρ)} {x:σ} {r:ρ}:whileO body x=some r↔ ∃n,iterO body n x=some r:=by
 unfold whileO;constructor
 · intro h
   split at h
   · exact ⟨_,h⟩
   · cases h
 · rintro ⟨n,hn⟩
   have hex: ∃n r,iterO body n x=some r:=⟨n,r,hn⟩;rw [dif_pos hex];obtain ⟨s,hs⟩:=hex.choose_spec;rw [hs,iterO_det hs hn]
theorem whileO_next {body:σ->Option (Step σ ρ)} {x y:σ} (h:body x=some (.next y)):whileO body x=whileO body y:=by
 apply Option.ext;intro r;rw [whileO_some,whileO_some];constructor
 · rintro ⟨n,hn⟩
   cases n with
   |zero=>cases hn
   |succ n=>simp only [iterO,h] at hn;exact ⟨n,hn⟩
 · rintro ⟨n,hn⟩
   exact ⟨n+1,by simp only [iterO,h];exact hn⟩
theorem whileO_done {body:σ->Option (Step σ ρ)} {x:σ} {r:ρ} (h:body x=some (.done r)):whileO body x=some r:=
 whileO_some.2 ⟨1,by simp only [iterO,h]⟩
end
noncomputable def loopW {σ ρ:Type} (b:Option Nat) (body:σ->Option (Step σ ρ)) (x:σ):Option ρ:=
 match b with
 |none=>whileO body x
 |some N=>iterO body N x
theorem loopW_ok {σ ρ:Type} {b:Option Nat} {body:σ->Option (Step σ ρ)} {x:σ} {r:ρ} (h:loopW b body x=some r): ∃n,iterO body n x=some r:=by
 cases b with
 |none=>exact whileO_some.1 h
 |some N=>exact ⟨_,h⟩
def whileL:Option Nat:=none
theorem bindE {α β:Type} {x:Option α} {f:α->Option β} {r:β} (h:x.bind f=some r): ∃a,x=some a/\f a=some r:=by
 cases x with
 |none=>cases h
 |some a=>exact ⟨a,rfl,h⟩
def bindO {α ρ:Type} (x:Option α) (f:α->Option ρ):Option ρ:=x.bind f
def condO {ρ:Type} (c:Bool) (a b:Option ρ):Option ρ:=cond c a b
theorem bindO_some {α ρ:Type} {x:Option α} {f:α->Option ρ} {y:ρ} (h:bindO x f=some y): ∃a,x=some a/\f a=some y:=bindE h
theorem condO_some {ρ:Type} {c:Bool} {a b:Option ρ} {y:ρ} (h:condO c a b=some y):(c=true/\a=some y)\/(c=false/\b=some y):=by
 cases c
 · exact .inr ⟨rfl,h⟩
 · exact .inl ⟨rfl,h⟩
def geti {α:Type} (l:List α) (i:Int):Option α:=
 match i with
 | .ofNat n=>l[n]?
 | .negSucc _=>none
def seti {α:Type} (l:List α) (i:Int) (a:α):List α:=l.set i.toNat a
theorem geti_some {α:Type} {l:List α} {i:Int} {a:α} (h:geti l i=some a): ∃n:Nat,i=Int.ofNat n/\l[n]? =some a:=by
 unfold geti at h;split at h
 · exact ⟨_,rfl,h⟩
 · cases h
@[simp] theorem len_seti {α:Type} (l:List α) (i:Int) (a:α):(seti l i a).length=l.length:=by simp [seti]
def appendO {α:Type} (l:List α) (m:List α):Option (List α):=if l.length+m.length<=1048576 then some (l++m) else none
def makeO {α:Type} (n:Int) (z:α):Option (List α):=if 0<=n/\n<=1048576 then some (List.replicate n.toNat z) else none
def sliceO {α:Type} (l:List α) (lo hi:Int):Option (List α):=if 0<=lo/\lo<=hi/\hi<=l.length then some ((l.drop lo.toNat).take (hi.toNat-lo.toNat)) else none
def cloneO {α:Type} (l:List α):Option (List α):=if l.length<=1048576 then some l else none
def bAnd (k:IntKind) (a b:Int):Int:=k.wrap (BitVec.ofInt k.bits a&&&BitVec.ofInt k.bits b).toNat
def bOr (k:IntKind) (a b:Int):Int:=k.wrap (BitVec.ofInt k.bits a|||BitVec.ofInt k.bits b).toNat
def bXor (k:IntKind) (a b:Int):Int:=k.wrap (BitVec.ofInt k.bits a^^^BitVec.ofInt k.bits b).toNat
def bAndNot (k:IntKind) (a b:Int):Int:=k.wrap (BitVec.ofInt k.bits a&&& ~~~ BitVec.ofInt k.bits b).toNat
def bShl (k:IntKind) (a b:Int):Int:=k.wrap (a*2^(min b.toNat k.bits))
def bShr (k:IntKind) (a b:Int):Int:=a.fdiv (2^(min b.toNat k.bits))
def strAt (s:ByteArray) (i:Int):Option Int:=
 match i with
 | .ofNat n=>s[n]?.map fun b=>(b.toNat:Int)
 | .negSucc _=>none
def hasL (l:List (List Int)) (k:List Int):Bool:=l.any fun m=>k==m
def insL (l:List (List Int)) (k:List Int):List (List Int):=bif hasL l k then l else l++[k]
def keysLike (a:List Int) (l:List (List Int)):Bool:=l.all fun b=>Nat.beq b.length a.length
def hasO (l:List (List Int)) (k:List Int):Option Bool:=bif keysLike k l then some (hasL l k) else none
def insO (l:List (List Int)) (k:List Int):Option (List (List Int)):=bif keysLike k l then some (insL l k) else none
section
variable {F : Tab}
end
end Go.Vm
/- A logical machine over typed values: it turns a function's code into a plain term. What it computes is tied to the logical machine in SvRun. -/
namespace Go.Vm
inductive PT where
 |i (k:IntKind)
 |b
@[reducible] def PT.T : PT -> Type
  | .i _ => Int
  | .b => Bool
@[reducible] def RT : List PT -> Type
  | [] => Unit
  | [p] => p.T
  | p :: q :: r => p.T × RT (q :: r)
inductive SV where
 |junk
 |undef
 |nul
 |nilf
 |int (k:IntKind) (n:Int)
 |bool (b:Bool)
 |str (s:ByteArray)
 |agg (cs:List SV)
 |tup (cs:List SV)
 |sl (r:List PT) (l:List (RT r))
 |nil (e:Nat) (c:Bool)
 |own (t:Nat) (ex:Bool)
 |pre (t len cap:Nat) (ex:Bool)
 |part (t off len cap:Nat) (ex:Bool)
 |pa (t:Nat) (r:List PT) (i:Int) (a:RT r) (off:Nat)
 |pb (t:Nat) (i:Int) (off:Nat)
 |bp (t n off:Nat)
 |rptr (cs:List SV) (off:Nat)
 |clo (f:FuncId) (a b:List SV)
 |mp (t:Nat)
inductive SB where
 |arr (r:List PT) (l:List (RT r))
 |box (cs:List SV)
 |set (l:List (List Int))
 |dead
abbrev SE:=List (Nat×SV)
structure SSt where
 env:SE
 sto:List SB
 fz:List Nat
 kn:Nat
structure Rows where
 r:List PT
 l:List (RT r)
def PT.same:PT->PT->Bool
 | .i k,.i l=>kindEq k l
 | .b,.b=>true
 |_,_=>false
def rSame:List PT->List PT->Bool
 | [],[]=>true
 |p::r,q::s=>p.same q&&rSame r s
 |_,_=>false
theorem PT.same_eq: ∀{p q:PT},p.same q=true->p=q
 | .i k,.i l,h=>by rw [kindEq_iff.1 h]
 | .b,.b,_=>rfl
 | .i _,.b,h=>by cases h
 | .b,.i _,h=>by cases h
theorem rSame_eq: ∀{r s:List PT},rSame r s=true->r=s
 | [],[],_=>rfl
 |p::r,q::s,h=>by
  simp only [rSame,Bool.and_eq_true] at h;rw [PT.same_eq h.1,rSame_eq h.2]
 | [],_::_,h=>by cases h
 |_::_,[],h=>by cases h
def castL (r q:List PT) (l:List (RT r)):Option (List (RT q)):=if h:rSame r q=true then some (rSame_eq h▸l) else none
def PT.pv:(p:PT)->p.T->PV
 | .i k,n=> .int k n
 | .b,x=> .bool x
def RT.pv:(r:List PT)->RT r->List PV
 | [],_=>[]
 | [p],a=>[p.pv a]
 |p::q::r,a=>p.pv a.1::RT.pv (q::r) a.2
def PT.sv:(p:PT)->p.T->SV
 | .i k,n=> .int k n
 | .b,x=> .bool x
def RT.sv:(r:List PT)->RT r->List SV
 | [],_=>[]
 | [p],a=>[p.sv a]
 |p::q::r,a=>p.sv a.1::RT.sv (q::r) a.2
def PT.of:(p:PT)->SV->Option p.T
 | .i k,.int l n=>bif kindEq l k then some n else none
 | .b,.bool x=>some x
 |_,_=>none
def RT.of:(r:List PT)->List SV->Option (RT r)
 | [],[]=>some ()
 | [p],[v]=>p.of v
 |p::q::r,v::vs=>match p.of v,RT.of (q::r) vs with
  |some a,some b=>some (a,b)
  |_,_=>none
 |_,_=>none
def PT.zero:(p:PT)->p.T
 | .i _=>(0:Int)
 | .b=>false
def RT.zero:(r:List PT)->RT r
 | []=>()
 | [p]=>p.zero
 |p::q::r=>(p.zero,RT.zero (q::r))
def ptOf:PV->Option PT
 | .int k n=>match n with
  | .ofNat 0=>some (.i k)
  |_=>none
 | .bool b=>match b with
  |false=>some .b
  |true=>none
 |_=>none
def ptsOf:List PV->Option (List PT)
 | []=>some []
 |v::vs=>match ptOf v,ptsOf vs with
  |some p,some r=>some (p::r)
  |_,_=>none
def nth {α:Type}:List α->Nat->Option α
 | [],_=>none
 |x::_,0=>some x
 |_::r,n+1=>nth r n
theorem nth_eq {α:Type}: ∀(l:List α) (n:Nat),nth l n=l[n]?
 | [],n=>by simp [nth]
 |x::r,0=>by simp [nth]
 |x::r,n+1=>by simp [nth,nth_eq r n]
def lkS (t:Nat):SE->SV
 | []=> .undef
 |(s,v)::r=>bif Nat.beq s t then v else lkS t r
def setS (t:Nat) (v:SV):SE->SE
 | []=>[]
 |(s,x)::r=>bif Nat.beq s t then (s,v)::r else (s,x)::setS t v r
mutual
def ofPV:PV->SV
 | .undef=> .undef
 | .nul=> .nul
 | .nilf=> .nilf
 | .int k n=> .int k n
 | .bool b=> .bool b
 | .str s=> .str s
 | .agg cs=> .agg (ofPVL cs)
 | .tup cs=> .tup (ofPVL cs)
 | .sl e c rows=>match rows with
  | []=> .nil e c
  |_=> .junk
 | .clo f a b=> .clo f (ofPVL a) (ofPVL b)
 |_=> .junk
def ofPVL:List PV->List SV
 | []=>[]
 |x::xs=>ofPV x::ofPVL xs
end
def opdS (e:SE):Opd->SV
 | .t n=>lkS n e
 | .c v=>ofPV v
def opdsS (e:SE):List Opd->List SV
 | []=>[]
 |x::xs=>opdS e x::opdsS e xs
def SV.isOne:SV->Bool
 | .junk| .undef| .nul| .agg _| .tup _=>false
 |_=>true
def allOne:List SV->Bool
 | []=>true
 |x::xs=>x.isOne&&allOne xs
def SV.cells:SV->List SV
 | .agg cs=>cs
 |v=>[v]
def SV.stored (v:SV):Option (List SV):=bif allOne v.cells then some v.cells else none
def partS (agg:Option Nat) (off:Nat) (cs:List SV):Option SV:=
 match agg with
 |some s=>bif Nat.ble (off+s) cs.length then some (.agg ((cs.drop off).take s)) else none
 |none=>nth cs off
def spliceS (off:Nat) (new old:List SV):List SV:=old.take off++new++old.drop (off+new.length)
def contS (s:List SB):SV->Option Rows
 | .sl r l=>some ⟨r,l⟩
 | .own t _=>match nth s t with
  |some (.arr r l)=>some ⟨r,l⟩
  |_=>none
 | .pre t len _ _=>match nth s t with
  |some (.arr r l)=>some ⟨r,l.take len⟩
  |_=>none
 | .part t off len _ _=>match nth s t with
  |some (.arr r l)=>some ⟨r,(l.drop off).take len⟩
  |_=>none
 |_=>none
def tokS:SV->List Nat
 | .own t _=>[t]
 | .pre t _ _ _=>[t]
 | .part t _ _ _ _=>[t]
 |_=>[]
structure SRes where
 v:SV
 news:List SB:=[]
 wr:List (Nat×SB):=[]
 rd:List Nat:=[]
 fr:List Nat:=[]
def Ans (R:Type):= ∀ρ:Type,(R->ρ)->Option ρ
section
variable {R : Type}
def leafA (b:R):Ans R:=fun _ w=>some (w b)
def failA:Ans R:=fun _ _=>none
def bindA {α:Type} (x:Option α) (f:α->Ans R):Ans R:=fun ρ w=>bindO x fun a=>f a ρ w
def condA (c:Bool) (a b:Ans R):Ans R:=fun ρ w=>condO c (a ρ w) (b ρ w)
def seqV (v:SV) (k:SV->Ans R):Ans R:=
 match v with
 | .junk=>k .junk
 | .undef=>k .undef
 | .nul=>k .nul
 | .nilf=>k .nilf
 | .int a b=>k (.int a b)
 | .bool a=>k (.bool a)
 | .str a=>k (.str a)
 | .agg a=>k (.agg a)
 | .tup a=>k (.tup a)
 | .sl a b=>k (.sl a b)
 | .nil a b=>k (.nil a b)
 | .own a b=>k (.own a b)
 | .pre a b c d=>k (.pre a b c d)
 | .part a b c d x=>k (.part a b c d x)
 | .pa a b c d e=>k (.pa a b c d e)
 | .pb a b c=>k (.pb a b c)
 | .bp a b c=>k (.bp a b c)
 | .rptr a b=>k (.rptr a b)
 | .clo a b c=>k (.clo a b c)
 | .mp a=>k (.mp a)
theorem seqV_eq (v:SV) (k:SV->Ans R):seqV v k=k v:=by cases v<;>rfl
def arithS (op:BinOp) (k:IntKind) (a b:Int) (c:SV->Ans R):Ans R:=
 match op with
 | .add=>c (.int k (wrapF k (a+b)))
 | .sub=>c (.int k (wrapF k (a-b)))
 | .mul=>c (.int k (wrapF k (a*b)))
 | .quo=>condA (b==0) failA (c (.int k (wrapF k (Int.tdiv a b))))
 | .rem=>condA (b==0) failA (c (.int k (Int.tmod a b)))
 | .and=>c (.int k (bAnd k a b))
 | .or=>c (.int k (bOr k a b))
 | .xor=>c (.int k (bXor k a b))
 | .andNot=>c (.int k (bAndNot k a b))
 | .eql=>c (.bool (a==b))
 | .neq=>c (.bool (a !=b))
 | .lss=>c (.bool (decide (a<b)))
 | .leq=>c (.bool (decide (a<=b)))
 | .gtr=>c (.bool (decide (b<a)))
 | .geq=>c (.bool (decide (b<=a)))
 | .shl| .shr=>failA
def eqS:List SV->List SV->Option Bool
 | [],[]=>some true
 |x::xs,y::ys=>match x,y with
  | .int k a,.int l b=>bif kindEq k l then (match xs with
   | []=>(match ys with| []=>some (a==b)|_=>none)
   |_::_=>match eqS xs ys with
    |some r=>some (a==b&&r)
    |none=>none) else none
  |_,_=>none
 |_,_=>none
def fillCellsS:List (Nat×Nat×SV)->List SV->Option (List SV)
 | [],cs=>some cs
 |(off,sz,v)::r,cs=>match v.stored with
  |some w=>bif Nat.beq w.length sz&&Nat.ble (off+sz) cs.length then fillCellsS r (spliceS off w cs) else none
  |none=>none
def partsS (e:SE):List (Nat×Nat×Opd)->List (Nat×Nat×SV)
 | []=>[]
 |p::r=>(p.1,p.2.1,opdS e p.2.2)::partsS e r
def rowsS (r:List PT) (e:SE) (n:Nat):List (Nat×Opd)->Option (List (Nat×RT r))
 | []=>some []
 |p::ps=>match RT.of r (opdS e p.2).cells,rowsS r e n ps with
  |some a,some l=>bif Nat.blt p.1 n then some ((p.1,a)::l) else none
  |_,_=>none
def rowAt {α:Type} (i:Nat):α->List (Nat×α)->α
 |z,[]=>z
 |z,(j,a)::r=>rowAt i (bif Nat.beq j i then a else z) r
def genL {α:Type} (f:Nat->α):Nat->Nat->List α
 |_,0=>[]
 |i,n+1=>f i::genL f (i+1) n
def boundI (e:SE) (d:Int):Option Opd->Option Int
 |none=>some d
 |some x=>match opdS e x with
  | .int _ n=>some n
  |_=>none
def mmS (isMax:Bool) (k:IntKind):Int->List SV->Option SV
 |a,[]=>some (.int k a)
 |a,x::r=>match x with
  | .int l b=>bif kindEq k l then mmS isMax k (bif isMax then (if b>a then b else a) else (if b<a then b else a)) r else none
  |_=>none
def intsS:List SV->Option (List Int)
 | []=>some []
 |x::xs=>match x,intsS xs with
  | .int .i64 n,some l=>some (n::l)
  |_,_=>none
def keyS (n:Option Nat) (v:SV):Option (List Int):=
 match n,v with
 |none,.int .i64 a=>some [a]
 |some n,.agg cs=>bif Nat.beq cs.length n&&!Nat.beq n 1 then intsS cs else none
 |_,_=>none
def pickS (n:Nat) (i:Int) (j:Nat) (f:Nat->Ans R):Ans R:=
 match n with
 |0=>failA
 |n+1=>condA (i==Int.ofNat j) (f j) (pickS n i (j+1) f)
def ansO {α:Type} (x:Option α) (k:α->Ans R):Ans R:=
 match x with
 |some a=>k a
 |none=>failA
def ofV (k:SRes->Ans R) (v:SV):Ans R:=k {v}
def iadrS (s:List SB) (esz:Nat) (x:SV) (i:Int) (k:SRes->Ans R):Ans R:=
 match x with
 | .sl r l=>bif Nat.beq r.length esz then bindA (geti l i) fun a=>k {v:= .rptr (RT.sv r a) 0} else failA
 | .own t _=>match nth s t with
  |some (.arr r l)=>bif Nat.beq r.length esz then bindA (geti l i) fun a=>k {v:= .pa t r i a 0} else failA
  |_=>failA
 | .pre t len _ _=>match nth s t with
  |some (.arr r l)=>bif Nat.beq r.length esz then bindA (geti (l.take len) i) fun a=>k {v:= .pa t r i a 0} else failA
  |_=>failA
 |_=>failA
def loadS (s:List SB) (agg:Option Nat) (p:SV) (k:SRes->Ans R):Ans R:=
 match p with
 | .bp t _ off=>match nth s t with
  |some (.box cs)=>ansO (partS agg off cs) fun v=>k {v,rd:=[t]}
  |_=>failA
 | .pa t r _ a off=>match nth s t with
  |some (.arr _ _)=>ansO (partS agg off (RT.sv r a)) fun v=>k {v,rd:=[t]}
  |_=>failA
 | .pb t i off=>match nth s t with
  |some (.arr r l)=>bindA (geti l i) fun a=>ansO (partS agg off (RT.sv r a)) fun v=>k {v,rd:=[t]}
  |_=>failA
 | .rptr cs off=>ansO (partS agg off cs) fun v=>k {v}
 |_=>failA
def storeS (s:List SB) (z:List Nat) (sz:Nat) (p v:SV) (k:SRes->Ans R):Ans R:=
 match p with
 | .bp t _ off=>match nth s t with
  |some (.box cs)=>ansO v.stored fun w=>bif Nat.beq w.length sz&&Nat.ble (off+sz) cs.length&&!has z t then k {v:= .undef,wr:=[(t,.box (spliceS off w cs))]} else failA
  |_=>failA
 | .pa t r i a off=>match nth s t with
  |some (.arr q l)=>bif Nat.beq v.cells.length sz&&Nat.ble (off+sz) r.length&&!has z t then
   ansO (RT.of q (spliceS off v.cells (RT.sv r a))) fun b=>k {v:= .undef,wr:=[(t,.arr q (seti l i b))]} else failA
  |_=>failA
 | .pb t i off=>match nth s t with
  |some (.arr q l)=>bif Nat.beq v.cells.length sz&&Nat.ble (off+sz) q.length&&!has z t then
   (bif Nat.beq sz q.length then ansO (RT.of q v.cells) fun b=>k {v:= .undef,wr:=[(t,.arr q (seti l i b))]}
   else bindA (geti l i) fun a=>ansO (RT.of q (spliceS off v.cells (RT.sv q a))) fun b=>k {v:= .undef,wr:=[(t,.arr q (seti l i b))]}) else failA
  |_=>failA
 |_=>failA
def cutS (e:SE) (t off len cap:Nat) (ex:Bool) (lo hi mx:Option Opd) (k:SRes->Ans R):Ans R:=
 ansO (boundI e 0 lo) fun a=>ansO (boundI e (.ofNat len) hi) fun b=>match mx with
  |none=>condA (decide (0<=a)&&decide (a<=b)&&decide (b<= .ofNat cap)) (k {v:= .part t (off+a.toNat) (b.toNat-a.toNat) (cap-a.toNat) ex}) failA
  |some m=>match opdS e m with
   | .int _ c=>condA (decide (0<=a)&&decide (a<=b)&&decide (b<=c)&&decide (c<= .ofNat cap)) (k {v:= .part t (off+a.toNat) (b.toNat-a.toNat) (c.toNat-a.toNat) true}) failA
   |_=>failA
def slcS (e:SE) (s:List SB) (esz:Nat) (x:SV) (lo hi mx:Option Opd) (k:SRes->Ans R):Ans R:=
 match x with
 | .sl r l=>match mx with
  |none=>bif Nat.beq r.length esz then ansO (boundI e 0 lo) fun a=>ansO (boundI e (Int.ofNat l.length) hi) fun b=>bindA (sliceO l a b) fun m=>k {v:= .sl r m} else failA
  |some _=>failA
 | .own t ex=>match nth s t with
  |some (.arr r l)=>bif Nat.beq r.length esz then (match lo,hi,mx with
   |none,none,none=>k {v:= .own t ex}
   |none,some h,none=>match opdS e h with
    | .int _ b=>bindA (sliceO l 0 b) fun _=>k {v:= .pre t b.toNat l.length ex}
    |_=>failA
   |lo,hi,mx=>cutS e t 0 l.length l.length ex lo hi mx k) else failA
  |_=>failA
 | .pre t len cap ex=>match nth s t with
  |some (.arr r _)=>bif Nat.beq r.length esz then (match lo,hi,mx with
   |none,none,none=>condA (Nat.ble len cap) (k {v:= .pre t len cap ex}) failA
   |none,some h,none=>match opdS e h with
    | .int _ b=>condA (decide (0<=b)&&decide (b<= .ofNat cap)) (k {v:= .pre t b.toNat cap ex}) failA
    |_=>failA
   |lo,hi,mx=>cutS e t 0 len cap ex lo hi mx k) else failA
  |_=>failA
 | .part t off len cap ex=>match nth s t with
  |some (.arr r _)=>bif Nat.beq r.length esz then cutS e t off len cap ex lo hi mx k else failA
  |_=>failA
 |_=>failA
def layL {α:Type} (l:List α) (n:Nat) (m:List α):List α:=l.take n++m++l.drop (n+m.length)
def SV.isPart:SV->Bool
 | .part .. =>true
 |_=>false
def appendS (s:List SB) (z:List Nat) (esz:Nat) (x y:SV) (k:SRes->Ans R):Ans R:=
 match contS s y with
 |none=>failA
 |some ⟨q,m⟩=>bif Nat.beq q.length esz then (match x with
  | .nil _ c=>bif c then bindA (cloneO m) fun m'=>k {v:= .own s.length false,news:=[.arr q m'],rd:=tokS y} else failA
  | .own t ex=>match nth s t with
   |some (.arr r l)=>match castL q r m with
    |none=>failA
    |some m=>match ex with
     |true=>condA l.isEmpty (bindA (cloneO m) fun m'=>k {v:= .own s.length false,news:=[.arr r m'],rd:=t::tokS y})
      (condA m.isEmpty (k {v:= .own t true,rd:=tokS y}) (bindA (appendO l m) fun l'=>k {v:= .own s.length false,news:=[.arr r l'],rd:=t::tokS y}))
     |false=>condA m.isEmpty (k {v:= .own t false,rd:=tokS y})
      (bif has z t then failA else bindA (appendO l m) fun l'=>k {v:= .own s.length false,news:=[.arr r l'],wr:=[(t,.dead)],rd:=tokS y})
   |_=>failA
  | .pre t len cap ex=>match nth s t with
   |some (.arr r l)=>match castL q r m with
    |none=>failA
    |some m=>bif ex then failA else condA m.isEmpty (k {v:= .pre t len cap false,rd:=tokS y})
     (condA (Nat.ble (len+m.length) cap) (condA (Nat.ble (len+m.length) l.length&&!has z t) (k {v:= .pre t (len+m.length) cap false,wr:=[(t,.arr r (layL l len m))],rd:=tokS y}) failA)
      (bif has z t||y.isPart then failA else bindA (appendO (l.take len) m) fun l'=>condA (Nat.ble len l.length) (k {v:= .own s.length false,news:=[.arr r l'],wr:=[(t,.dead)],rd:=tokS y}) failA))
   |_=>failA
  |_=>failA) else failA
def clearS (s:List SB) (z:List Nat) (esz:Nat) (zero:Row) (x:SV) (k:SRes->Ans R):Ans R:=
 match x with
 | .part t off len _ _=>match nth s t with
  |some (.arr r l)=>match ptsOf zero with
   |some q=>bif rSame q r&&Nat.beq r.length esz then condA (Nat.beq len 0) (k {v:= .undef})
    (condA (Nat.ble (off+len) l.length&&!has z t) (k {v:= .undef,wr:=[(t,.arr r (layL l off (List.replicate len (RT.zero r))))]}) failA) else failA
   |none=>failA
  |_=>failA
 |_=>failA
def copyTo (s:List SB) (z:List Nat) (t:Nat) (r:List PT) (l:List (RT r)) (off len:Nat) (y:SV) (k:SRes->Ans R):Ans R:=
 match contS s y with
 |none=>failA
 |some ⟨q,m⟩=>match castL q r m with
  |none=>failA
  |some m=>condA (m.take len).isEmpty (k {v:= .int .i64 0,rd:=tokS y})
   (condA (Nat.ble (off+(m.take len).length) l.length&&!has z t) (k {v:= .int .i64 (.ofNat (m.take len).length),wr:=[(t,.arr r (layL l off (m.take len)))],rd:=tokS y}) failA)
def copyS (s:List SB) (z:List Nat) (esz:Nat) (x y:SV) (k:SRes->Ans R):Ans R:=
 match x with
 | .own t _=>match nth s t with
  |some (.arr r l)=>bif Nat.beq r.length esz then copyTo s z t r l 0 l.length y k else failA
  |_=>failA
 | .pre t len _ _=>match nth s t with
  |some (.arr r l)=>bif Nat.beq r.length esz then copyTo s z t r l 0 len y k else failA
  |_=>failA
 | .part t off len _ _=>match nth s t with
  |some (.arr r l)=>bif Nat.beq r.length esz then copyTo s z t r l off len y k else failA
  |_=>failA
 |_=>failA
def evS (e:SE) (s:List SB) (z:List Nat) (op:XOp) (k:SRes->Ans R):Ans R:=
 match op with
 | .mov x=>k {v:=opdS e x}
 | .pick c a b=>match opdS e c with
  | .bool c=>condA c (k {v:=opdS e a}) (k {v:=opdS e b})
  |_=>failA
 | .bin op x y=>match opdS e x with
  | .int ka a=>match opdS e y with
   | .int kb b=>match op with
    | .shl=>condA (decide (b<0)) failA (k {v:= .int ka (bShl ka a b)})
    | .shr=>condA (decide (b<0)) failA (k {v:= .int ka (bShr ka a b)})
    |op=>bif kindEq ka kb then arithS op ka a b (ofV k) else failA
   |_=>failA
  |_=>failA
 | .binb neg x y=>match opdS e x with
  | .bool a=>match opdS e y with
   | .bool b=>k {v:= .bool (bif neg then !(a==b) else a==b)}
   |_=>failA
  |_=>failA
 | .eqc n neg x y=>match opdS e x with
  | .agg xs=>match opdS e y with
   | .agg ys=>bif Nat.beq xs.length n&&Nat.beq ys.length n then ansO (eqS xs ys) fun b=>k {v:= .bool (bif neg then !b else b)} else failA
   |_=>failA
  |_=>failA
 | .un op x=>match op with
  | .neg=>match opdS e x with
   | .int a n=>k {v:= .int a (wrapF a (0-n))}
   |_=>failA
  | .not=>match opdS e x with
   | .bool b=>k {v:= .bool !b}
   |_=>failA
  |_=>failA
 | .conv a x=>match opdS e x with
  | .int _ n=>k {v:= .int a (wrapF a n)}
  |_=>failA
 | .len x=>match opdS e x with
  | .nil _ _=>k {v:= .int .i64 0}
  | .pre _ len _ _=>k {v:= .int .i64 (.ofNat len)}
  | .part _ _ len _ _=>k {v:= .int .i64 (.ofNat len)}
  |v=>ansO (contS s v) fun c=>k {v:= .int .i64 (.ofNat c.l.length)}
 | .lenc n=>k {v:= .int .i64 (.ofNat n)}
 | .box x=>ansO (opdS e x).stored fun cs=>k {v:= .bp s.length cs.length 0,news:=[.box cs]}
 | .alloc cells=>k {v:= .bp s.length cells.length 0,news:=[.box (ofPVL cells)]}
 | .build zero parts=>ansO (fillCellsS (partsS e parts) (ofPVL zero)) fun cs=>k {v:= .agg cs}
 | .mkrow esz n zero parts=>ansO (ptsOf zero) fun r=>bif Nat.beq r.length esz then ansO (rowsS r e n parts) fun ps=>
  k {v:= .own s.length true,news:=[.arr r (genL (fun i=>rowAt i (RT.zero r) ps) 0 n)]} else failA
 | .load agg p=>loadS s agg (opdS e p) k
 | .store sz p v=>storeS s z sz (opdS e p) (opdS e v) k
 | .nilc x=>match opdS e x with
  | .pa t r i a o=>k {v:= .pa t r i a o}
  | .pb t i o=>k {v:= .pb t i o}
  | .bp t n o=>k {v:= .bp t n o}
  | .rptr c o=>k {v:= .rptr c o}
  | .clo f a b=>k {v:= .clo f a b}
  |_=>failA
 | .fadr off p=>match opdS e p with
  | .pa t r i a o=>k {v:= .pa t r i a (o+off)}
  | .pb t i o=>k {v:= .pb t i (o+off)}
  | .bp t n o=>k {v:= .bp t n (o+off)}
  | .rptr c o=>k {v:= .rptr c (o+off)}
  |_=>failA
 | .fld agg off x=>match opdS e x with
  | .agg cs=>ansO (partS agg off cs) (ofV k)
  |_=>failA
 | .iadr esz x i=>match opdS e i with
  | .int _ n=>iadrS s esz (opdS e x) n k
  |_=>failA
 | .iadra n esz p i=>match opdS e i with
  | .int _ j=>match opdS e p with
   | .bp t m o=>pickS n j 0 fun j=>k {v:= .bp t m (o+j*esz)}
   | .rptr c o=>pickS n j 0 fun j=>k {v:= .rptr c (o+j*esz)}
   |_=>failA
  |_=>failA
 | .idx n esz agg x i=>match opdS e i with
  | .int _ j=>match opdS e x with
   | .agg cs=>pickS n j 0 fun j=>ansO (partS agg (j*esz) cs) (ofV k)
   |_=>failA
  |_=>failA
 | .sidx x i=>match opdS e i with
  | .int _ j=>match opdS e x with
   | .str t=>bindA (strAt t j) fun b=>k {v:= .int .u8 b}
   |_=>failA
  |_=>failA
 | .slc esz x lo hi mx=>slcS e s esz (opdS e x) lo hi mx k
 | .clear esz zero x=>clearS s z esz zero (opdS e x) k
 | .copy esz x y=>copyS s z esz (opdS e x) (opdS e y) k
 | .mks esz zero l c=>match opdS e l with
  | .int _ n=>match opdS e c with
   | .int _ m=>condA (n==m) (ansO (ptsOf zero) fun r=>bif Nat.beq r.length esz then bindA (makeO n (RT.zero r)) fun x=>k {v:= .own s.length true,news:=[.arr r x]} else failA) failA
   |_=>failA
  |_=>failA
 | .mkf fn a b=>k {v:= .clo fn (opdsS e a) (opdsS e b)}
 | .mkm=>k {v:= .mp s.length,news:=[.set []]}
 | .lookup n zero ok m q=>match zero,ok with
  | .bool false,false=>match opdS e m with
   | .mp t=>match nth s t with
    |some (.set l)=>ansO (keyS n (opdS e q)) fun a=>bindA (hasO l a) fun b=>k {v:= .bool b,rd:=[t]}
    |_=>failA
   |_=>failA
  |_,_=>failA
 | .mapu n m q x=>match opdS e x with
  | .bool true=>match opdS e m with
   | .mp t=>match nth s t with
    |some (.set l)=>bif has z t then failA else ansO (keyS n (opdS e q)) fun a=>bindA (insO l a) fun m=>k {v:= .undef,wr:=[(t,.set m)]}
    |_=>failA
   |_=>failA
  |_=>failA
 | .ext i x=>match opdS e x with
  | .tup vs=>ansO (nth vs i) (ofV k)
  |_=>failA
 | .append esz x y=>appendS s z esz (opdS e x) (opdS e y) k
 | .mm isMax x xs=>match opdS e x with
  | .int a n=>ansO (mmS isMax a n (opdsS e xs)) (ofV k)
  |_=>failA
 |_=>failA
end
mutual
def exV (s:List SB) (bx:Nat->Option (List SV)):SV->Option SV
 | .int k n=>some (.int k n)
 | .bool b=>some (.bool b)
 | .str x=>some (.str x)
 | .nilf=>some .nilf
 | .agg cs=>match exVL s bx cs with|some l=>some (.agg l)|none=>none
 | .tup cs=>match exVL s bx cs with|some l=>some (.tup l)|none=>none
 | .sl r l=>some (.sl r l)
 | .nil e _=>some (.nil e false)
 | .own t _=>match nth s t with
  |some (.arr r l)=>some (.sl r l)
  |_=>none
 | .pre t len _ _=>match nth s t with
  |some (.arr r l)=>some (.sl r (l.take len))
  |_=>none
 | .part t off len _ _=>match nth s t with
  |some (.arr r l)=>some (.sl r ((l.drop off).take len))
  |_=>none
 | .pa t r _ a off=>match nth s t with
  |some (.arr _ _)=>some (.rptr (RT.sv r a) off)
  |_=>none
 | .bp t _ off=>match nth s t with
  |some (.box _)=>match bx t with|some l=>some (.rptr l off)|none=>none
  |_=>none
 | .rptr cs off=>match exVL s bx cs with|some l=>some (.rptr l off)|none=>none
 | .clo f a b=>match exVL s bx a,exVL s bx b with
  |some x,some y=>some (.clo f x y)
  |_,_=>none
 |_=>none
def exVL (s:List SB) (bx:Nat->Option (List SV)):List SV->Option (List SV)
 | []=>some []
 |x::xs=>match exV s bx x,exVL s bx xs with
  |some y,some ys=>some (y::ys)
  |_,_=>none
end
def exBxS (s:List SB):Nat->Nat->Option (List SV)
 |0,_=>none
 |n+1,t=>match nth s t with
  |some (.box cs)=>exVL s (exBxS s n) cs
  |_=>none
mutual
def tkV (bx:Nat->List Nat):SV->List Nat
 | .agg cs=>tkVL bx cs
 | .tup cs=>tkVL bx cs
 | .own t _=>[t]
 | .pre t _ _ _=>[t]
 | .part t _ _ _ _=>[t]
 | .pa t _ _ _ _=>t::bx t
 | .pb t _ _=>t::bx t
 | .bp t _ _=>t::bx t
 | .rptr cs _=>tkVL bx cs
 | .mp t=>[t]
 | .clo _ a b=>tkVL bx a++tkVL bx b
 |_=>[]
def tkVL (bx:Nat->List Nat):List SV->List Nat
 | []=>[]
 |x::xs=>tkV bx x++tkVL bx xs
end
def tkBx (s:List SB):Nat->Nat->List Nat
 |0,_=>[]
 |n+1,t=>match nth s t with
  |some (.box cs)=>tkVL (tkBx s n) cs
  |_=>[]
mutual
def SV.sure:SV->Bool
 | .junk=>false
 | .agg cs=>sureL cs
 | .tup cs=>sureL cs
 | .rptr cs _=>sureL cs
 | .clo _ a b=>sureL a&&sureL b
 |_=>true
def sureL:List SV->Bool
 | []=>true
 |x::xs=>x.sure&&sureL xs
end
mutual
def norefS:SV->Bool
 | .int _ _| .bool _| .str _=>true
 | .agg cs=>norefSL cs
 | .tup cs=>norefSL cs
 |_=>false
def norefSL:List SV->Bool
 | []=>true
 |x::xs=>norefS x&&norefSL xs
end
mutual
def imV (s:List SB):SV->Option SV
 | .int k n=>some (.int k n)
 | .bool b=>some (.bool b)
 | .str x=>some (.str x)
 | .agg cs=>match imVL s cs with|some l=>some (.agg l)|none=>none
 | .tup cs=>match imVL s cs with|some l=>some (.tup l)|none=>none
 | .sl r l=>some (.sl r l)
 | .nil e _=>some (.nil e false)
 | .own t _=>match nth s t with
  |some (.arr r l)=>some (.sl r l)
  |_=>none
 | .pre t len _ _=>match nth s t with
  |some (.arr r l)=>some (.sl r (l.take len))
  |_=>none
 | .part t off len _ _=>match nth s t with
  |some (.arr r l)=>some (.sl r ((l.drop off).take len))
  |_=>none
 |_=>none
def imVL (s:List SB):List SV->Option (List SV)
 | []=>some []
 |x::xs=>match imV s x,imVL s xs with
  |some y,some ys=>some (y::ys)
  |_,_=>none
end
mutual
def imOV (s:List SB) (z:List Nat):List Nat->SV->Option (SV×List Nat)
 |seen,.int k n=>some (.int k n,seen)
 |seen,.bool b=>some (.bool b,seen)
 |seen,.agg cs=>match imOVL s z seen cs with|some p=>some (.agg p.1,p.2)|none=>none
 |seen,.tup cs=>match imOVL s z seen cs with|some p=>some (.tup p.1,p.2)|none=>none
 |seen,.nil e c=>bif c then some (.nil e false,seen) else none
 |seen,.own t _=>match nth s t with
  |some (.arr r l)=>bif has seen t||has z t then none else some (.sl r l,t::seen)
  |_=>none
 |_,_=>none
def imOVL (s:List SB) (z:List Nat):List Nat->List SV->Option (List SV×List Nat)
 |seen,[]=>some ([],seen)
 |seen,x::xs=>match imOV s z seen x with
  |some p=>match imOVL s z p.2 xs with
   |some q=>some (p.1::q.1,q.2)
   |none=>none
  |none=>none
end
mutual
def ownOf:Nat->SV->SV×List SB
 |nx,.sl r l=>(.own nx false,[.arr r l])
 |nx,.nil e _=>(.own nx false,[.arr (List.replicate e (.i .i64)) []])
 |nx,.agg cs=>(.agg (ownOfL nx cs).1,(ownOfL nx cs).2)
 |nx,.tup cs=>(.tup (ownOfL nx cs).1,(ownOfL nx cs).2)
 |_,v=>(v,[])
def ownOfL:Nat->List SV->List SV×List SB
 |_,[]=>([],[])
 |nx,x::xs=>((ownOf nx x).1::(ownOfL (nx+(ownOf nx x).2.length) xs).1,(ownOf nx x).2++(ownOfL (nx+(ownOf nx x).2.length) xs).2)
end
def blkTkS:SB->List Nat
 | .box cs=>tkVL noBx cs
 |_=>[]
def blkSure:SB->Bool
 | .box cs=>sureL cs
 |_=>true
def reachS (s:List SB):Nat->List Nat->List Nat->Option (List Nat)
 |_,[],seen=>some seen
 |0,_::_,_=>none
 |n+1,t::ts,seen=>
  bif has seen t then reachS s n ts seen
  else match nth s t with
   |some b=>bif blkSure b then reachS s n (blkTkS b++ts) (seen++[t]) else none
   |none=>none
mutual
def renV (m:List Nat):SV->Option SV
 | .agg cs=>match renVL m cs with|some l=>some (.agg l)|none=>none
 | .tup cs=>match renVL m cs with|some l=>some (.tup l)|none=>none
 | .own t ex=>match idxOf t m with|some u=>some (.own u ex)|none=>none
 | .pre t len cap ex=>match idxOf t m with|some u=>some (.pre u len cap ex)|none=>none
 | .part t off len cap ex=>match idxOf t m with|some u=>some (.part u off len cap ex)|none=>none
 | .pa t _ i _ off=>match idxOf t m with|some u=>some (.pb u i off)|none=>none
 | .pb t i off=>match idxOf t m with|some u=>some (.pb u i off)|none=>none
 | .bp t n off=>match idxOf t m with|some u=>some (.bp u n off)|none=>none
 | .rptr cs off=>match renVL m cs with|some l=>some (.rptr l off)|none=>none
 | .mp t=>match idxOf t m with|some u=>some (.mp u)|none=>none
 | .clo f a b=>match renVL m a,renVL m b with
  |some x,some y=>some (.clo f x y)
  |_,_=>none
 | .junk=>none
 |v=>some v
def renVL (m:List Nat):List SV->Option (List SV)
 | []=>some []
 |x::xs=>match renV m x,renVL m xs with
  |some y,some ys=>some (y::ys)
  |_,_=>none
end
def renB (m:List Nat):SB->Option SB
 | .box cs=>match renVL m cs with|some l=>some (.box l)|none=>none
 |b=>some b
def renS (s:List SB) (m:List Nat):List Nat->Option (List SB)
 | []=>some []
 |t::ts=>match nth s t with
  |some b=>match renB m b,renS s m ts with
   |some b',some r=>some (b'::r)
   |_,_=>none
  |none=>none
def rowOf (rk:List (Nat×List PT)) (esz:Nat):List PT:=
 match rk with
 | []=>List.replicate esz (.i .i64)
 |(n,r)::q=>bif Nat.beq n esz&&Nat.beq r.length esz then r else rowOf q esz
def liveS (rk:List (Nat×List PT)) (e:SE) (m:List Nat):Nat->List (Nat×Option Nat)->Option (SE×List SB)
 |_,[]=>some ([],[])
 |nx,(s,k)::r=>
  match k,lkS s e with
  |some esz,.nil _ true=>match liveS rk e m (nx+1) r with
   |some p=>some ((s,.own nx false)::p.1,.arr (rowOf rk esz) []::p.2)
   |none=>none
  |_,v=>match renV m v,liveS rk e m nx r with
   |some v',some p=>some ((s,v')::p.1,p.2)
   |_,_=>none
def ownCellS (rk:List (Nat×List PT)) (st:SSt) (t c esz:Nat):SSt:=
 match nth st.sto t with
 |some (.box cs)=>match nth cs c with
  |some (.nil _ true)=>{st with sto:=st.sto.set t (.box (cs.set c (.own st.sto.length false)))++[.arr (rowOf rk esz) []]}
  |_=>st
 |_=>st
def ptrS:SV->Option Nat
 | .bp t _ 0=>some t
 |_=>none
def boxS:SV->Option Nat
 | .clo _ _ (x::_)=>ptrS x
 |x=>ptrS x
def ownCellsS (rk:List (Nat×List PT)):List (Nat×Option Nat)->SSt->SSt
 | [],st=>st
 |(s,k)::r,st=>match k with
  |some n=>bif Nat.ble 1000 n then (match boxS (lkS s st.env) with
   |some t=>ownCellsS rk r (ownCellS rk st t (n / 1000-1) (n%1000))
   |none=>ownCellsS rk r st) else ownCellsS rk r st
  |none=>ownCellsS rk r st
def wideV (s:List SB) (v:SV):SV:=
 match v with
 | .own t ex=>match nth s t with
  |some (.arr _ l)=> .pre t l.length l.length ex
  |_=>v
 |_=>v
def wideE (s:List SB) (c:Nat):SE->SE
 | []=>[]
 |(t,v)::r=>bif Nat.beq t c then (t,wideV s v)::r else (t,v)::wideE s c r
def wideAll:List (Nat×Option Nat)->SSt->SSt
 | [],st=>st
 |(t,_)::r,st=>bif Nat.ble 1000000 t then wideAll r {st with env:=wideE st.sto (t-1000000) st.env} else wideAll r st
def sureEnv (e:SE):List (Nat×Option Nat)->Bool
 | []=>true
 |(s,_)::r=>(lkS s e).sure&&sureEnv e r
def liveTk (e:SE):List (Nat×Option Nat)->List Nat
 | []=>[]
 |(s,_)::r=>tkV noBx (lkS s e)++liveTk e r
def knTk:List SB->Nat->List Nat
 |b::r,n+1=>blkTkS b++knTk r n
 |_,_=>[]
def knSure:List SB->Nat->Bool
 |b::r,n+1=>blkSure b&&knSure r n
 |_,_=>true
def norm1S (rk:List (Nat×List PT)) (live:List (Nat×Option Nat)) (st:SSt):Option SSt:=
 bif sureEnv st.env live&&knSure st.sto st.kn then
  match reachS st.sto 4096 (knTk st.sto st.kn++liveTk st.env live) (upTo st.kn) with
  |none=>none
  |some m=>match renS st.sto m m,liveS rk st.env m m.length live with
   |some s1,some (e1,s2)=>some (wideAll live (ownCellsS rk live {env:=e1,sto:=s1++s2,fz:=renFz st.fz 0 m,kn:=st.kn}))
   |_,_=>none
 else none
def normS (rk:List (Nat×List PT)) (live:List (Nat×Option Nat)) (st:SSt):Option SSt:=
 match norm1S rk live st with
 |some s=>bif live.any fun p=>p.2.isSome then norm1S rk live s else some s
 |none=>none
inductive AK where
 |i
 |b
 |n
 |l (r:List PT)
 |s
@[reducible] def AK.T : AK -> Type
  | .i => Int
  | .b => Bool
  | .n => Nat
  | .l r => List (RT r)
  | .s => List (List Int)
@[reducible] def prodT : List AK -> Type
  | [] => Unit
  | [a] => a.T
  | a :: q :: r => a.T × prodT (q :: r)
inductive Atm where
 |i (n:Int)
 |b (x:Bool)
 |n (x:Nat)
 |l (r:List PT) (x:List (RT r))
 |s (x:List (List Int))
def Atm.k:Atm->AK
 | .i _=> .i
 | .b _=> .b
 | .n _=> .n
 | .l r _=> .l r
 | .s _=> .s
def AK.at:(a:AK)->a.T->Atm
 | .i,x=> .i x
 | .b,x=> .b x
 | .n,x=> .n x
 | .l r,x=> .l r x
 | .s,x=> .s x
def AK.of:(a:AK)->Atm->Option a.T
 | .i,.i x=>some x
 | .b,.b x=>some x
 | .n,.n x=>some x
 | .l r,.l q x=>castL q r x
 | .s,.s x=>some x
 |_,_=>none
def atsOf:(ks:List AK)->prodT ks->List Atm
 | [],_=>[]
 | [a],x=>[a.at x]
 |a::q::r,x=>a.at x.1::atsOf (q::r) x.2
def prodOf:(ks:List AK)->List Atm->Option (prodT ks)
 | [],[]=>some ()
 | [a],[x]=>a.of x
 |a::q::r,x::xs=>match a.of x,prodOf (q::r) xs with
  |some y,some ys=>some (y,ys)
  |_,_=>none
 |_,_=>none
mutual
def atsV:SV->List Atm
 | .int _ n=>[.i n]
 | .bool b=>[.b b]
 | .agg cs=>atsL cs
 | .tup cs=>atsL cs
 | .sl r l=>[.l r l]
 | .pre _ len cap _=>[.n len,.n cap]
 | .part _ off len cap _=>[.n off,.n len,.n cap]
 | .pb _ i _=>[.i i]
 | .rptr cs _=>atsL cs
 | .clo _ a b=>atsL a++atsL b
 |_=>[]
def atsL:List SV->List Atm
 | []=>[]
 |x::xs=>atsV x++atsL xs
end
def atsB:SB->List Atm
 | .arr r l=>[.l r l]
 | .box cs=>atsL cs
 | .set l=>[.s l]
 | .dead=>[]
def atsS:List SB->List Atm
 | []=>[]
 |b::r=>atsB b++atsS r
def atsE:SE->List Atm
 | []=>[]
 |(_,v)::r=>atsV v++atsE r
def atsSt (st:SSt):List Atm:=atsE st.env++atsS st.sto
mutual
def likeV:SV->SV->Bool
 | .undef,.undef=>true
 | .nul,.nul=>true
 | .nilf,.nilf=>true
 | .int k _,.int l _=>kindEq k l
 | .bool _,.bool _=>true
 | .agg a,.agg b=>likeL a b
 | .tup a,.tup b=>likeL a b
 | .sl r _,.sl q _=>rSame r q
 | .nil e c,.nil f d=>Nat.beq e f&&c==d
 | .own t x,.own u y=>Nat.beq t u&&x==y
 | .pre t _ _ x,.pre u _ _ y=>Nat.beq t u&&x==y
 | .part t _ _ _ x,.part u _ _ _ y=>Nat.beq t u&&x==y
 | .pb t _ o,.pb u _ p=>Nat.beq t u&&Nat.beq o p
 | .bp t n o,.bp u m p=>Nat.beq t u&&Nat.beq n m&&Nat.beq o p
 | .rptr a o,.rptr b p=>likeL a b&&Nat.beq o p
 | .clo f a b,.clo g c d=>Nat.beq f g&&likeL a c&&likeL b d
 | .mp t,.mp u=>Nat.beq t u
 |_,_=>false
def likeL:List SV->List SV->Bool
 | [],[]=>true
 |x::xs,y::ys=>likeV x y&&likeL xs ys
 |_,_=>false
end
def likeB:SB->SB->Bool
 | .arr r _,.arr q _=>rSame r q
 | .box a,.box b=>likeL a b
 | .set _,.set _=>true
 | .dead,.dead=>true
 |_,_=>false
def likeS:List SB->List SB->Bool
 | [],[]=>true
 |x::xs,y::ys=>likeB x y&&likeS xs ys
 |_,_=>false
def likeE:SE->SE->Bool
 | [],[]=>true
 |(t,x)::xs,(u,y)::ys=>Nat.beq t u&&likeV x y&&likeE xs ys
 |_,_=>false
def likeN:List Nat->List Nat->Bool
 | [],[]=>true
 |x::xs,y::ys=>Nat.beq x y&&likeN xs ys
 |_,_=>false
def likeSt (a b:SSt):Bool:=likeE a.env b.env&&likeS a.sto b.sto&&likeN a.fz b.fz&&Nat.beq a.kn b.kn
mutual
def putV:SV->List Atm->SV×List Atm
 | .int k _,.i n::q=>(.int k n,q)
 | .bool _,.b x::q=>(.bool x,q)
 | .agg cs,q=>(.agg (putL cs q).1,(putL cs q).2)
 | .tup cs,q=>(.tup (putL cs q).1,(putL cs q).2)
 | .sl _ _,.l r l::q=>(.sl r l,q)
 | .pre t _ _ x,.n len:: .n cap::q=>(.pre t len cap x,q)
 | .part t _ _ _ x,.n off:: .n len:: .n cap::q=>(.part t off len cap x,q)
 | .pb t _ o,.i i::q=>(.pb t i o,q)
 | .rptr cs o,q=>(.rptr (putL cs q).1 o,(putL cs q).2)
 | .clo f a b,q=>(.clo f (putL a q).1 (putL b (putL a q).2).1,(putL b (putL a q).2).2)
 |v,q=>(v,q)
def putL:List SV->List Atm->List SV×List Atm
 | [],q=>([],q)
 |x::xs,q=>((putV x q).1::(putL xs (putV x q).2).1,(putL xs (putV x q).2).2)
end
def putB:SB->List Atm->SB×List Atm
 | .arr _ _,.l r l::q=>(.arr r l,q)
 | .box cs,q=>(.box (putL cs q).1,(putL cs q).2)
 | .set _,.s l::q=>(.set l,q)
 |b,q=>(b,q)
def putS:List SB->List Atm->List SB×List Atm
 | [],q=>([],q)
 |b::r,q=>((putB b q).1::(putS r (putB b q).2).1,(putS r (putB b q).2).2)
def putE:SE->List Atm->SE×List Atm
 | [],q=>([],q)
 |(t,v)::r,q=>((t,(putV v q).1)::(putE r (putV v q).2).1,(putE r (putV v q).2).2)
def putSt (st:SSt) (q:List Atm):SSt:={st with env:=(putE st.env q).1,sto:=(putS st.sto (putE st.env q).2).1}
def ksOf:List Atm->List AK
 | []=>[]
 |a::r=>a.k::ksOf r
def ptK {β:Type 1} (p:PT) (c:PT->β):β:=
 match p with
 | .i k=>c (.i k)
 | .b=>c .b
def rK {β:Type 1}:List PT->(List PT->β)->β
 | [],c=>c []
 |p::r,c=>ptK p fun p=>rK r fun r=>c (p::r)
def ksK {β:Type 1}:List AK->(List AK->β)->β
 | [],c=>c []
 | .i::r,c=>ksK r fun r=>c (.i::r)
 | .b::r,c=>ksK r fun r=>c (.b::r)
 | .n::r,c=>ksK r fun r=>c (.n::r)
 | .l q::r,c=>rK q fun q=>ksK r fun r=>c (.l q::r)
 | .s::r,c=>ksK r fun r=>c (.s::r)
mutual
def pvS:SV->Option PV
 | .int k n=>some (.int k n)
 | .bool b=>some (.bool b)
 | .str x=>some (.str x)
 | .nilf=>some .nilf
 | .agg cs=>match pvL cs with|some l=>some (.agg l)|none=>none
 | .tup cs=>match pvL cs with|some l=>some (.tup l)|none=>none
 | .sl r l=>some (.sl r.length false (l.map (RT.pv r)))
 | .nil e c=>some (.sl e c [])
 | .rptr cs off=>match pvL cs with|some l=>some (.rptr l off)|none=>none
 | .clo f a b=>match pvL a,pvL b with
  |some x,some y=>some (.clo f x y)
  |_,_=>none
 |_=>none
def pvL:List SV->Option (List PV)
 | []=>some []
 |x::xs=>match pvS x,pvL xs with
  |some y,some ys=>some (y::ys)
  |_,_=>none
end
structure Cod (α:Type) where
 enc:α->List SV
 dec:List SV->Option (α×List SV)
 law: ∀{vs:List SV} {a:α} {rest:List SV} {ps:List PV},dec vs=some (a,rest)->pvL vs=some ps-> ∃p q,ps=p++q/\pvL (enc a)=some p/\pvL rest=some q
structure Arg (α:Type) where
 enc:α->SV
 dec:SV->Option α
 law: ∀{v:SV} {a:α} {p:PV},dec v=some a->pvS v=some p->pvS (enc a)=some p
structure Args (α:Type) where
 enc:α->List SV
 dec:List SV->Option α
 law: ∀{vs:List SV} {a:α} {ps:List PV},dec vs=some a->pvL vs=some ps->pvL (enc a)=some ps
inductive Kd where
 |pure
 |frz
 |own
structure Con where
 {α β:Type}
 args:Args α
 res:Arg β
 fn:α->Option β
 kd:Kd
 ow:Bool
structure FpCon where
 ka:List AK
 ta:List SV
 tb:List SB
 ko:List AK
 tv:SV
 to:List SB
 fn:prodT ka->Option (prodT ko)
structure Ctx where
 lp:Option Nat
 con:FuncId->List Con
 fpc:FuncId->List FpCon
 code:FuncId->Option XFunc
 rk:List (Nat×List PT)
inductive XRS where
 |loc (r:SRes)
 |shr (v:SV) (s:List SB) (z:List Nat)
def SV.hasPtr:SV->Bool
 | .own .. | .pre .. | .part .. | .pa .. | .pb .. | .bp .. | .mp .. =>true
 |_=>false
def anyPtr:List SV->Bool
 | []=>false
 |x::xs=>x.hasPtr||anyPtr xs
mutual
def dgV (ts:List Nat):SV->SV
 | .pa t r i a off=>bif has ts t then .pb t i off else .pa t r i a off
 | .agg cs=> .agg (dgL ts cs)
 | .tup cs=> .tup (dgL ts cs)
 | .rptr cs off=> .rptr (dgL ts cs) off
 | .clo f a b=> .clo f (dgL ts a) (dgL ts b)
 |v=>v
def dgL (ts:List Nat):List SV->List SV
 | []=>[]
 |x::xs=>dgV ts x::dgL ts xs
end
def dgE (ts:List Nat):SE->SE
 | []=>[]
 |(t,v)::r=>(t,dgV ts v)::dgE ts r
def dgB (ts:List Nat):SB->SB
 | .box cs=> .box (dgL ts cs)
 |b=>b
def dgS (ts:List Nat):List SB->List SB
 | []=>[]
 |b::r=>dgB ts b::dgS ts r
def setB:List SB->Nat->SB->List SB
 | [],_,_=>[]
 |_::r,0,b=>b::r
 |x::r,n+1,b=>x::setB r n b
def applyS:List (Nat×SB)->List SB->List SB
 | [],s=>s
 |(t,b)::r,s=>applyS r (setB s t b)
def wrTk:List (Nat×SB)->List Nat
 | []=>[]
 |(t,_)::r=>t::wrTk r
def putD (d:Option Nat) (v:SV) (e:SE):SE:=
 match d with
 |some t=>(t,v)::e
 |none=>e
def apS:List SB->List SB->List SB
 | [],l=>l
 |b::r,l=>b::apS r l
def SRes.next (d:Option Nat) (st:SSt) (r:SRes):SSt:=
 match r.wr with
 | []=>{env:=putD d r.v st.env,sto:=apS st.sto r.news,fz:=r.fr++st.fz,kn:=st.kn}
 |w=>{env:=putD d r.v (dgE (wrTk w) st.env),sto:=apS (dgS (wrTk w) (applyS w st.sto)) r.news,fz:=r.fr++st.fz,kn:=st.kn}
def SRes.ok (z:List Nat) (r:SRes):Bool:=(wrTk r.wr).all fun t=>!has z t
def SRes.tr (nx:Nat) (r:SRes):Tr:=
 ⟨r.rd++r.fr,wrTk r.wr,!r.news.isEmpty,false,(r.rd++r.fr).all (Nat.blt · nx)&&(wrTk r.wr).all (Nat.blt · nx),nx,nx+r.news.length⟩
def trShr:Tr:=⟨[],[],true,true,true,0,0⟩
def sameLen {R:Type}:List SB->List SB->Ans R->Ans R
 | [],_,k=>k
 |x::xs,y::ys,k=>match x with
  | .arr r l=>match y with
   | .arr q m=>bif rSame r q then condA (m.length==l.length) (sameLen xs ys k) failA else failA
   | .dead=>sameLen xs ys k
   |_=>failA
  | .dead=>match y with
   | .dead=>sameLen xs ys k
   |_=>failA
  |_=>sameLen xs ys k
 |_,_,_=>failA
abbrev Inl:=FuncId->List SV->List SB->List Nat-> ∀R:Type,(SV->List SB->List Nat->Ans R)->Ans R
section
variable {R : Type}
def noCon (_:FuncId) (_:List SV):Ans R:=failA
def noFp (_:FuncId) (_:List SV) (_:List SB):Ans R:=failA
def conS (f:FuncId) (m:Bool) (s:List SB) (tk:List Nat) (vs:List SV) (k:XRS->Ans R):List Con->Ans R
 | []=>noCon f vs
 |c::r=>match c.args.dec vs with
  |some a=>bif m==c.ow then bindA (c.fn a) fun b=>match c.kd with
   | .pure=>k (.loc {v:=c.res.enc b,rd:=tk})
   | .frz=>k (.loc {v:=c.res.enc b,rd:=tk,fr:=tk})
   | .own=>k (.loc {v:=(ownOf s.length (c.res.enc b)).1,news:=(ownOf s.length (c.res.enc b)).2,rd:=tk}) else conS f m s tk vs k r
  |none=>conS f m s tk vs k r
mutual
def backV (g:Nat->Nat):SV->SV
 | .agg cs=> .agg (backL g cs)
 | .tup cs=> .tup (backL g cs)
 | .own t ex=> .own (g t) ex
 | .pre t len cap ex=> .pre (g t) len cap ex
 | .part t off len cap ex=> .part (g t) off len cap ex
 | .pa t _ i _ off=> .pb (g t) i off
 | .pb t i off=> .pb (g t) i off
 | .bp t n off=> .bp (g t) n off
 | .rptr cs off=> .rptr (backL g cs) off
 | .mp t=> .mp (g t)
 | .clo f a b=> .clo f (backL g a) (backL g b)
 |v=>v
def backL (g:Nat->Nat):List SV->List SV
 | []=>[]
 |x::xs=>backV g x::backL g xs
end
def backB (g:Nat->Nat):SB->SB
 | .box cs=> .box (backL g cs)
 |b=>b
def backW (g:Nat->Nat):List Nat->List SB->List (Nat×SB)
 |t::r,b::s=>(t,backB g b)::backW g r s
 |_,_=>[]
def keepS (k:Nat) (v:SV) (s:List SB):Bool:=(tkV noBx v++s.flatMap blkTkS).all fun t=>Nat.blt t k
def fpS (f : FuncId) (n : Nat) (tk : List Nat) (vs : List SV) (s0 : List SB) (k : XRS -> Ans R) : List FpCon -> Ans R
  | [] => noFp f vs s0
  | c :: r => bif likeL c.ta vs && likeS c.tb s0 then (match prodOf c.ka (atsL vs ++ atsS s0) with
      | some a => bindA (c.fn a) fun b =>
          k (.loc { v := backV (backTok tk n) (putV c.tv (atsOf c.ko b)).1, wr := backW (backTok tk n) tk (putS c.to (putV c.tv (atsOf c.ko b)).2).1 })
      | none => fpS f n tk vs s0 k r) else fpS f n tk vs s0 k r
def callS (cx:Ctx) (inl:Inl) (e:SE) (s:List SB) (z:List Nat) (op:XOp) (k:XRS->Ans R):Ans R:=
 match op with
 | .call m f args=>match m with
  | .pur=>match exVL s (exBxS s deep) (opdsS e args) with
   |some vs=>conS f false s (tkVL (tkBx s deep) (opdsS e args)) vs k (cx.con f)
   |none=>failA
  | .own=>match exVL s (exBxS s deep) (opdsS e args) with
   |some vs=>conS f true s (tkVL (tkBx s deep) (opdsS e args)) vs k (cx.con f)
   |none=>failA
  | .shr=>inl f (opdsS e args) s z R fun v s' z'=>k (.shr v s' z')
  | .fp=>match exVL s (exBxS s deep) (opdsS e args) with
   |none=>failA
   |some _=>let tk:=dedup (tkVL (tkBx s deep) (opdsS e args))
    bif tk.all (fun t=>!has z t) then (match renVL tk (opdsS e args),renS s tk tk with
     |some vs,some s0=>fpS f s.length tk vs s0 k (cx.fpc f)
     |_,_=>failA) else failA
 | .callv x args=>match opdS e x with
  | .clo f a b=>bif anyPtr (opdsS e args++b) then inl f (a++opdsS e args++b) s z R fun v s' z'=>k (.shr v s' z')
   else match exVL s (exBxS s deep) (a++opdsS e args++b) with
   |some vs=>conS f false s (tkVL (tkBx s deep) (a++opdsS e args++b)) vs k (cx.con f)
   |none=>failA
  |_=>failA
 |op=>evS e s z op fun r=>k (.loc r)
def goS (d:Option Nat) (st:SSt) (tr:List Tr) (k:SSt->List Tr->Ans R) (x:XRS):Ans R:=
 match x with
 | .loc r=>bif r.ok st.fz then seqV r.v fun v=>k ({r with v}.next d st) (r.tr st.sto.length::tr) else failA
 | .shr v s z=>seqV v fun v=>sameLen st.sto s (bif st.fz.all (has z) then k {env:=putD d v (dgE (upTo st.sto.length) st.env),sto:=s,fz:=z,kn:=st.kn} (trShr::tr) else failA)
def evOpsS (cx:Ctx) (inl:Inl):List XOper->SSt->List Tr->(SSt->List Tr->Ans R)->Ans R
 | [],st,tr,k=>k st tr
 |o::r,st,tr,k=>
  let run:=fun st:SSt=>match o.op with
   | .pick (.t c) a b=>match lkS c st.env with
    | .bool x=>condA x (goS o.dst {st with env:=setS c (.bool true) st.env} tr (evOpsS cx inl r · · k) (.loc {v:=opdS st.env a}))
     (goS o.dst {st with env:=setS c (.bool false) st.env} tr (evOpsS cx inl r · · k) (.loc {v:=opdS st.env b}))
    |_=>failA
   |op=>callS cx inl st.env st.sto st.fz op (goS o.dst st tr (evOpsS cx inl r · · k))
  let skip:=fun st:SSt=>evOpsS cx inl r {st with env:=putD o.dst .nul st.env} (Tr.idle::tr) k
  match o.guard with
  |none=>run st
  |some (s,want)=>match lkS s st.env with
   | .bool x=>bif want then condA x (run {st with env:=setS s (.bool true) st.env}) (skip {st with env:=setS s (.bool false) st.env})
    else condA x (skip {st with env:=setS s (.bool true) st.env}) (run {st with env:=setS s (.bool false) st.env})
   | .nul=>skip st
   |_=>failA
def keepK (e:SE):List Nat->(SE->Ans R)->Ans R
 | [],k=>k []
 |s::r,k=>seqV (lkS s e) fun v=>keepK e r fun e'=>k ((s,v)::e')
noncomputable def evC' (cx:Ctx) (inl:Inl):(c:XCode)->(R:Type)->SSt->(XExit->SSt->Ans R)->Ans R
 | .skip,_,st,k=>k .normal st
 | .region d ops keep,_,st,k=>evOpsS cx inl ops st [] fun st' tr=>
  let fin:=keepK st'.env keep fun e=>k .normal {st' with env:=e}
  match d with
  |none=>fin
  |some bf=>match orderOk 0 (tr.reverse.zip bf) with
   |true=>fin
   |false=>failA
 | .seq a b,R,st,k=>evC' cx inl a R st fun e st'=>match e with
  | .normal=>evC' cx inl b R st' k
  |e=>k e st'
 | .cond c a b,R,st,k=>match opdS st.env c with
  | .bool x=>condA x (evC' cx inl a R st k) (evC' cx inl b R st k)
  |_=>failA
 | .block id b,R,st,k=>evC' cx inl b R st fun e st'=>match e with
  | .exit j=>bif Nat.beq j id then k .normal st' else k (.exit j) st'
  |e=>k e st'
 | .loop live b,_,st,k=>match normS cx.rk live st with
  |none=>failA
  |some st1=>ksK (ksOf (atsSt st1)) fun ks=>match prodOf ks (atsSt st1) with
   |none=>failA
   |some y0=>fun ρ w=>loopW cx.lp (fun y:prodT ks=>evC' cx inl b (Step (prodT ks) ρ) (putSt st1 (atsOf ks y)) (fun e st2=>match e with
    | .normal=>match normS cx.rk live st2 with
     |some st3=>bif likeSt st1 st3 then (match prodOf ks (atsSt st3) with
      |some y'=>leafA (.next y')
      |none=>failA) else failA
     |none=>failA
    |e=>fun ρ' w'=>k e st2 ρ' fun r=>w' (.done (w r))) (Step (prodT ks) ρ) fun z=>z) y0
 | .exit id,_,st,k=>k (.exit id) st
 | .ret,_,st,k=>k .ret st
def resOfS (st:SSt):RV->Option SV
 | .tmp t=>some (lkS t st.env)
 | .cell t agg=>match lkS t st.env with
  | .bp t _ off=>match nth st.sto t with
   |some (.box cs)=>partS agg off cs
   |_=>none
  | .rptr cs off=>partS agg off cs
  |_=>none
def resAllS (st:SSt):List RV->Option (List SV)
 | []=>some []
 |r::rs=>match resOfS st r,resAllS st rs with
  |some v,some vs=>some (v::vs)
  |_,_=>none
def results1S:List SV->SV
 | [v]=>v
 |vs=> .tup vs
def envOfS:Nat->List SV->SE
 |_,[]=>[]
 |i,v::r=>(i,v)::envOfS (i+1) r
noncomputable def evFun (cx:Ctx) (inl:Inl) (x:XFunc) (R:Type) (args:List SV) (s:List SB) (z:List Nat) (k:SV->List SB->List Nat->Ans R):Ans R:=
 bif Nat.beq args.length x.nargs then evC' cx inl x.code R {env:=envOfS 0 args,sto:=s,fz:=z,kn:=s.length} fun e st=>match e with
  | .exit _=>failA
  |_=>match resAllS st x.res with
   |some vs=>k (results1S vs) st.sto st.fz
   |none=>failA
 else failA
noncomputable def inlN (cx:Ctx):Nat->Inl
 |0=>fun _ _ _ _ _ _=>failA
 |n+1=>fun f args s z R k=>match cx.code f with
  |some x=>evFun cx (inlN cx n) x R args s z k
  |none=>failA
def leafS (kd:Kd) {β:Type} (res:Arg β) (v:SV) (s:List SB) (z:List Nat):Ans β:=
 match kd with
 | .pure=>bif norefS v then ansO (res.dec v) leafA else failA
 | .frz=>bif norefS v then failA else ansO (imV s v) fun u=>ansO (res.dec u) leafA
 | .own=>ansO (imOV s z [] v) fun u=>ansO (res.dec u.1) leafA
noncomputable def evTop (cx:Ctx) (x:XFunc) {α β:Type} (args:Args α) (res:Arg β) (kd:Kd) (a:α):Option β:=
 evFun cx (inlN cx 8) x β (args.enc a) [] [] (leafS kd res) β fun b=>b
def sureBs:List SB->Bool
 | []=>true
 |b::r=>blkSure b&&sureBs r
def firmS {R:Type}:List SB->List SB->Ans R->Ans R
 | [],[],k=>k
 |x::xs,y::ys,k=>match x with
  | .arr r l=>match y with
   | .arr q m=>bif rSame r q then condA (m.length==l.length) (firmS xs ys k) failA else failA
   |_=>failA
  | .dead=>match y with
   | .dead=>firmS xs ys k
   |_=>failA
  | .box _=>match y with
   | .box _=>firmS xs ys k
   |_=>failA
  | .set _=>match y with
   | .set _=>firmS xs ys k
   |_=>failA
 |_,_,_=>failA
noncomputable def evFp (wd:Bool) (cx:Ctx) (x:XFunc) (ka:List AK) (ta:List SV) (tb:List SB) (ko:List AK) (tv:SV) (to:List SB) (a:prodT ka):Option (prodT ko):=
 evFun cx (inlN cx 8) x (prodT ko) (putL ta (atsOf ka a)).1 (putS tb (putL ta (atsOf ka a)).2).1 [] (fun v s z=>match z with
  | []=>let u:=bif wd then wideV s v else v
   let s1:=s.take tb.length
   bif likeV tv u&&likeS to s1&&keepS tb.length u s1&&u.sure&&sureBs s1 then firmS (putS tb (putL ta (atsOf ka a)).2).1 s1 (ansO (prodOf ko (atsV u++atsS s1)) leafA) else failA
  |_=>failA) (prodT ko) fun b=>b
end
end Go.Vm
/- The types of arguments and results, as cells. -/
namespace Go.Vm
theorem castL_some {r q:List PT} {l:List (RT r)} {m:List (RT q)} (h:castL r q l=some m): ∃e:r=q,m=e▸l:=by
 unfold castL at h;split at h
 · rename_i hs
   injection h with h;exact ⟨rSame_eq hs,h.symm⟩
 · cases h
theorem castL_pv {r q:List PT} {l:List (RT r)} {m:List (RT q)} (h:castL r q l=some m):r=q/\m.map (RT.pv q)=l.map (RT.pv r)/\m.length=l.length:=by
 obtain ⟨rfl,rfl⟩:=castL_some h;exact ⟨rfl,rfl,rfl⟩
theorem pvL_cons {x:SV} {xs:List SV} {ps:List PV}:pvL (x::xs)=some ps↔ ∃p qs,ps=p::qs/\pvS x=some p/\pvL xs=some qs:=by
 simp only [pvL];constructor
 · intro h
   split at h
   · rename_i y ys h1 h2
     injection h with h;exact ⟨y,ys,h.symm,h1,h2⟩
   · cases h
 · rintro ⟨p,qs,rfl,h1,h2⟩
   rw [h1,h2]
theorem pvL_append: ∀{xs ys:List SV} {p q:List PV},pvL xs=some p->pvL ys=some q->pvL (xs++ys)=some (p++q)
 | [],ys,p,q,h,k=>by simp only [pvL,Option.some.injEq] at h;subst h;exact k
 |x::xs,ys,p,q,h,k=>by
  obtain ⟨a,as,rfl,h1,h2⟩:=pvL_cons.1 h;exact pvL_cons.2 ⟨a,as++q,rfl,h1,pvL_append h2 k⟩
theorem PT.of_some: ∀{p:PT} {v:SV} {a:p.T},p.of v=some a->v=p.sv a
 | .i k,.int l n,a,h=>by
  simp only [PT.of] at h;cases hk:kindEq l k with
  |false=>rw [hk] at h;cases h
  |true=>
   rw [hk] at h;injection h with h;subst h;rw [kindEq_iff.1 hk];rfl
 | .b,.bool x,a,h=>by injection h with h;subst h;rfl
 | .i k,.bool _,a,h=>by cases h
 | .b,.int _ _,a,h=>by cases h
 | .i _,.junk,a,h| .i _,.undef,a,h| .i _,.nul,a,h| .i _,.nilf,a,h| .i _,.str _,a,h| .i _,.agg _,a,h| .i _,.tup _,a,h| .i _,.sl _ _,a,h| .i _,.nil _ _,a,h| .i _,.own _ _,a,h| .i _,.pre _ _ _ _,a,h| .i _,.part _ _ _ _ _,a,h| .i _,.pa _ _ _ _ _,a,h| .i _,.pb _ _ _,a,h| .i _,.bp _ _ _,a,h| .i _,.rptr _ _,a,h| .i _,.clo _ _ _,a,h| .i _,.mp _,a,h=>by cases h
 | .b,.junk,a,h| .b,.undef,a,h| .b,.nul,a,h| .b,.nilf,a,h| .b,.str _,a,h| .b,.agg _,a,h| .b,.tup _,a,h| .b,.sl _ _,a,h| .b,.nil _ _,a,h| .b,.own _ _,a,h| .b,.pre _ _ _ _,a,h| .b,.part _ _ _ _ _,a,h| .b,.pa _ _ _ _ _,a,h| .b,.pb _ _ _,a,h| .b,.bp _ _ _,a,h| .b,.rptr _ _,a,h| .b,.clo _ _ _,a,h| .b,.mp _,a,h=>by cases h
theorem RT.of_some: ∀{r:List PT} {vs:List SV} {a:RT r},RT.of r vs=some a->vs=RT.sv r a
 | [],[],a,_=>rfl
 | [p],[v],a,h=>by
  have:=PT.of_some (p:=p) h
  rw [this];rfl
 |p::q::r,v::vs,a,h=>by
  simp only [RT.of] at h;split at h
  · rename_i x y h1 h2
    injection h with h;subst h;rw [PT.of_some h1,RT.of_some h2];rfl
  · cases h
 | [],_::_,a,h=>by simp [RT.of] at h
 | [p],[],a,h=>by simp [RT.of] at h
 | [p],_::_::_,a,h=>by simp [RT.of] at h
 |_::_::_,[],a,h=>by simp [RT.of] at h
theorem PT.pv_sv (p:PT) (a:p.T):pvS (p.sv a)=some (p.pv a):=by cases p<;>rfl
theorem RT.pv_sv: ∀(r:List PT) (a:RT r),pvL (RT.sv r a)=some (RT.pv r a)
 | [],_=>rfl
 | [p],a=>pvL_cons.2 ⟨_,_,rfl,PT.pv_sv p a,rfl⟩
 |p::q::r,a=>pvL_cons.2 ⟨_,_,rfl,PT.pv_sv p a.1,RT.pv_sv (q::r) a.2⟩
theorem RT.pv_len: ∀(r:List PT) (a:RT r),(RT.pv r a).length=r.length
 | [],_=>rfl
 | [p],a=>rfl
 |p::q::r,a=>by simp [RT.pv,RT.pv_len (q::r) a.2]
theorem RT.sv_len: ∀(r:List PT) (a:RT r),(RT.sv r a).length=r.length
 | [],_=>rfl
 | [p],a=>rfl
 |p::q::r,a=>by simp [RT.sv,RT.sv_len (q::r) a.2]
theorem pvL_split: ∀(n:Nat) {vs:List SV} {ps:List PV},pvL vs=some ps-> ∃p q,ps=p++q/\pvL (vs.take n)=some p/\pvL (vs.drop n)=some q
 |0,vs,ps,h=>⟨[],ps,rfl,by simp [pvL],by simpa using h⟩
 |n+1,[],ps,h=>⟨[],ps,rfl,by simp [pvL],by simpa using h⟩
 |n+1,v::vs,ps,h=>by
  obtain ⟨p,qs,rfl,h1,h2⟩:=pvL_cons.1 h;obtain ⟨a,b,rfl,h3,h4⟩:=pvL_split n h2;exact ⟨p::a,b,rfl,by rw [List.take_succ_cons];exact pvL_cons.2 ⟨p,a,rfl,h1,h3⟩,by simpa using h4⟩
def Cod.int (k:IntKind):Cod Int where
 enc n:=[.int k n]
 dec vs:=match vs with
  | .int l n::r=>bif kindEq l k then some (n,r) else none
  |_=>none
 law:=fun {vs a rest ps} h hp=>by
  split at h
  · rename_i l n r
    cases hk:kindEq l k with
    |false=>rw [hk] at h;cases h
    |true=>
     rw [hk] at h;simp only [cond_true,Option.some.injEq,Prod.mk.injEq] at h;obtain ⟨rfl,rfl⟩:=h;obtain ⟨p,qs,rfl,h1,h2⟩:=pvL_cons.1 hp;rw [kindEq_iff.1 hk] at h1;exact ⟨[p],qs,rfl,pvL_cons.2 ⟨p,[],rfl,h1,rfl⟩,h2⟩
  · cases h
def Cod.bool:Cod Bool where
 enc n:=[.bool n]
 dec vs:=match vs with
  | .bool n::r=>some (n,r)
  |_=>none
 law:=fun {vs a rest ps} h hp=>by
  split at h
  · simp only [Option.some.injEq,Prod.mk.injEq] at h
    obtain ⟨rfl,rfl⟩:=h;obtain ⟨p,qs,rfl,h1,h2⟩:=pvL_cons.1 hp;exact ⟨[p],qs,rfl,pvL_cons.2 ⟨p,[],rfl,h1,rfl⟩,h2⟩
  · cases h
def decSl (r:List PT):SV->Option (List (RT r))
 | .sl q l=>castL q r l
 | .nil e c=>bif Nat.beq e r.length&&!c then some [] else none
 |_=>none
theorem decSl_law {r:List PT} {v:SV} {l:List (RT r)} {p:PV} (h:decSl r v=some l) (hp:pvS v=some p):pvS (.sl r l)=some p:=by
 cases v with
 |sl q m=>
  obtain ⟨rfl,h2,_⟩:=castL_pv h;rw [<- hp];simp only [pvS,h2]
 |nil e c=>
  simp only [decSl] at h;cases hc:(Nat.beq e r.length&&!c) with
  |false=>rw [hc] at h;cases h
  |true=>
   rw [hc] at h;injection h with h;subst h;simp only [Bool.and_eq_true,Nat.beq_eq,Bool.not_eq_true'] at hc;obtain ⟨rfl,rfl⟩:=hc;rw [<- hp];rfl
 |_=>cases h
def Cod.sl (r:List PT):Cod (List (RT r)) where
 enc l:=[.sl r l]
 dec vs:=match vs with
  |v::rest=>match decSl r v with
   |some l=>some (l,rest)
   |none=>none
  | []=>none
 law:=fun {vs a rest ps} h hp=>by
  split at h
  · split at h
    · rename_i v r' x l hl
      simp only [Option.some.injEq,Prod.mk.injEq] at h;obtain ⟨rfl,rfl⟩:=h;obtain ⟨p,qs,rfl,h1,h2⟩:=pvL_cons.1 hp;exact ⟨[p],qs,rfl,pvL_cons.2 ⟨p,[],rfl,decSl_law hl h1,rfl⟩,h2⟩
    · cases h
  · cases h
def Cod.row (r:List PT):Cod (RT r) where
 enc:=RT.sv r
 dec vs:=match RT.of r (vs.take r.length) with
  |some a=>some (a,vs.drop r.length)
  |none=>none
 law:=fun {vs a rest ps} h hp=>by
  split at h
  · rename_i x hx
    simp only [Option.some.injEq,Prod.mk.injEq] at h;obtain ⟨rfl,rfl⟩:=h;obtain ⟨p,q,rfl,h1,h2⟩:=pvL_split r.length hp;rw [RT.of_some hx] at h1;exact ⟨p,q,rfl,h1,h2⟩
  · cases h
def Cod.prod {α β:Type} (A:Cod α) (B:Cod β):Cod (α×β) where
 enc p:=A.enc p.1++B.enc p.2
 dec vs:=match A.dec vs with
  |some p=>match B.dec p.2 with
   |some q=>some ((p.1,q.1),q.2)
   |none=>none
  |none=>none
 law:=fun {vs a rest ps} h hp=>by
  split at h
  · rename_i p hA
    split at h
    · rename_i q hB
      simp only [Option.some.injEq,Prod.mk.injEq] at h;obtain ⟨rfl,rfl⟩:=h;obtain ⟨p1,p2,rfl,h1,h2⟩:=A.law (a:=p.1) (rest:=p.2) hA hp;obtain ⟨q1,q2,rfl,h3,h4⟩:=B.law (a:=q.1) (rest:=q.2) hB h2;exact ⟨p1++q1,q2,by simp,pvL_append h1 h3,h4⟩
    · cases h
  · cases h
def Cod.iso {α β:Type} (A:Cod α) (f:α->β) (g:β->α) (h: ∀a,g (f a)=a):Cod β where
 enc b:=A.enc (g b)
 dec vs:=match A.dec vs with
  |some p=>some (f p.1,p.2)
  |none=>none
 law:=fun {vs a rest ps} hd hp=>by
  split at hd
  · rename_i p hA
    simp only [Option.some.injEq,Prod.mk.injEq] at hd;obtain ⟨rfl,rfl⟩:=hd;rw [h];exact A.law hA hp
  · cases hd
def Arg.int (k:IntKind):Arg Int where
 enc n:= .int k n
 dec v:=match v with
  | .int l n=>bif kindEq l k then some n else none
  |_=>none
 law:=fun {v a p} h hp=>by
  split at h
  · rename_i l n
    cases hk:kindEq l k with
    |false=>rw [hk] at h;cases h
    |true=>rw [hk] at h;injection h with h;subst h;rw [kindEq_iff.1 hk] at hp;exact hp
  · cases h
def Arg.bool:Arg Bool where
 enc n:= .bool n
 dec v:=match v with
  | .bool n=>some n
  |_=>none
 law:=fun {v a p} h hp=>by
  split at h
  · injection h with h;subst h;exact hp
  · cases h
def Arg.sl (r:List PT):Arg (List (RT r)) where
 enc l:= .sl r l
 dec:=decSl r
 law:=decSl_law
def Arg.agg {α:Type} (A:Cod α):Arg α where
 enc a:= .agg (A.enc a)
 dec v:=match v with
  | .agg cs=>match A.dec cs with
   |some p=>match p.2 with
    | []=>some p.1
    |_=>none
   |none=>none
  |_=>none
 law:=fun {v a p} h hp=>by
  split at h
  · rename_i cs
    split at h
    · rename_i q hA
      obtain ⟨x,rest⟩:=q;dsimp only at h;cases rest with
      |cons _ _=>cases h
      |nil=>
       injection h with h;subst h;simp only [pvS] at hp;cases hc:pvL cs with
       |none=>rw [hc] at hp;cases hp
       |some l=>
        rw [hc] at hp;injection hp with hp;subst hp;obtain ⟨p1,p2,rfl,h1,h2⟩:=A.law hA hc;simp only [pvL,Option.some.injEq] at h2;subst h2;simp only [pvS,h1,List.append_nil]
    · cases h
  · cases h
def Arg.ref {α:Type} (A:Cod α):Arg α where
 enc a:= .rptr (A.enc a) 0
 dec v:=match v with
  | .rptr cs 0=>match A.dec cs with
   |some p=>match p.2 with
    | []=>some p.1
    |_=>none
   |none=>none
  |_=>none
 law:=fun {v a p} h hp=>by
  split at h
  · rename_i cs
    split at h
    · rename_i q hA
      obtain ⟨x,rest⟩:=q;dsimp only at h;cases rest with
      |cons _ _=>cases h
      |nil=>
       injection h with h;subst h;simp only [pvS] at hp;cases hc:pvL cs with
       |none=>rw [hc] at hp;cases hp
       |some l=>
        rw [hc] at hp;injection hp with hp;subst hp;obtain ⟨p1,p2,rfl,h1,h2⟩:=A.law hA hc;simp only [pvL,Option.some.injEq] at h2;subst h2;simp only [pvS,h1,List.append_nil]
    · cases h
  · cases h
def Args.nil:Args Unit where
 enc _:=[]
 dec vs:=match vs with
  | []=>some ()
  |_=>none
 law:=fun {vs a ps} h hp=>by
  split at h
  · exact hp
  · cases h
def Args.one {α:Type} (A:Arg α):Args α where
 enc a:=[A.enc a]
 dec vs:=match vs with
  | [v]=>A.dec v
  |_=>none
 law:=fun {vs a ps} h hp=>by
  split at h
  · obtain ⟨p,qs,rfl,h1,h2⟩:=pvL_cons.1 hp
    exact pvL_cons.2 ⟨p,qs,rfl,A.law h h1,h2⟩
  · cases h
def Args.cons {α β:Type} (A:Arg α) (B:Args β):Args (α×β) where
 enc a:=A.enc a.1::B.enc a.2
 dec vs:=match vs with
  |v::r=>match A.dec v with
   |some x=>match B.dec r with
    |some y=>some (x,y)
    |none=>none
   |none=>none
  | []=>none
 law:=fun {vs a ps} h hp=>by
  split at h
  · split at h
    · rename_i x hx
      split at h
      · rename_i y hy
        injection h with h;subst h;obtain ⟨p,qs,rfl,h1,h2⟩:=pvL_cons.1 hp;exact pvL_cons.2 ⟨p,qs,rfl,A.law hx h1,B.law hy h2⟩
      · cases h
    · cases h
  · cases h
def Arg.tup {α:Type} (A:Args α):Arg α where
 enc a:= .tup (A.enc a)
 dec v:=match v with
  | .tup vs=>A.dec vs
  |_=>none
 law:=fun {v a p} h hp=>by
  split at h
  · rename_i vs
    simp only [pvS] at hp;cases hc:pvL vs with
    |none=>rw [hc] at hp;cases hp
    |some l=>
     rw [hc] at hp;injection hp with hp;subst hp;simp only [pvS,A.law h hc]
  · cases h
def Arg.clo {α:Type} (f:FuncId) (A:Args α):Arg α where
 enc a:= .clo f [] (A.enc a)
 dec v:=match v with
  | .clo g [] b=>bif Nat.beq g f then A.dec b else none
  |_=>none
 law:=fun {v a p} h hp=>by
  split at h
  · rename_i g b
    cases hg:Nat.beq g f with
    |false=>rw [hg] at h;cases h
    |true=>
     rw [hg] at h
     have:=Nat.eq_of_beq_eq_true hg
     subst this;simp only [pvS,pvL] at hp ⊢;cases hc:pvL b with
     |none=>rw [hc] at hp;cases hp
     |some l=>
      rw [hc] at hp;rw [A.law h hc];exact hp
  · cases h
def Con.clone (r:List PT):Con:=⟨.one (.sl r),.sl r,cloneO,.own,false⟩
def add64O (a b c:Int):Option (Int×Int):=bif decide (0<=a)&&decide (0<=b)&&decide (0<=c)&&decide (c<=1) then some ((a+b+c)%18446744073709551616,(a+b+c) / 18446744073709551616) else none
def Con.add64:Con:=⟨.cons (.int .u64) (.cons (.int .u64) (.one (.int .u64))),.tup (.cons (.int .u64) (.one (.int .u64))),fun a=>add64O a.1 a.2.1 a.2.2,.pure,false⟩
def conOf:List (Nat×Con)->FuncId->List Con
 | [],_=>[]
 |(g,c)::r,f=>bif Nat.beq g f then c::conOf r f else conOf r f
def fpcOf:List (Nat×FpCon)->FuncId->List FpCon
 | [],_=>[]
 |(g,c)::r,f=>bif Nat.beq g f then c::fpcOf r f else fpcOf r f
def codeOf:List (Nat×XFunc)->FuncId->Option XFunc
 | [],_=>none
 |(g,c)::r,f=>bif Nat.beq g f then some c else codeOf r f
def mkCx (lp:Option Nat) (c:List (Nat×Con)) (p:List (Nat×FpCon)) (x:List (Nat×XFunc)) (rk:List (Nat×List PT)):Ctx:=⟨lp,conOf c,fpcOf p,codeOf x,rk⟩
end Go.Vm
/- What a typed value says of a value of the logical machine. -/
namespace Go.Vm
def OwnAt (s:List SB) (t e n:Nat):Prop:=(∃r l,s[t]? =some (.arr r l)/\e=r.length/\n=l.length)\/s[t]? =some .dead
def EszAt (s:List SB) (t e:Nat):Prop:=(∃r l,s[t]? =some (.arr r l)/\e=r.length)\/s[t]? =some .dead
def RowIs (s:List SB) (t:Nat) (r:List PT) (i:Int) (a:RT r):Prop:=(∃l,s[t]? =some (.arr r l)/\geti l i=some a)\/s[t]? =some .dead
def InIs (s:List SB) (t:Nat) (i:Int):Prop:=(∃r l,s[t]? =some (.arr r l)/\(geti l i).isSome=true)\/s[t]? =some .dead
mutual
def R (s:List SB):SV->PV->Prop
 | .junk,_=>True
 | .undef,v=>v= .undef
 | .nul,v=>v= .nul
 | .nilf,v=>v= .nilf
 | .int k n,v=>v= .int k n
 | .bool b,v=>v= .bool b
 | .str x,v=>v= .str x
 | .agg cs,v=> ∃ps,v= .agg ps/\RL s cs ps
 | .tup cs,v=> ∃ps,v= .tup ps/\RL s cs ps
 | .sl r l,v=>v= .sl r.length false (l.map (RT.pv r))
 | .nil e c,v=>v= .sl e c []
 | .own t ex,v=> ∃e n,v= .own t e 0 n n ex/\OwnAt s t e n
 | .pre t len cap ex,v=> ∃e,v= .own t e 0 len cap ex/\EszAt s t e
 | .part t off len cap ex,v=> ∃e,v= .own t e off len cap ex/\EszAt s t e
 | .pa t r i a off,v=>v= .ptr t r.length i.toNat off/\RowIs s t r i a
 | .pb t i off,v=> ∃e,v= .ptr t e i.toNat off/\InIs s t i
 | .bp t n off,v=>v= .ptr t n 0 off
 | .rptr cs off,v=> ∃ps,v= .rptr ps off/\RL s cs ps
 | .clo f a b,v=> ∃pa pb,v= .clo f pa pb/\RL s a pa/\RL s b pb
 | .mp t,v=>v= .mp t
def RL (s:List SB):List SV->List PV->Prop
 | [],ps=>ps=[]
 |x::xs,ps=> ∃p q,ps=p::q/\R s x p/\RL s xs q
end
def keyL:List Int->PV
 | [a]=> .int .i64 a
 |l=> .agg (l.map (.int .i64))
def entL (k:List Int):PV×PV:=(keyL k,.bool true)
def RB (s:List SB):SB->Blk->Prop
 | .arr r l,b=>b= .arr r.length (l.map (RT.pv r))
 | .box cs,b=> ∃ps,b= .box ps/\RL s cs ps
 | .set l,b=>b= .map (l.map entL)
 | .dead,b=>b= .dead
structure RSto (s:List SB) (p:Sto):Prop where
 len:p.length=s.length
 at_: ∀(t:Nat) (b:SB),s[t]? =some b-> ∃q,p[t]? =some q/\RB s b q
def REnv (s:List SB):SE->Env->Prop
 | [],e=>e=[]
 |(t,v)::r,e=> ∃p q,e=(t,p)::q/\R s v p/\REnv s r q
structure RSt (st:SSt) (p:St):Prop where
 env:REnv st.sto st.env p.env
 sto:RSto st.sto p.sto
 fz:p.fz=st.fz
 kn:p.kn=st.kn
theorem apS_eq: ∀(s l:List SB),apS s l=s++l
 | [],_=>rfl
 |b::r,l=>by simp [apS,apS_eq r l]
theorem setB_eq: ∀(s:List SB) (t:Nat) (b:SB),setB s t b=s.set t b
 | [],_,_=>by simp [setB]
 |_::_,0,_=>rfl
 |x::r,n+1,b=>by simp [setB,setB_eq r n b]
theorem RL.nil {s:List SB}:RL s [] []:=rfl
theorem RL.cons {s:List SB} {x:SV} {xs:List SV} {p:PV} {q:List PV} (h:R s x p) (k:RL s xs q):RL s (x::xs) (p::q):=⟨p,q,rfl,h,k⟩
theorem RL.cons_inv {s:List SB} {x:SV} {xs:List SV} {ps:List PV} (h:RL s (x::xs) ps): ∃p q,ps=p::q/\R s x p/\RL s xs q:=h
theorem RL.length {s:List SB}: ∀{xs:List SV} {ps:List PV},RL s xs ps->ps.length=xs.length
 | [],ps,h=>by rw [show ps=[] from h];rfl
 |x::xs,ps,h=>by
  obtain ⟨p,q,rfl,_,h2⟩:=h.cons_inv;simp [h2.length]
theorem RL.append {s:List SB}: ∀{xs:List SV} {ps:List PV},RL s xs ps-> ∀{ys:List SV} {qs:List PV},RL s ys qs->RL s (xs++ys) (ps++qs)
 | [],ps,h,_,_,k=>by rw [show ps=[] from h];exact k
 |x::xs,ps,h,_,_,k=>by
  obtain ⟨p,q,rfl,h1,h2⟩:=h.cons_inv;exact RL.cons h1 (h2.append k)
theorem RL.take {s:List SB}: ∀{xs:List SV} {ps:List PV},RL s xs ps-> ∀n,RL s (xs.take n) (ps.take n)
 | [],ps,h,n=>by rw [show ps=[] from h];simp;exact RL.nil
 |x::xs,ps,h,0=>by simp;exact RL.nil
 |x::xs,ps,h,n+1=>by
  obtain ⟨p,q,rfl,h1,h2⟩:=h.cons_inv;exact RL.cons h1 (h2.take n)
theorem RL.drop {s:List SB}: ∀{xs:List SV} {ps:List PV},RL s xs ps-> ∀n,RL s (xs.drop n) (ps.drop n)
 | [],ps,h,n=>by rw [show ps=[] from h];simp;exact RL.nil
 |x::xs,ps,h,0=>h
 |x::xs,ps,h,n+1=>by
  obtain ⟨p,q,rfl,h1,h2⟩:=h.cons_inv;exact h2.drop n
theorem RL.nth {s:List SB}: ∀{xs:List SV} {ps:List PV},RL s xs ps-> ∀{n:Nat} {v:SV},Vm.nth xs n=some v-> ∃p,ps[n]? =some p/\R s v p
 | [],_,_,_,_,e=>by cases e
 |x::xs,ps,h,0,v,e=>by
  obtain ⟨p,q,rfl,h1,_⟩:=h.cons_inv;injection e with e;subst e;exact ⟨p,rfl,h1⟩
 |x::xs,ps,h,n+1,v,e=>by
  obtain ⟨p,q,rfl,_,h2⟩:=h.cons_inv;obtain ⟨p',h3,h4⟩:=h2.nth (n:=n) e;exact ⟨p',by simpa using h3,h4⟩
mutual
theorem ofPV_R (s:List SB): ∀v:PV,R s (ofPV v) v
 | .undef=>rfl
 | .nul=>rfl
 | .nilf=>rfl
 | .int _ _=>rfl
 | .bool _=>rfl
 | .str _=>rfl
 | .agg cs=>⟨cs,rfl,ofPVL_R s cs⟩
 | .tup cs=>⟨cs,rfl,ofPVL_R s cs⟩
 | .sl e c rows=>by
  cases rows with
  |nil=>exact rfl
  |cons _ _=>trivial
 | .clo f a b=>⟨a,b,rfl,ofPVL_R s a,ofPVL_R s b⟩
 | .own .. =>trivial
 | .ptr .. =>trivial
 | .rptr .. =>trivial
 | .mp _=>trivial
theorem ofPVL_R (s:List SB): ∀l:List PV,RL s (ofPVL l) l
 | []=>rfl
 |x::xs=>RL.cons (ofPV_R s x) (ofPVL_R s xs)
end
theorem REnv.lk {s:List SB}: ∀{e:SE} {p:Env},REnv s e p-> ∀t,R s (lkS t e) (Vm.lk t p)
 | [],p,h,t=>by rw [show p=[] from h];rfl
 |(u,v)::r,p,h,t=>by
  obtain ⟨q,qs,rfl,h1,h2⟩:=h;simp only [lkS,Vm.lk];cases hb:Nat.beq u t with
  |true=>exact h1
  |false=>exact REnv.lk h2 t
theorem REnv.setS {s:List SB}: ∀{e:SE} {p:Env},REnv s e p-> ∀{t:Nat} {v:SV},R s v (Vm.lk t p)->REnv s (Vm.setS t v e) p
 | [],p,h,t,v,_=>h
 |(u,x)::r,p,h,t,v,hv=>by
  obtain ⟨q,qs,rfl,h1,h2⟩:=h;simp only [Vm.setS];simp only [Vm.lk] at hv;cases hb:Nat.beq u t with
  |true=>rw [hb] at hv;exact ⟨q,qs,rfl,hv,h2⟩
  |false=>rw [hb] at hv;exact ⟨q,qs,rfl,h1,REnv.setS h2 hv⟩
theorem opdS_R {s:List SB} {e:SE} {p:Env} (h:REnv s e p): ∀x:Opd,R s (opdS e x) (x.ev p)
 | .t n=>h.lk n
 | .c v=>ofPV_R s v
theorem opdsS_R {s:List SB} {e:SE} {p:Env} (h:REnv s e p): ∀l:List Opd,RL s (opdsS e l) (evs p l)
 | []=>rfl
 |x::xs=>RL.cons (opdS_R h x) (opdsS_R h xs)
def Fr (bad:List Nat) (s s':List SB):Prop:= ∀(t:Nat) (b:SB),s[t]? =some b->match b with
 | .arr r l=>(∃l',s'[t]? =some (.arr r l')/\l'.length=l.length/\(has bad t=false->l'=l))\/s'[t]? =some .dead
 | .dead=>s'[t]? =some .dead
 |_=>True
theorem Fr.refl (bad:List Nat) (s:List SB):Fr bad s s:=fun t b h=>by
 cases b with
 |arr r l=>exact .inl ⟨l,h,rfl,fun _=>rfl⟩
 |dead=>exact h
 |_=>trivial
theorem Fr.app (bad:List Nat) (s l:List SB):Fr bad s (s++l):=fun t b h=>by
 have h':(s++l)[t]? =some b:=by
  have:=(List.getElem?_eq_some_iff.1 h).1
  rw [List.getElem?_append_left this];exact h
 cases b with
 |arr r l=>exact .inl ⟨l,h',rfl,fun _=>rfl⟩
 |dead=>exact h'
 |_=>trivial
theorem Fr.trans {bad:List Nat} {a b c:List SB} (h:Fr bad a b) (k:Fr bad b c):Fr bad a c:=fun t x hx=>by
 have h1:=h t x hx;cases x with
 |arr r l=>
  rcases h1 with ⟨l',h2,h3,h4⟩|h2
  · have k1:=k t _ h2
    rcases k1 with ⟨l2,k2,k3,k4⟩|k2
    · exact .inl ⟨l2,k2,k3.trans h3,fun hb=>(k4 hb).trans (h4 hb)⟩
    · exact .inr k2
  · exact .inr (k t _ h2)
 |dead=>exact k t _ h1
 |_=>trivial
theorem geti_isSome {α:Type} {l m:List α} {i:Int} (h:(geti l i).isSome=true) (hl:m.length=l.length):(geti m i).isSome=true:=by
 cases i with
 |ofNat n=>
  simp only [geti] at h ⊢;rw [Option.isSome_iff_exists] at h;obtain ⟨a,ha⟩:=h
  have:=(List.getElem?_eq_some_iff.1 ha).1
  rw [List.getElem?_eq_getElem (by omega)];rfl
 |negSucc n=>simp [geti] at h
mutual
theorem R.fr {bad:List Nat} {s s':List SB} (hf:Fr bad s s'): ∀{v:SV} {p:PV},R s v p->R s' (dgV bad v) p
 | .junk,_,_=>trivial
 | .undef,_,h=>h
 | .nul,_,h=>h
 | .nilf,_,h=>h
 | .int _ _,_,h=>h
 | .bool _,_,h=>h
 | .str _,_,h=>h
 | .agg cs,_,h=>by obtain ⟨ps,rfl,h⟩:=h;exact ⟨ps,rfl,RL.fr hf h⟩
 | .tup cs,_,h=>by obtain ⟨ps,rfl,h⟩:=h;exact ⟨ps,rfl,RL.fr hf h⟩
 | .sl _ _,_,h=>h
 | .nil _ _,_,h=>h
 | .own t ex,_,h=>by
  obtain ⟨e,n,rfl,h⟩:=h;refine ⟨e,n,rfl,?_⟩;rcases h with ⟨r,l,h1,h2,h3⟩|h1
  · rcases hf t _ h1 with ⟨l',k1,k2,_⟩|k1
    · exact .inl ⟨r,l',k1,h2,by rw [h3,k2]⟩
    · exact .inr k1
  · exact .inr (hf t _ h1)
 | .pre t len cap ex,_,h=>by
  obtain ⟨e,rfl,h⟩:=h;refine ⟨e,rfl,?_⟩;rcases h with ⟨r,l,h1,h2⟩|h1
  · rcases hf t _ h1 with ⟨l',k1,_,_⟩|k1
    · exact .inl ⟨r,l',k1,h2⟩
    · exact .inr k1
  · exact .inr (hf t _ h1)
 | .part t off len cap ex,_,h=>by
  obtain ⟨e,rfl,h⟩:=h;refine ⟨e,rfl,?_⟩;rcases h with ⟨r,l,h1,h2⟩|h1
  · rcases hf t _ h1 with ⟨l',k1,_,_⟩|k1
    · exact .inl ⟨r,l',k1,h2⟩
    · exact .inr k1
  · exact .inr (hf t _ h1)
 | .pa t r i a off,_,h=>by
  obtain ⟨rfl,h⟩:=h;simp only [dgV];cases hb:has bad t with
  |true=>
   refine ⟨_,rfl,?_⟩;rcases h with ⟨l,h1,h2⟩|h1
   · rcases hf t _ h1 with ⟨l',k1,k2,_⟩|k1
     · exact .inl ⟨r,l',k1,geti_isSome (by rw [h2];rfl) k2⟩
     · exact .inr k1
   · exact .inr (hf t _ h1)
  |false=>
   refine ⟨rfl,?_⟩;rcases h with ⟨l,h1,h2⟩|h1
   · rcases hf t _ h1 with ⟨l',k1,_,k3⟩|k1
     · exact .inl ⟨l',k1,by rw [k3 hb];exact h2⟩
     · exact .inr k1
   · exact .inr (hf t _ h1)
 | .pb t i off,_,h=>by
  obtain ⟨e,rfl,h⟩:=h;refine ⟨e,rfl,?_⟩;rcases h with ⟨r,l,h1,h2⟩|h1
  · rcases hf t _ h1 with ⟨l',k1,k2,_⟩|k1
    · exact .inl ⟨r,l',k1,geti_isSome h2 k2⟩
    · exact .inr k1
  · exact .inr (hf t _ h1)
 | .bp _ _ _,_,h=>h
 | .rptr cs off,_,h=>by obtain ⟨ps,rfl,h⟩:=h;exact ⟨ps,rfl,RL.fr hf h⟩
 | .clo f a b,_,h=>by obtain ⟨pa,pb,rfl,h1,h2⟩:=h;exact ⟨pa,pb,rfl,RL.fr hf h1,RL.fr hf h2⟩
 | .mp _,_,h=>h
theorem RL.fr {bad:List Nat} {s s':List SB} (hf:Fr bad s s'): ∀{v:List SV} {p:List PV},RL s v p->RL s' (dgL bad v) p
 | [],_,h=>h
 |x::xs,_,h=>by
  obtain ⟨p,q,rfl,h1,h2⟩:=h.cons_inv;exact RL.cons (R.fr hf h1) (RL.fr hf h2)
end
mutual
theorem dgV_nil: ∀v:SV,dgV [] v=v
 | .junk| .undef| .nul| .nilf| .int _ _| .bool _| .str _| .sl _ _| .nil _ _| .own _ _| .pre _ _ _ _| .part _ _ _ _ _| .pb _ _ _| .bp _ _ _| .mp _=>rfl
 | .agg cs=>by simp only [dgV,dgL_nil cs]
 | .tup cs=>by simp only [dgV,dgL_nil cs]
 | .rptr cs _=>by simp only [dgV,dgL_nil cs]
 | .clo _ a b=>by simp only [dgV,dgL_nil a,dgL_nil b]
 | .pa t r i a off=>by simp [dgV,has]
theorem dgL_nil: ∀v:List SV,dgL [] v=v
 | []=>rfl
 |x::xs=>by simp only [dgL,dgV_nil x,dgL_nil xs]
end
theorem R.ext {s s':List SB} (hf:Fr [] s s') {v:SV} {p:PV} (h:R s v p):R s' v p:=by
 have:=R.fr hf h
 rwa [dgV_nil] at this
theorem RL.ext {s s':List SB} (hf:Fr [] s s') {v:List SV} {p:List PV} (h:RL s v p):RL s' v p:=by
 have:=RL.fr hf h
 rwa [dgL_nil] at this
theorem RB.fr {bad:List Nat} {s s':List SB} (hf:Fr bad s s') {b:SB} {p:Blk} (h:RB s b p):RB s' (dgB bad b) p:=by
 cases b with
 |box cs=>obtain ⟨ps,rfl,h⟩:=h;exact ⟨ps,rfl,RL.fr hf h⟩
 |_=>exact h
theorem RB.ext {s s':List SB} (hf:Fr [] s s') {b:SB} {p:Blk} (h:RB s b p):RB s' b p:=by
 cases b with
 |box cs=>obtain ⟨ps,rfl,h⟩:=h;exact ⟨ps,rfl,RL.ext hf h⟩
 |_=>exact h
theorem REnv.fr {bad:List Nat} {s s':List SB} (hf:Fr bad s s'): ∀{e:SE} {p:Env},REnv s e p->REnv s' (dgE bad e) p
 | [],_,h=>h
 |(t,v)::r,_,h=>by
  obtain ⟨p,q,rfl,h1,h2⟩:=h;exact ⟨p,q,rfl,R.fr hf h1,REnv.fr hf h2⟩
theorem REnv.ext {s s':List SB} (hf:Fr [] s s'): ∀{e:SE} {p:Env},REnv s e p->REnv s' e p
 | [],_,h=>h
 |(t,v)::r,_,h=>by
  obtain ⟨p,q,rfl,h1,h2⟩:=h;exact ⟨p,q,rfl,R.ext hf h1,REnv.ext hf h2⟩
theorem RSto.app {s:List SB} {p:Sto} (h:RSto s p) {l:List SB} {q:Sto} (hl:q.length=l.length) (hb: ∀(j:Nat) (b:SB),l[j]? =some b-> ∃x,q[j]? =some x/\RB (s++l) b x):RSto (s++l) (p++q) where
 len:=by simp [h.len,hl]
 at_:=fun t b ht=>by
  rcases Nat.lt_or_ge t s.length with hlt|hge
  · rw [List.getElem?_append_left hlt] at ht
    obtain ⟨x,h1,h2⟩:=h.at_ t b ht;exact ⟨x,by rw [List.getElem?_append_left (by rw [h.len];exact hlt)];exact h1,h2.ext (Fr.app [] s l)⟩
  · rw [List.getElem?_append_right hge] at ht
    obtain ⟨x,h1,h2⟩:=hb _ b ht;exact ⟨x,by rw [List.getElem?_append_right (by rw [h.len];exact hge),h.len];exact h1,h2⟩
theorem dgS_get (ts:List Nat): ∀(s:List SB) (t:Nat),(dgS ts s)[t]? =(s[t]?).map (dgB ts)
 | [],t=>by simp [dgS]
 |b::r,0=>by simp [dgS]
 |b::r,t+1=>by simp [dgS,dgS_get ts r t]
theorem dgS_len (ts:List Nat): ∀(s:List SB),(dgS ts s).length=s.length
 | []=>rfl
 |b::r=>by simp [dgS,dgS_len ts r]
theorem Fr.dg {bad ts:List Nat} {s s':List SB} (h:Fr bad s s'):Fr bad s (dgS ts s'):=fun t b hb=>by
 have h1:=h t b hb;cases b with
 |arr r l=>
  rcases h1 with ⟨l',h2,h3,h4⟩|h2
  · exact .inl ⟨l',by rw [dgS_get,h2];rfl,h3,h4⟩
  · exact .inr (by rw [dgS_get,h2];rfl)
 |dead=>show (dgS ts s')[t]? =_;rw [dgS_get,h1];rfl
 |_=>trivial
theorem RL_sv {s:List SB}: ∀(r:List PT) (a:RT r),RL s (RT.sv r a) (RT.pv r a)
 | [],_=>rfl
 | [p],a=>by refine RL.cons ?_ RL.nil;cases p<;>rfl
 |p::q::r,a=>by refine RL.cons ?_ (RL_sv (q::r) a.2);cases p<;>rfl
theorem RL_sv_inv {s:List SB}: ∀(r:List PT) (a:RT r) {ps:List PV},RL s (RT.sv r a) ps->ps=RT.pv r a
 | [],_,ps,h=>h
 | [p],a,ps,h=>by
  obtain ⟨x,q,rfl,h1,h2⟩:=h.cons_inv;have h2':q=[]:=h2;subst h2';cases p<;>(have h1':=h1;simp only [PT.sv,R] at h1';rw [h1'];rfl)
 |p::q::r,a,ps,h=>by
  obtain ⟨x,qs,rfl,h1,h2⟩:=h.cons_inv;rw [RL_sv_inv (q::r) a.2 h2];cases p<;>(have h1':=h1;simp only [PT.sv,R] at h1';rw [h1'];rfl)
theorem RT.plain: ∀(r:List PT) (a:RT r),(RT.pv r a).all PV.plain=true
 | [],_=>rfl
 | [p],a=>by cases p<;>rfl
 |p::q::r,a=>by
  have:=RT.plain (q::r) a.2
  cases p<;>(simp only [RT.pv,List.all_cons,this,Bool.and_true];rfl)
theorem R.cells {s:List SB} {v:SV} {p:PV} (h:R s v p) (hj:v≠ .junk):RL s v.cells p.cells:=by
 cases v with
 |junk=>exact absurd rfl hj
 |agg cs=>obtain ⟨ps,rfl,h⟩:=h;exact h
 |undef=>rw [show p= .undef from h];exact RL.cons rfl RL.nil
 |nul=>rw [show p= .nul from h];exact RL.cons rfl RL.nil
 |nilf=>rw [show p= .nilf from h];exact RL.cons rfl RL.nil
 |int k n=>rw [show p= .int k n from h];exact RL.cons rfl RL.nil
 |bool b=>rw [show p= .bool b from h];exact RL.cons rfl RL.nil
 |str x=>rw [show p= .str x from h];exact RL.cons rfl RL.nil
 |sl r l=>rw [show p=_ from h];exact RL.cons rfl RL.nil
 |nil e c=>rw [show p=_ from h];exact RL.cons rfl RL.nil
 |bp t n o=>rw [show p=_ from h];exact RL.cons rfl RL.nil
 |mp t=>rw [show p=_ from h];exact RL.cons rfl RL.nil
 |tup cs=>obtain ⟨ps,rfl,h⟩:=h;exact RL.cons ⟨ps,rfl,h⟩ RL.nil
 |own t ex=>obtain ⟨e,n,rfl,h⟩:=h;exact RL.cons ⟨e,n,rfl,h⟩ RL.nil
 |pre t a b c=>obtain ⟨e,rfl,h⟩:=h;exact RL.cons ⟨e,rfl,h⟩ RL.nil
 |part t o a b c=>obtain ⟨e,rfl,h⟩:=h;exact RL.cons ⟨e,rfl,h⟩ RL.nil
 |pa t r i a o=>obtain ⟨rfl,h⟩:=h;exact RL.cons ⟨rfl,h⟩ RL.nil
 |pb t i o=>obtain ⟨e,rfl,h⟩:=h;exact RL.cons ⟨e,rfl,h⟩ RL.nil
 |rptr cs o=>obtain ⟨ps,rfl,h⟩:=h;exact RL.cons ⟨ps,rfl,h⟩ RL.nil
 |clo f a b=>obtain ⟨pa,pb,rfl,h⟩:=h;exact RL.cons ⟨pa,pb,rfl,h⟩ RL.nil
theorem R.isOne {s:List SB} {v:SV} {p:PV} (h:R s v p) (ho:v.isOne=true):p.isOne=true:=by
 cases v with
 |junk|undef|nul|agg _|tup _=>cases ho
 |nilf|int _ _|bool _|str _|sl _ _|nil _ _|bp _ _ _|mp _=>rw [show p=_ from h];rfl
 |own t ex=>obtain ⟨e,n,rfl,h⟩:=h;rfl
 |pre t a b c=>obtain ⟨e,rfl,h⟩:=h;rfl
 |part t o a b c=>obtain ⟨e,rfl,h⟩:=h;rfl
 |pa t r i a o=>obtain ⟨rfl,h⟩:=h;rfl
 |pb t i o=>obtain ⟨e,rfl,h⟩:=h;rfl
 |rptr cs o=>obtain ⟨ps,rfl,h⟩:=h;rfl
 |clo f a b=>obtain ⟨pa,pb,rfl,h⟩:=h;rfl
theorem RL.allOne {s:List SB}: ∀{cs:List SV} {ps:List PV},RL s cs ps->Vm.allOne cs=true->ps.all PV.isOne=true
 | [],ps,h,_=>by rw [show ps=[] from h];rfl
 |x::xs,ps,h,ho=>by
  obtain ⟨p,q,rfl,h1,h2⟩:=h.cons_inv;simp only [Vm.allOne,Bool.and_eq_true] at ho;simp only [List.all_cons,Bool.and_eq_true];exact ⟨h1.isOne ho.1,h2.allOne ho.2⟩
theorem R.stored {s:List SB} {v:SV} {p:PV} {w:List SV} (h:R s v p) (hs:v.stored=some w): ∃q,p.stored=some q/\RL s w q:=by
 unfold SV.stored at hs;cases ha:Vm.allOne v.cells with
 |false=>rw [ha] at hs;cases hs
 |true=>
  rw [ha] at hs;injection hs with hs;subst hs;have hj:v≠ .junk:=by intro e;subst e;cases ha
  have hc:=h.cells hj;exact ⟨p.cells,by unfold PV.stored;rw [if_pos (hc.allOne ha)],hc⟩
theorem R.ofRow {s:List SB} {v:SV} {p:PV} {r:List PT} {a:RT r} (h:R s v p) (hr:RT.of r v.cells=some a):p.storedPlain=some (RT.pv r a)/\v.cells.length=r.length:=by
 have hc:=RT.of_some hr;have hl:v.cells.length=r.length:=by rw [hc,RT.sv_len]
 refine ⟨?_,hl⟩;have hj:v≠ .junk:=by
  intro e;subst e;cases r with
  |nil=>simp [SV.cells,RT.of] at hr
  |cons p q=>cases q with
   |nil=>cases p<;>simp [SV.cells,RT.of,PT.of] at hr
   |cons _ _=>simp only [SV.cells,RT.of] at hr;split at hr<;>cases hr<;>(rename_i x y h1 h2;simp [RT.of] at h2)
 have h1:=h.cells hj;rw [hc] at h1;have h2:=RL_sv_inv r a h1;unfold PV.storedPlain;rw [h2,if_pos (RT.plain r a)]
theorem partS_R {s:List SB} {agg:Option Nat} {off:Nat} {cs:List SV} {ps:List PV} {v:SV} (h:RL s cs ps) (hp:partS agg off cs=some v): ∃p,part agg off ps=some p/\R s v p:=by
 cases agg with
 |none=>
  obtain ⟨p,h1,h2⟩:=h.nth hp;exact ⟨p,h1,h2⟩
 |some n=>
  simp only [partS] at hp;cases hb:Nat.ble (off+n) cs.length with
  |false=>rw [hb] at hp;cases hp
  |true=>
   rw [hb] at hp;injection hp with hp;subst hp
   have:off+n<=ps.length:=by rw [h.length];exact Nat.le_of_ble_eq_true hb
   exact ⟨.agg ((ps.drop off).take n),by simp only [part,if_pos this],_,rfl,(h.drop off).take n⟩
theorem spliceS_R {s:List SB} {off:Nat} {new old:List SV} {pn po:List PV} (h:RL s new pn) (k:RL s old po):RL s (spliceS off new old) (splice off pn po):=by
 unfold spliceS splice;rw [h.length];exact ((k.take off).append h).append (k.drop _)
theorem contS_R {s:List SB} {ps:Sto} {v:SV} {p:PV} {r:List PT} {l:List (RT r)} (hs:RSto s ps) (h:R s v p) (hc:contS s v=some ⟨r,l⟩):
 rowsOf ps r.length p=some (l.map (RT.pv r))/\tokOf p=tokS v:=by
 cases v with
 |sl q m=>
  have hc':(⟨q,m⟩:Rows)=⟨r,l⟩:=by injection hc
  cases hc';rw [show p=_ from h];refine ⟨?_,rfl⟩;cases l with
  |nil=>rfl
  |cons a l=>simp [rowsOf]
 |own t ex=>
  simp only [contS,nth_eq] at hc;split at hc
  · rename_i q m hst
    have hc':(⟨q,m⟩:Rows)=⟨r,l⟩:=by injection hc
    cases hc';obtain ⟨e,n,rfl,hat⟩:=h;rcases hat with ⟨q',m',h1,rfl,rfl⟩|h1
    · rw [hst] at h1
      injection h1 with h1;cases h1;obtain ⟨b,h2,h3⟩:=hs.at_ t _ hst;rw [show b=_ from h3] at h2;refine ⟨?_,rfl⟩;simp only [rowsOf,Nat.beq_refl,if_true,h2,List.drop_zero];rw [List.take_of_length_le (by simp)]
    · rw [hst] at h1;cases h1
  · cases hc
 |pre t len cap ex=>
  simp only [contS,nth_eq] at hc;split at hc
  · rename_i q m hst
    have hc':(⟨q,m.take len⟩:Rows)=⟨r,l⟩:=by injection hc
    cases hc';obtain ⟨e,rfl,hat⟩:=h;rcases hat with ⟨q',m',h1,rfl⟩|h1
    · rw [hst] at h1
      injection h1 with h1;cases h1;obtain ⟨b,h2,h3⟩:=hs.at_ t _ hst;rw [show b=_ from h3] at h2;refine ⟨?_,rfl⟩;simp only [rowsOf,Nat.beq_refl,if_true,h2];simp
    · rw [hst] at h1;cases h1
  · cases hc
 |part t off len cap ex=>
  simp only [contS,nth_eq] at hc;split at hc
  · rename_i q m hst
    have hc':(⟨q,(m.drop off).take len⟩:Rows)=⟨r,l⟩:=by injection hc
    cases hc';obtain ⟨e,rfl,hat⟩:=h;rcases hat with ⟨q',m',h1,rfl⟩|h1
    · rw [hst] at h1
      injection h1 with h1;cases h1;obtain ⟨b,h2,h3⟩:=hs.at_ t _ hst;rw [show b=_ from h3] at h2;refine ⟨?_,rfl⟩;simp only [rowsOf,Nat.beq_refl,if_true,h2];simp
    · rw [hst] at h1;cases h1
  · cases hc
 |_=>cases hc
end Go.Vm
