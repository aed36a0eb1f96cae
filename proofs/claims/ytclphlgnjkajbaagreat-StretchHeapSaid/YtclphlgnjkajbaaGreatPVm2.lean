/- The logical machine, part 2: VmCall3, VmFp, VmRun, VmInv, VmStep, VmShr, VmOp, VmReg, VmReg2, VmNorm, VmNorm2, VmCode, VmSound, VmPrim, VmIns, VmTab, VmComp, VmLaw, VmSym, SvBase, SvDef. -/
import Derived.Test.YtclphlgnjkajbaaGreatPVm1
import Derived.Orders
import Derived.Laws.Sem
import Derived.Laws.Externs
import Derived.Lib.SliceRun
import Derived.Laws.CopyRow
import Derived.ProofKit
import Derived.Carry
import Derived.OpenShut
import Derived.Deep.Slices
import Derived.Deep.Grids
open List renaming getElem?_eq_getElem->v4,getElem?_eq_some_iff->EQ,getElem?_append_left->M2,getElem?_append_right->adc,mem_append->ae1,all_eq_true->ae2,mem_singleton->ae6,take_of_length_le->ae7,length_append->aep,replicate->aeq,mem_cons->aer,mem_cons_of_mem->aet,getD_eq_getElem?_getD->aey,pairwise_iff_getElem->aez,flatMap_cons->aeC,drop_of_length_le->aeD,mem_append_right->aeG,getElem?_set_ne->aeH,mem_append_left->aeI,mem_of_mem_take->aeL,mem_of_mem_drop->aeM,flatMap_append->aeS,nodup_append->af2,getElem?_set->af3,any_eq_true->afb,length_set->afd,drop_zero->afl,length->afn
open Bool renaming and_eq_true->v6,false_eq_true->PP,not_eq_true'->UV,or_eq_true->aeF,true->afA,false->afC
open Option.some renaming injEq->ww,inj->aeE
open Nat renaming beq->AC,le_refl->If,lt_trichotomy->acl,le_trans->adM,ble->adT,lt_or_ge->adZ,zero_le->ae0,eq_or_lt_of_le->ae5,lt_of_lt_of_le->aeo,blt->aes,le_of_lt->aev,ble_eq->aex,add_mul->aeK,mul_le_mul_right->aeQ,lt_or_gt_of_ne->aeT,le_total->aeV
open Option renaming map_eq_some_iff->Do,some->afo,none->afp
open Prod.mk renaming injEq->IR
open Array renaming getElem?_eq_some_iff->NE,getElem?_setIfInBounds->adR,getD_eq_getD_getElem?->adV,getElem?_setIfInBounds_self_of_lt->ae8,replicate->aen,getElem?_eq_getElem->aeA,size_replicate->aeJ,size_append->afa,ext'->afk
open Int renaming ofNat_eq_natCast->aeu,ofNat->aeR
open Go.Sem renaming run_bind->aew,run_pure->afm
open Go.Result renaming andThen_ok->aeB
open Go.World renaming cell?->afc
open Decidable renaming decide->afF
/- A pure call, whole. -/
namespace Go.Vm
structure sQ (im:Im) (loc:Loc) (aD:bY) (w:World) (v:PV) (tM:bY) (G':List Nat) (dJ:Im) (bc:Loc) (w':World) (u:Value):Prop where
 fO:mu im dJ
 dy:kQ loc bc
 vr:VR dJ bc v u
 sr:SR dJ bc tM G' w'
 os:w'.os=w.os
 tape:Tape w w'
 output:w'.output=w.output
 size:w.heap.size<=w'.heap.size
 frame: ∀b,b<w.heap.size->(∀t li k,loc t=afo li->aD[t]? =afo k->k.bC=afA->li.cS≠b)->w'.heap[b]? =w.heap[b]?
 dC: ∀b o,dJ b=afo o->im b=afo o\/w.heap.size<=b\/ ∃t li k,loc t=afo li/\aD[t]? =afo k/\k.bC=afA/\li.cS=b
 ma: ∀t li,bc t=afo li->loc t=afo li\/afn aD<=t
 own: ∀t li k,bc t=afo li->tM[t]? =afo k->k.bC=afA->(w.heap.size<=li.cS\/ ∃u lu ku,loc u=afo lu/\aD[u]? =afo ku/\ku.bC=afA/\lu.cS=li.cS)
def rV (P:Program) (f:FuncId) (us:Array Value) (w:World) (R:Value->World->Prop):Prop:=
 (∃v w',(callFunc f us).run P w= .ok (.value v) w'/\R v w')\/
 ((callFunc f us).run P w= .ok (.enter f us) w/\Calls P f us w fun e w'=> ∃v,e= .returned v/\R v w')
theorem rV.mono {P:Program} {f:FuncId} {us:Array Value} {w:World} {R R':Value->World->Prop} (h:rV P f us w R) (hr: ∀v w',R v w'->R' v w'):rV P f us w R':=by
 rcases h with ⟨v,w',h1,h2⟩|⟨h1,h2⟩
 · exact .inl ⟨v,w',h1,hr _ _ h2⟩
 exact .inr ⟨h1,h2.mono fun e w' ⟨v,he,hv⟩=>⟨v,he,hr _ _ hv⟩⟩
def AI (P : Program) (rec : Task -> Option Out) : Prop :=
  ∀ (f : FuncId) (args : List PV) (aD : bY) (fz : List Nat) (v : PV) (tM : bY) (G' : List Nat), rec (.func f args aD fz) = afo (.func v tM G') ->
    ∀ (im : Im) (loc : Loc) (w : World) (us : List Value), SR im loc aD fz w -> eh im loc args us ->
      rV P f ⟨us⟩ w fun u w' => ∃ dJ bc, sQ im loc aD w v tM G' dJ bc w' u
def F' (P : Program) (f : FuncId) (p : List PV -> Option (PV × bY)) : Prop :=
  ∀ (args : List PV) (v : PV) (news : bY), p args = afo (v, news) -> ∀ (im : Im) (w : World) (us : List Value), SR im fB [] [] w -> eh im fB args us ->
    rV P f ⟨us⟩ w fun u w' => ∃ dJ bc, sQ im fB [] w v news [] dJ bc w' u
def Nc (P : Program) (f : FuncId) (p : List PV -> bY -> List Nat -> Option (PV × bY × List Nat)) : Prop :=
  ∃ fn c, P.funcs[f]? = afo fn /\ (fn.name == "runtime.NumGoroutine") = afC /\ fn.body = afo c /\
    ∀ (args : List PV) (aD : bY) (fz : List Nat) (v : PV) (tM : bY) (G' : List Nat), p args aD fz = afo (v, tM, G') ->
      ∀ (im : Im) (loc : Loc) (w : World) (us : List Value), SR im loc aD fz w -> eh im loc args us ->
        rV P f ⟨us⟩ w fun u w' => ∃ dJ bc, sQ im loc aD w v tM G' dJ bc w' u
def w5 (P:Program) (F:kW):Prop:=(∀f k p,F f=afo (.jf k p)->k=afC/\F' P f p)/\ ∀f p,F f=afo (.MU p)->Nc P f p
section
variable {P : Program} {F : kW} {rec : Task -> Option Out} {im : Im} {loc : Loc} {aD : bY} {w : World}
theorem SR.empty (h: ∀b o,im b=afo o->w.heap[b]? =afo o):SR im fB [] [] w where
 bA:=h
 cS:=fun t li h=>by cases h
 gL:=fun t u li lj k k' h=>by cases h
 free:=fun t li k h=>by cases h
theorem Nf {r:mh} {v:PV} {u:Value} {mA:bY} {Ew:List Nat} {im0 Cc:Im} {cQ:Loc} {w1:World} (hk:ik im loc aD w r) (hr:r.v=v) (hn:r.news=[]) (hw:r.wr=[]) (hno:v.jx=afA)
 (hp:sQ im0 fB [] w v mA Ew Cc cQ w1 u): ∃dJ bc,VR dJ bc r.v u/\qX im loc aD w r dJ bc w1:=by
 refine ⟨im,loc,by rw [hr];exact HE hno hp.vr,?_⟩;have qm: ∀b,b<w.heap.size->w1.heap[b]? =w.heap[b]?:=fun b hb=>hp.frame b hb fun t li k h=>by cases h
 exact {
  fO:= .refl _,dy:= .refl _
  bA:=fun b o h=>by have h1:=hk.bA b o h;have dz:b<w.heap.size:=(NE.1 h1).1;rw [qm b dz];exact h1
  dC:=fun _ _ h=> .inl h
  os:=hp.os,tape:=hp.tape,output:=hp.output,size:=hp.size
  frame:=fun b hb _=>qm b hb
  MX:=fun t k h=>by rw [hw] at h;cases h
  wr:=fun t k li h=>by rw [hw] at h;cases h
  jN:=fun _ _ h=> .inl h
  news:=fun j k li h=>by rw [hn] at h;simp at h
  distinct:=fun i j ki kj li lj h=>by rw [hn] at h;simp at h}
theorem OW {r:mh} {v v':PV} {u:Value} {mA:bY} {Ew tk:List Nat} {Cc:Im} {cQ:Loc} {w1:World} (hr:r.v=v') (hn:r.news=[]) (hw:r.wr=[]) (hf:r.fr=tk)
 (hp:sQ (grow im w (yr loc aD tk)) fB [] w v mA Ew Cc cQ w1 u) (hi:wT mA v=afo v'): ∃dJ bc,VR dJ bc r.v u/\qX im loc aD w r dJ bc w1:=by
 have qm: ∀b,b<w.heap.size->w1.heap[b]? =w.heap[b]?:=fun b hb=>hp.frame b hb fun t li k h=>by cases h
 let Cf:Im:=fun b=>match Cc b with
  |some o=>afo o
  |none=>if (yr cQ mA (hG qO v)).contains b&&adT w.heap.size b then w1.heap[b]? else afp
 have kC:mu Cc Cf:=fun b o h=>by simp only [Cf,h]
 have yg: ∀b o,Cf b=afo o->w1.heap[b]? =afo o:=by
  intro b o h;simp only [Cf] at h;split at h
  · rename_i o' ho;injection h with h;subst h;exact hp.sr.bA b _ ho
  split at h
  · exact h
  cases h
 have ae9: ∀t,t∈hG qO v->CP Cc Cf cQ mA w1 t:=by
  intro t ht li hl;obtain ⟨k,gI,qQ⟩:=hp.sr.cS t li hl;refine ⟨k,gI,qQ,fun hs=>?_⟩;have Yp:w.heap.size<=li.cS:=by
   rcases hp.own t li k hl gI hs with h|⟨u,lu,ku,h,_⟩
   · exact h
   cases h
  simp only [Cf];split
  · rename_i o ho;exact (hp.sr.bA _ _ ho).symm
  rw [rc]
  simp only [v6,aex];exact ⟨by simpa using yt.2 ⟨t,li,k,ht,hl,gI,hs,rfl⟩,Yp⟩
 refine ⟨Cf,loc,by rw [hr];exact OT kC ae9 hp.vr hi,?_⟩;exact {
  fO:=(F6 im w _).trans (hp.fO.trans kC),dy:= .refl _
  bA:=yg
  dC:=fun b o h=>by
   simp only [Cf] at h;split at h
   · rename_i o' ho
     injection h with h;subst h;rcases hp.dC b _ ho with h1|h1|⟨t,li,k,h1,_⟩
     · rcases OR h1 with h2|h2
       · exact .inl h2
       obtain ⟨t,li,k,ht,hl,uY,hs,hb⟩:=yt.1 h2
       exact .inr (.inr ⟨t,li,k,by rw [hf];exact ob.2 ht,hl,uY,hs,hb⟩)
     · exact .inr (.inl h1)
     cases h1
   split at h
   · rename_i hc
     simp only [v6,aex] at hc;exact .inr (.inl hc.2)
   cases h
  os:=hp.os,tape:=hp.tape,output:=hp.output,size:=hp.size
  frame:=fun b hb _=>qm b hb
  MX:=fun t k h=>by rw [hw] at h;cases h
  wr:=fun t k li h=>by rw [hw] at h;cases h
  jN:=fun _ _ h=> .inl h
  news:=fun j k li h=>by rw [hn] at h;simp at h
  distinct:=fun i j ki kj li lj h=>by rw [hn] at h;simp at h}
theorem LK {r:mh} {v v':PV} {u:Value} {mA:bY} {Ew seen':List Nat} {im0 Cc:Im} {cQ:Loc} {w1:World} {news:bY} (hk:ik im loc aD w r) (hr:r.v=v') (hn:r.news=news) (hw:r.wr=[])
 (hp:sQ im0 fB [] w v mA Ew Cc cQ w1 u) (hi:xK mA Ew (afn aD) [] v=afo (v',news,seen')): ∃dJ bc,VR dJ bc r.v u/\qX im loc aD w r dJ bc w1:=by
 have qm: ∀b,b<w.heap.size->w1.heap[b]? =w.heap[b]?:=fun b hb=>hp.frame b hb fun t li k h=>by cases h
 obtain ⟨HF,ts,h1,h2⟩:=OV (fun t li hl=>hp.sr.cS t li hl) hp.vr hi
 let pk:Loc:=fun t=>if t<(afn aD) then loc t else match HF[t-(afn aD)]? with
  |some li=>afo li
  |none=>loc t
 have zm: ∀(j:Nat) (li:LI),HF[j]? =afo li->pk (afn aD+j)=afo li:=by intro j li hj;simp only [pk];rw [ut (by omega),show (afn aD)+j-(afn aD)=j by omega,hj]
 have kC:kQ loc pk:=by
  intro t li hl;simp only [pk];split
  · exact hl
  rename_i dz
  split
  · rename_i l2 Hs
    have hj:=(EQ.1 Hs).1;have:=hk.fresh (t-(afn aD)) (by rw [hn,<- h1.F8];exact hj);rw [show (afn aD)+(t-(afn aD))=t by omega,hl] at this;cases this
  exact hl
 have hli: ∀(j:Nat) (k:iZ),news[j]? =afo k-> ∃li,HF[j]? =afo li:=by intro j k hj;have:=(EQ.1 hj).1;exact ⟨_,v4 (by rw [h1.F8];exact this)⟩
 have hts: ∀(j:Nat) (k:iZ),news[j]? =afo k->k.bC=afA-> ∃t,ts[j]? =afo (afo t):=by
  intro j k hj hs;have dz:=(EQ.1 hj).1;cases hg:ts[j]? with
  |none=>have:=List.getElem?_eq_none_iff.1 hg;have:=h1.Hk;omega
  |some x=>
   cases x with
   |some t=>exact ⟨t,rfl⟩
   |none=>rw [h1.dum j k hj hg] at hs;cases hs
 refine ⟨im,pk,by rw [hr];exact h2 im pk zm,?_⟩;exact {
  fO:= .refl _,dy:=kC
  bA:=fun b o h=>by have h1:=hk.bA b o h;have dz:b<w.heap.size:=(NE.1 h1).1;rw [qm b dz];exact h1
  dC:=fun _ _ h=> .inl h
  os:=hp.os,tape:=hp.tape,output:=hp.output,size:=hp.size
  frame:=fun b hb _=>qm b hb
  MX:=fun t k h=>by rw [hw] at h;cases h
  wr:=fun t k li h=>by rw [hw] at h;cases h
  jN:=fun t li h=>by
   simp only [pk] at h;split at h
   · exact .inl h
   rename_i dz
   split at h
   · rename_i l2 Hs
     have hj:=(EQ.1 Hs).1;exact .inr ⟨by omega,by rw [hn,<- h1.F8];omega⟩
   exact .inl h
  news:=Az fun j k hj=>by
   rw [hn] at hj;obtain ⟨li,hl⟩:=hli j k hj;obtain ⟨⟨e,rows,rfl⟩,qQ⟩:=h1.br j k li hj hl;refine ⟨li,zm j li hl,qQ,fun hs=>?_⟩;obtain ⟨t,ht⟩:=hts j _ hj hs;obtain ⟨a1,a2,a3,_,_⟩:=h1.own j _ li t hj hl ht;have Yp:w.heap.size<=li.cS:=by
    rcases hp.own t li _ a1 a2 hs with h|⟨u,lu,ku,h,_⟩
    · exact h
    cases h
   refine ⟨?_,.inl Yp⟩;cases hb:im li.cS with
   |none=>rfl
   |some o=>have:=(NE.1 (hk.bA _ _ hb)).1;omega
  distinct:=fun i j ki kj li lj pE hj' RU Ng aiR aiS Om=>by rw [hn] at pE hj';obtain ⟨l1,Lz⟩:=hli i ki pE;obtain ⟨l2,Hs⟩:=hli j kj hj';have e1:=zm i l1 Lz;have e2:=zm j l2 Hs;rw [aiR] at e1;rw [aiS] at e2;injection e1 with e1;injection e2 with e2;subst e1 e2;obtain ⟨t1,ht1⟩:=hts i ki pE RU;obtain ⟨t2,ht2⟩:=hts j kj hj' Ng;obtain ⟨a1,a2,_⟩:=h1.own i ki li t1 pE Lz ht1;obtain ⟨b1,b2,_⟩:=h1.own j kj lj t2 hj' Hs ht2;have:=hp.sr.gL t1 t2 li lj ki kj a1 b1 a2 b2 RU Ng Om;subst this;exact h1.inj i j t1 ht1 ht2}
theorem yu {own:Bool} {f:FuncId} {lH:List PV} {tk:List Nat} {r:mh}
 (h:(match rec (.func f lH [] []) with
  |some (.func v s1 z1)=>
   if own then match xK s1 z1 (afn aD) [] v with
    |some (v',n2,_)=>afo {v:=v',news:=n2,rd:=tk}
    |none=>afp
   else if v.jx then afo {v,rd:=tk}
   else match wT s1 v with
    |some v'=>afo {v:=v',rd:=tk,fr:=tk}
    |none=>afp
  |_=>afp)=afo r):r.rd=tk:=by
 split at h
 · split at h
   · split at h
     · injection h with h;subst h;rfl
     cases h
   split at h
   · injection h with h;subst h;rfl
   split at h
   · injection h with h;subst h;rfl
   cases h
 cases h
theorem vO (CJ:AI P rec) {own:Bool} {f:FuncId} {lH:List PV} {tk:List Nat} {r:mh} {us:List Value}
 (h:(match rec (.func f lH [] []) with
  |some (.func v s1 z1)=>
   if own then match xK s1 z1 (afn aD) [] v with
    |some (v',n2,_)=>afo {v:=v',news:=n2,rd:=tk}
    |none=>afp
   else if v.jx then afo {v,rd:=tk}
   else match wT s1 v with
    |some v'=>afo {v:=v',rd:=tk,fr:=tk}
    |none=>afp
  |_=>afp)=afo r) (ha:eh (grow im w (yr loc aD tk)) fB lH us) (hk:ik im loc aD w r):
 rV P f ⟨us⟩ w fun u w'=> ∃dJ bc,VR dJ bc r.v u/\qX im loc aD w r dJ bc w':=by
 cases hr:rec (.func f lH [] []) with
 |none=>rw [hr] at h;cases h
 |some o=>
  rw [hr] at h;cases o with
  |code e st=>cases h
  |func v s1 z1=>
   dsimp only at h;refine (CJ f lH [] [] v s1 z1 hr _ fB w us (SR.empty (LG hk.bA)) ha).mono fun u w' hq=>?_
   obtain ⟨Cc,cQ,hp⟩:=hq;split at h
   · cases Zi:xK s1 z1 (afn aD) [] v with
     |none=>rw [Zi] at h;cases h
     |some q2=>obtain ⟨v',n2,s2⟩:=q2;rw [Zi] at h;simp only [ww] at h;subst h;exact LK hk rfl rfl rfl hp Zi
   split at h
   · rename_i hno
     simp only [ww] at h;subst h;exact Nf hk rfl rfl rfl hno hp
   cases hif:wT s1 v with
   |none=>rw [hif] at h;cases h
   |some v'=>rw [hif] at h;simp only [ww] at h;subst h;exact OW rfl rfl rfl rfl hp hif
theorem Ga (CJ:AI P rec) (zt:w5 P F) {own:Bool} {f:FuncId} {args:List PV} {fz:List Nat} {r:mh} {us:List Value}
 (h:cW F rec own f args aD fz=afo r) (ha:eh im loc args us) (hk:ik im loc aD w r):
 rV P f ⟨us⟩ w fun u w'=> ∃dJ bc,VR dJ bc r.v u/\qX im loc aD w r dJ bc w':=by
 have aiU: ∀(rd:List Nat),(∀b o,im b=afo o->w.heap[b]? =afo o)-> ∀b o,grow im w (yr loc aD rd) b=afo o->w.heap[b]? =afo o:=fun rd h=>LG h
 have JP: ∀(lH:List PV),As aD (vw aD deep) args=afo lH->(∀t,t∈dd (cP aD deep) args-> ∀li,loc t=afo li-> ∃k,aD[t]? =afo k/\BR im loc w li k)->(∀b o,im b=afo o->w.heap[b]? =afo o)->
  eh (grow im w (yr loc aD (dd (cP aD deep) args))) fB lH us:=by
  intro lH hx aiV yg;refine vN (w:=w) (F6 _ _ _) (fun t=>LH (F6 _ _ _) deep t) (fun t ht li hl=>?_) ha hx;obtain ⟨k,gI,qQ⟩:=aiV t ht li hl;exact ⟨k,gI,qQ,fun hs=>RR yg (yt.2 ⟨t,li,k,ht,hl,gI,hs,rfl⟩)⟩
 unfold cW at h;cases hx:As aD (vw aD deep) args with
 |none=>rw [hx] at h;cases h
 |some lH=>
  rw [hx] at h;dsimp only at h;cases hF:F f with
  |none=>rw [hF] at h;dsimp only at h;have ED:r.rd=dd (cP aD deep) args:=yu h;exact vO CJ h (JP lH hx (fun t ht=>hk.tok t (.inl (by rw [ED];exact ht))) hk.bA) hk
  |some en=>
   rw [hF] at h;cases en with
   |jf Lu p=>
    dsimp only at h;obtain ⟨rfl,hpo⟩:=zt.1 f Lu p hF;cases OX:p lH with
    |none=>rw [OX] at h;cases h
    |some q=>
     obtain ⟨v,news⟩:=q;rw [OX] at h;dsimp only at h;cases Zi:xK news [] (afn aD) [] v with
     |none=>rw [Zi] at h;cases h
     |some q2=>
      obtain ⟨v',n2,s2⟩:=q2;rw [Zi] at h;simp only [PP,if_false,ww] at h;subst h;refine (hpo lH v news OX _ w us (SR.empty (aiU _ hk.bA)) (JP lH hx (fun t ht=>hk.tok t (.inl ht)) hk.bA)).mono fun u w' hq=>?_
      obtain ⟨Cc,cQ,hp⟩:=hq;exact LK hk rfl rfl rfl hp Zi
   |code x=>dsimp only at h;have ED:r.rd=dd (cP aD deep) args:=yu h;exact vO CJ h (JP lH hx (fun t ht=>hk.tok t (.inl (by rw [ED];exact ht))) hk.bA) hk
   |MU x=>dsimp only at h;have ED:r.rd=dd (cP aD deep) args:=yu h;exact vO CJ h (JP lH hx (fun t ht=>hk.tok t (.inl (by rw [ED];exact ht))) hk.bA) hk
end
end Go.Vm
/- A call that works on the blocks that its arguments lead to, numbered anew: what it does to the memory. -/
namespace Go.Vm
theorem fQ {α:Type} {l:List α} {i:Nat} {x:α} (h:l[i]? =afo x):i<(afn l):=(EQ.1 h).1
theorem AJ: ∀{l:List Nat} {t:Nat},t∈ni l↔t∈l
 | [],t=>by simp [ni]
 |a::r,t=>by
  rw [ni];split
  · rename_i h
    rw [AJ];have:=ob.1 h;constructor
    · exact fun h=>by simp [h]
    intro h
    rcases aer.1 h with h|h
    · subst h;exact this
    exact h
  simp [AJ]
theorem rf: ∀{l:List Nat},(ni l).Nodup
 | []=>by simp [ni]
 |a::r=>by
  rw [ni];split
  · exact rf
  rename_i h
  rw [List.nodup_cons];exact ⟨fun hm=>h (ob.2 (AJ.1 hm)),rf⟩
theorem CQ: ∀{a b:bY},tD a b=afA-> ∀(i:Nat) (x:iZ),a[i]? =afo x-> ∃y,b[i]? =afo y/\x.bC=y.bC
 | [],_,_,i,x,h=>by simp at h
 |c::r,d::q,hf,i,x,h=>by
  simp only [tD,v6] at hf;cases i with
  |zero=>simp at h;subst h;refine ⟨d,rfl,?_⟩;have:=hf.1;split at this<;>first|(rename_i h1 h2;rw [h1,h2])|cases this
  |succ i=>simpa using CQ hf.2 i x (by simpa using h)
 |_::_,[],hf,_,_,_=>by cases hf
theorem CR {g:Nat->Nat}: ∀{tk:List Nat} {s:bY} {t:Nat} {k:iZ},(t,k)∈nk g tk s↔ ∃(i:Nat) (b:iZ),tk[i]? =afo t/\s[i]? =afo b/\k=xL g b
 | [],s,t,k=>by simp [nk]
 |a::r,[],t,k=>by simp [nk]
 |a::r,b::s,t,k=>by
  simp only [nk,aer,IR,CR];constructor
  · rintro (⟨rfl,rfl⟩|⟨i,c,h1,h2,h3⟩)
    · exact ⟨0,b,rfl,rfl,rfl⟩
    exact ⟨i+1,c,by simpa using h1,by simpa using h2,h3⟩
  rintro ⟨i,c,h1,h2,h3⟩
  cases i with
  |zero=>simp at h1 h2;subst h1;subst h2;exact .inl ⟨rfl,h3⟩
  |succ i=>exact .inr ⟨i,c,by simpa using h1,by simpa using h2,h3⟩
theorem EZ {g:Nat->Nat}: ∀(s:bY) (i:Nat),(zh g s)[i]? =(s[i]?).map (xL g)
 | [],i=>by simp [zh]
 |b::r,0=>by simp [zh]
 |b::r,i+1=>by simpa [zh] using EZ r i
theorem zu {g:Nat->Nat}: ∀(s:bY),(zh g s).length=afn s
 | []=>rfl
 |b::r=>by simp [zh,zu r]
section
variable {P : Program} {F : kW} {rec : Task -> Option Out} {im : Im} {loc : Loc} {aD : bY} {w : World} {tk : List Nat} {g : Nat -> Nat} {l1 l2 : Loc}
mutual
theorem VR.xO: ∀{x:PV} {v:Value},VR im l1 x v->(∀u,u∈hG qO x-> ∀li,l1 u=afo li->l2 (g u)=afo li)->VR im l2 (Au g x) v
 |_,_,.undef v,_=> .undef v
 |_,_,.iB,_=> .iB
 |_,_,.int k n,_=> .int k n
 |_,_,.bool b,_=> .bool b
 |_,_,.str s,_=> .str s
 |_,_,.agg cs vs h,hg=> .agg _ vs (eh.xO h (fun u hu=>hg u (by simpa [hG] using hu)))
 |_,_,.cj cs vs h,hg=> .cj _ vs (eh.xO h (fun u hu=>hg u (by simpa [hG] using hu)))
 |_,_,.sl esz pf rows a cap hc hk h,_=> .sl esz pf rows a cap hc hk h
 |_,_,.own t esz off len cap ex li a cI h1 h2 h3 h4 h5 h6 h7,hg=> .own _ esz off len cap ex li a cI (hg _ (by simp [hG]) _ h1) h2 h3 h4 h5 h6 h7
 |_,_,.ptr t esz row off li h1 h2 h3,hg=> .ptr _ esz row off li (hg _ (by simp [hG]) _ h1) h2 h3
 |_,_,.bw cs off b o vs h hv,hg=> .bw _ off b o vs (eh.xO h (fun u hu=>hg u (by simpa [hG] using hu))) hv
 |_,_,.mp t li h,hg=> .mp _ li (hg _ (by simp [hG]) _ h)
 |_,_,.ef fn a b as bs ha hb,hg=> .ef fn _ _ as bs (eh.xO ha (fun u hu=>hg u (by simp [hG,hu]))) (eh.xO hb (fun u hu=>hg u (by simp [hG,hu])))
 |_,_,.dw,_=> .dw
theorem eh.xO: ∀{x:List PV} {v:List Value},eh im l1 x v->(∀u,u∈dd qO x-> ∀li,l1 u=afo li->l2 (g u)=afo li)->eh im l2 (uT g x) v
 |_,_,.nil,_=> .nil
 |_,_,.cons x v xs vs h hs,hg=> .cons _ v _ vs (VR.xO h (fun u hu=>hg u (by simp [dd,hu]))) (eh.xO hs (fun u hu=>hg u (by simp [dd,hu])))
end
theorem VR.Au {x:PV} {v:Value} (hg: ∀u,u∈hG qO x-> ∀li,l1 u=afo li->l2 (g u)=afo li) (h:VR im l1 x v):VR im l2 (Vm.Au g x) v:=h.xO hg
theorem eh.Au {x:List PV} {v:List Value} (hg: ∀u,u∈dd qO x-> ∀li,l1 u=afo li->l2 (g u)=afo li) (h:eh im l1 x v):eh im l2 (uT g x) v:=h.xO hg
theorem zw: ∀(x:List PV),(uT g x).length=afn x
 | []=>rfl
 |x::xs=>by simp [uT,zw xs]
theorem BR.Au {li:LI} {k:iZ} (hg: ∀u,u∈pH k-> ∀li,l1 u=afo li->l2 (g u)=afo li) (h:BR im l1 w li k):BR im l2 w li (xL g k):=by
 cases k with
 |arr e rows=>exact h
 |box cs=>obtain ⟨a1,a2,a3,vs,el,a4,a5,a6⟩:=h;exact ⟨by rw [zw];exact a1,a2,a3,vs,el,a4,a5,a6.Au hg⟩
 |map es=>exact h
 |dead=>trivial
theorem vP (k:iZ):(xL g k).bC=k.bC:=by cases k<;>rfl
theorem JV (CJ:AI P rec) {f:FuncId} {args:List PV} {fz:List Nat} {r:mh} {us:List Value}
 (h:rQ rec f args aD fz=afo r) (ha:eh im loc args us) (hk:ik im loc aD w r):
 rV P f ⟨us⟩ w fun u w'=> ∃dJ bc,VR dJ bc r.v u/\qX im loc aD w r dJ bc w':=by
 unfold rQ at h;have Ex:(ni (dd (cP aD deep) args)).Nodup:=rf;generalize AG:ni (dd (cP aD deep) args)=tk at h Ex;split at h
 · cases h
 rename_i a s0 CS;unfold RC at CS;split at CS
 case isFalse=>cases CS
 rename_i aiW;simp only [ae2,UV] at aiW;split at CS
 case h_2=>cases CS
 rename_i a' s0' hra RI;simp only [ww,IR] at CS;obtain ⟨rfl,rfl⟩:=CS;split at h
 case h_2=>cases h
 rename_i v s hr;unfold Cx at h;split at h
 case isFalse=>cases h
 rename_i OY;injection h with h;obtain ⟨G7,BY⟩:=Aw RI;have hf0:=CQ OY;have kC:(afn tk)<=(afn s):=by
  rcases Nat.eq_zero_or_pos (afn tk) with h0|h0
  · omega
  obtain ⟨y,hy,_⟩:=hf0 (afn tk-1) (s0'[afn tk-1]'(by omega)) (v4 _)
  have:=fQ hy;omega
 let JW:Loc:=fun u=>match tk[u]? with|some t=>loc t|none=>afp
 have CT:Ren tk loc JW:=fun u t hu=>by simp only [JW,hu]
 have hC: ∀u li,JW u=afo li-> ∃t,tk[u]? =afo t/\loc t=afo li:=by
  intro u li hl;simp only [JW] at hl;split at hl
  · rename_i t ht;exact ⟨t,ht,hl⟩
  cases hl
 have OZ: ∀t k,(t,k)∈r.wr↔ ∃(i:Nat) (b:iZ),tk[i]? =afo t/\s[i]? =afo b/\k=xL (jg tk (afn aD)) b:=fun t k=>by rw [<- h];exact CR
 have Zj: ∀u t,tk[u]? =afo t->(t∈r.rd\/ ∃b,(t,b)∈r.wr):=fun u t ht=>by have:=fQ ht;exact .inr ⟨_,(OZ t _).2 ⟨u,_,ht,v4 (by omega),rfl⟩⟩
 have yk: ∀(u t:Nat) (k:iZ),tk[u]? =afo t->s0'[u]? =afo k-> ∃k0:iZ,aD[t]? =afo k0/\k.bC=k0.bC:=fun u t k ht hs=>by obtain ⟨k0,k',g1,g2,g3⟩:=BY u t ht;rw [hs] at g3;injection g3 with g3;subst g3;exact ⟨k0,g1,zj g2⟩
 have hSR:SR im JW s0' [] w:={
  bA:=hk.bA
  cS:=fun u li hl=>by obtain ⟨t,h1,h2⟩:=hC u li hl;obtain ⟨k,gI,qQ⟩:=hk.tok t (Zj u t h1) li h2;obtain ⟨k0,k',g1,g2,g3⟩:=BY u t h1;rw [gI] at g1;injection g1 with g1;subst g1;exact ⟨k',g3,EU CT g2 qQ⟩
  gL:=fun t u li lj k k' hl kV hs sN BZ aiY hb=>by
   obtain ⟨a1,h1,h2⟩:=hC t li hl;obtain ⟨a2,h3,h4⟩:=hC u lj kV;obtain ⟨k0,g1,g2⟩:=yk t a1 k h1 hs;obtain ⟨k0',g1',Yq⟩:=yk u a2 k' h3 sN;have:=hk.gL a1 a2 li lj k0 k0' (Zj t a1 h1) (Zj u a2 h3) h2 h4 g1 g1' (by rw [<- g2];exact BZ) (by rw [<- Yq];exact aiY) hb;subst this;have pw:=aez.1 Ex;obtain ⟨l1,e1⟩:=EQ.1 h1;obtain ⟨l2,e2⟩:=EQ.1 h3;rcases acl t u with h|h|h
   · exact absurd (e1.trans e2.symm) (pw t u l1 l2 h)
   · exact h
   exact absurd (e2.trans e1.symm) (pw u t l2 l1 h)
  free:=fun t li k hl hs BZ _=>by obtain ⟨a1,h1,h2⟩:=hC t li hl;obtain ⟨k0,g1,g2⟩:=yk t a1 k h1 hs;have dz:=fQ h1;exact hk.free a1 _ ((OZ a1 _).2 ⟨t,_,h1,v4 (by omega),rfl⟩) li k0 h2 g1 (by rw [<- g2];exact BZ)}
 refine (CJ f a' s0' [] v s [] hr im JW w us hSR (qW CT ha hra)).mono fun u w' ⟨dJ,HG,hf⟩=>?_
 let bc:Loc:=fun t=>match loc t with
  |some li=>afo li
  |none=>if (afn aD)<=t/\t-(afn aD)<(afn r.news) then HG (t-(afn aD)+afn tk) else afp
 have afe:kQ loc bc:=fun t li hl=>by simp only [bc,hl]
 have EE:(gu (afn tk) v s=afA/\r.news=[])\/(gu (afn tk) v s=afC/\r.news=zh (jg tk (afn aD)) (s.drop (afn tk))):=by
  rw [<- h];cases M9:gu (afn tk) v s with
  |true=>exact .inl ⟨rfl,by simp⟩
  |false=>exact .inr ⟨rfl,by simp⟩
 have aff:gu (afn tk) v s=afC->afn r.news=afn s-(afn tk):=fun h1=>by
  rcases EE with ⟨h2,_⟩|⟨_,h2⟩
  · rw [h1] at h2;cases h2
  rw [h2];simp [zu]
 have aiZ: ∀u li,HG u=afo li->u<(afn s):=fun u li hl=>let ⟨k,gI,_⟩:=hf.sr.cS u li hl;fQ gI
 have O0: ∀j li,bc (afn aD+j)=afo li->j<afn r.news->HG (afn tk+j)=afo li:=fun j li hl hj=>by simp only [bc,hk.fresh j hj] at hl;rw [rc ⟨by omega,by omega⟩] at hl;rw [show (afn aD)+j-(afn aD)+afn tk=afn tk+j by omega] at hl;exact hl
 have hg: ∀u,(u<afn tk\/gu (afn tk) v s=afC)-> ∀li,HG u=afo li->bc (jg tk (afn aD) u)=afo li:=by
  intro u RW li hl;unfold jg;split
  · rename_i t ht
    rcases hf.ma u li hl with h1|h1
    · obtain ⟨t',h2,h3⟩:=hC u li h1
      rw [ht] at h2;injection h2 with h2;subst h2;exact afe _ _ h3
    have:=fQ ht;omega
  rename_i hn
  have hu:(afn tk)<=u:=by simpa using hn
  rcases RW with RW|RW
  · omega
  have dz:=aiZ u li hl;have EE:=aff RW;simp only [bc,hk.fresh (u-(afn tk)) (by omega)];rw [rc ⟨by omega,by omega⟩,show (afn aD)+(u-(afn tk)) -(afn aD)+afn tk=u by omega];exact hl
 have M9: ∀u,gu (afn tk) v s=afA->(u∈hG qO v\/ ∃i b,i<afn tk/\s[i]? =afo b/\u∈pH b)->u<(afn tk):=fun u h1 h2=>by
  unfold gu at h1;have h3:=ae2.1 h1 u (by
   rcases h2 with h2|⟨i,b,g1,g2,g3⟩
   · simp [h2]
   refine ae1.2 (.inr (List.mem_flatMap.2 ⟨b,?_,g3⟩))
   exact List.mem_of_getElem? (i:=i) (by rw [List.getElem?_take];simp [g1,g2]))
  simpa using h3
 have hgv: ∀u,u∈hG qO v-> ∀li,HG u=afo li->bc (jg tk (afn aD) u)=afo li:=fun u hu=>hg u (by
  cases hq:gu (afn tk) v s with
  |true=>exact .inl (M9 u hq (.inl hu))
  |false=>exact .inr rfl)
 have hgb: ∀i b,i<afn tk->s[i]? =afo b-> ∀u,u∈pH b-> ∀li,HG u=afo li->bc (jg tk (afn aD) u)=afo li:=fun i b hi hb u hu=>hg u (by
  cases hq:gu (afn tk) v s with
  |true=>exact .inl (M9 u hq (.inr ⟨i,b,hi,hb,hu⟩))
  |false=>exact .inr rfl)
 have hMC: ∀u t li,tk[u]? =afo t->loc t=afo li->HG u=afo li:=fun u t li ht hl=>hf.dy u li (by simp only [JW,ht];exact hl)
 refine ⟨dJ,bc,by rw [<- h];exact hf.vr.Au hgv,?_⟩;have O1: ∀(j:Nat) (k:iZ),r.news[j]? =afo k-> ∃b,s[afn tk+j]? =afo b/\k=xL (jg tk (afn aD)) b:=fun j k hj=>by
  rcases EE with ⟨_,h0⟩|⟨_,h0⟩
  · rw [h0] at hj;simp at hj
  rw [h0] at hj;simp only [EZ,List.getElem?_drop,Do] at hj;obtain ⟨b,h1,h2⟩:=hj;exact ⟨b,h1,h2.symm⟩
 have RX: ∀t li,HG t=afo li->afn tk<=t-> ∀k,s[t]? =afo k->k.bC=afA->w.heap.size<=li.cS:=by
  intro t li hl ht k hs BZ;rcases hf.own t li k hl hs BZ with h1|⟨u,lu,ku,h1,h2,h3,h4⟩
  · exact h1
  exfalso
  obtain ⟨a1,g1,g2⟩:=hC u lu h1;obtain ⟨y,y1,y2⟩:=hf0 u ku h2;have:=hf.sr.gL u t lu li y k (hMC u a1 lu g1 g2) hl y1 hs (by rw [<- y2];exact h3) BZ h4;subst this;have:=fQ g1;omega
 exact {
  fO:=hf.fO,dy:=afe
  bA:=hf.sr.bA
  dC:=fun b o hb=>by
   rcases hf.dC b o hb with h1|h1|⟨t,li,k,h1,h2,h3,h4⟩
   · exact .inl h1
   · exact .inr (.inl h1)
   exfalso
   obtain ⟨a1,g1,g2⟩:=hC t li h1;obtain ⟨y,y1,y2⟩:=hf0 t k h2;have:=hf.sr.free t li y (hMC t a1 li g1 g2) y1 (by rw [<- y2];exact h3) rfl;rw [h4,hb] at this;cases this
  os:=hf.os,tape:=hf.tape,output:=hf.output,size:=hf.size
  frame:=fun b hb hh=>hf.frame b hb fun t li k hl hs BZ=>by obtain ⟨a1,g1,g2⟩:=hC t li hl;obtain ⟨k0,e1,e2⟩:=yk t a1 k g1 hs;have dz:=fQ g1;exact hh a1 _ li k0 ((OZ a1 _).2 ⟨t,_,g1,v4 (by omega),rfl⟩) g2 e1 (by rw [<- e2];exact BZ)
  MX:=fun t k hm BZ=>by obtain ⟨i,b,g1,g2,rfl⟩:=(OZ t k).1 hm;rw [vP] at BZ;have dz:=fQ g1;have e:=v4 (l:=s0') (i:=i) (by omega);obtain ⟨y,y1,y2⟩:=hf0 i _ e;rw [g2] at y1;injection y1 with y1;subst y1;obtain ⟨k0,e1,e2⟩:=yk i t _ g1 e;exact ⟨k0,e1,by rw [<- e2,y2];exact BZ⟩
  wr:=fun t k li hm hl=>by obtain ⟨i,b,g1,g2,rfl⟩:=(OZ t k).1 hm;obtain ⟨k',gI,qQ⟩:=hf.sr.cS i li (hMC i t li g1 hl);rw [g2] at gI;injection gI with gI;subst gI;exact qQ.Au (hgb i b (fQ g1) g2)
  jN:=fun t li hl=>by
   simp only [bc] at hl;cases G7:loc t with
   |some lj=>rw [G7] at hl;exact .inl hl
   |none=>
    rw [G7] at hl;dsimp only at hl;split at hl
    · rename_i hn
      exact .inr ⟨hn.1,by omega⟩
    cases hl
  news:=fun j k li hj hl=>by
   have JM:j<(afn r.news):=fQ hj;obtain ⟨b,hb,rfl⟩:=O1 j k hj;have G7:=O0 j li hl JM;obtain ⟨k',gI,qQ⟩:=hf.sr.cS _ li G7;rw [hb] at gI;injection gI with gI;subst gI;have hq:gu (afn tk) v s=afC:=by
    rcases EE with ⟨_,h0⟩|⟨h0,_⟩
    · rw [h0] at JM;simp at JM
    exact h0
   refine ⟨qQ.Au (fun u _=>hg u (.inr hq)),fun BZ=>?_⟩;rw [vP] at BZ;exact ⟨hf.sr.free _ li b G7 hb BZ rfl,.inl (RX _ li G7 (by omega) b hb BZ)⟩
  distinct:=fun i j ki kj li lj hi hj RU Ng hli hlj hb=>by obtain ⟨b1,e1,rfl⟩:=O1 i ki hi;obtain ⟨b2,e2,rfl⟩:=O1 j kj hj;rw [vP] at RU Ng;have h1:=O0 i li hli (fQ hi);have h2:=O0 j lj hlj (fQ hj);have:=hf.sr.gL _ _ li lj b1 b2 h1 h2 e1 e2 RU Ng hb;omega}
end
end Go.Vm
/- A region's run in the order of the text, step by step; what a block holds when afo of its operations are done. -/
namespace Go.Vm
structure vQ (F:kW) (rec:Task->Option Out) (ops:List bI) (S:Nat->St) (X:Nat->Option XR):Prop where
 steps: ∀(i:Nat) (o:bI),ops[i]? =afo o->
  (wanted o.guard (S i).env=afo afA/\ ∃x,uU F rec (S i).env (S i).aD (S i).fz o.op=afo x/\x.ok (S i).fz=afA/\X i=afo x/\S (i+1)=x.next o.dst (S i))\/
  (wanted o.guard (S i).env=afo afC/\X i=afp/\S (i+1)={S i with env:=gK o.dst .iB (S i).env})
def xF (x:Option XR) (s:St):Tr:=
 match x with
 |some x=>x.tr (afn s.aD)
 |none=>Tr.idle
def xP (S:Nat->St) (X:Nat->Option XR) (n:Nat):List Tr:=(List.range n).map fun i=>xF (X i) (S i)
theorem JX (S:Nat->St) (X:Nat->Option XR) (n:Nat):xP S X (n+1)=xF (X 0) (S 0)::xP (fun i=>S (i+1)) (fun i=>X (i+1)) n:=by unfold xP;rw [List.range_succ_eq_map];simp [List.map_map,Function.comp_def]
theorem AL {F:kW} {rec:Task->Option Out}: ∀(ops:List bI) (st:St) (tr:List Tr) (jG:St) (Nh:List Tr),kX F rec ops st tr=afo (jG,Nh)->
 ∃S X,S 0=st/\S (afn ops)=jG/\vQ F rec ops S X/\Nh=(xP S X (afn ops)).reverse++tr
 | [],st,tr,jG,Nh,h=>by simp only [kX,ww,IR] at h;obtain ⟨rfl,rfl⟩:=h;exact ⟨fun _=>st,fun _=>afp,rfl,rfl,⟨fun i o h=>by simp at h⟩,by simp [xP]⟩
 |o::l,st,tr,jG,Nh,h=>by
  simp only [kX] at h;have mk: ∀(s1:St) (x:Option XR) (t1:Tr),xF x st=t1->kX F rec l s1 (t1::tr)=afo (jG,Nh)->
   ((wanted o.guard st.env=afo afA/\ ∃y,uU F rec st.env st.aD st.fz o.op=afo y/\y.ok st.fz=afA/\x=afo y/\s1=y.next o.dst st)\/
    (wanted o.guard st.env=afo afC/\x=afp/\s1={st with env:=gK o.dst .iB st.env}))->
   ∃S X,S 0=st/\S (o::l).length=jG/\vQ F rec (o::l) S X/\Nh=(xP S X (o::l).length).reverse++tr:=by
   intro s1 x t1 ht he hs;obtain ⟨S,X,h0,hn,bQ,htr⟩:=AL l s1 (t1::tr) jG Nh he;refine ⟨fun i=>match i with|0=>st|i+1=>S i,fun i=>match i with|0=>x|i+1=>X i,rfl,hn,⟨fun i o' ho=>?_⟩,?_⟩
   · cases i with
     |zero=>
      simp at ho;subst ho;rcases hs with ⟨a,y,b,c,d,e⟩|⟨a,b,c⟩
      · exact .inl ⟨a,y,b,c,d,by rw [<- e];exact h0⟩
      exact .inr ⟨a,b,by rw [<- c];exact h0⟩
     |succ i=>exact bQ.steps i o' (by simpa using ho)
   rw [List.length_cons,JX,htr]
   simp [ht]
  cases hw:wanted o.guard st.env with
  |none=>rw [hw] at h;cases h
  |some b=>
   rw [hw] at h;cases b with
   |false=>exact mk _ afp _ rfl h (.inr ⟨hw,rfl,rfl⟩)
   |true=>
    dsimp only at h;cases hx:uU F rec st.env st.aD st.fz o.op with
    |none=>rw [hx] at h;cases h
    |some x=>
     rw [hx] at h;dsimp only at h;split at h
     · rename_i yg
       exact mk _ (afo x) _ rfl h (.inl ⟨hw,x,hx,yg,rfl,rfl⟩)
     cases h
theorem eN: ∀(wr:List (Nat×iZ)) (s:bY),(fw wr s).length=afn s
 | [],s=>rfl
 |(t,b)::r,s=>by rw [fw,eN r];simp
theorem rW: ∀(wr:List (Nat×iZ)) (s:bY) (t:Nat),(∀k,(t,k)∉wr)->(fw wr s)[t]? =s[t]?
 | [],s,t,_=>rfl
 |(u,b)::r,s,t,h=>by
  rw [fw,rW r _ t (fun k hk=>h k (by simp [hk]))];have:u≠t:=fun e=>h b (by rw [e];simp)
  rw [aeH this]
theorem CU: ∀(wr:List (Nat×iZ)) (s:bY),tF wr=afA-> ∀{t:Nat} {k:iZ},(t,k)∈wr->t<afn s->(fw wr s)[t]? =afo k
 |(u,b)::r,s,hn,t,k,hm,dz=>by
  simp only [tF,v6,ae2,UV] at hn;rw [fw];rcases aer.1 hm with h|h
  · injection h with h1 h2
    subst h1 h2;rw [rW r _ t fun k' hk=>by simpa using hn.1 (t,k') hk];simp [dz]
  exact CU r _ hn.2 h (by simpa using dz)
section
variable {F : kW} {rec : Task -> Option Out} {ops : List bI} {S : Nat -> St} {X : Nat -> Option XR}
def W (X:Nat->Option XR) (i t:Nat):Prop:=
 match X i with
 |some (.loc r)=> ∃k,(t,k)∈r.wr
 |some (.shr ..)=>True
 |none=>False
def FR (X:Nat->Option XR) (i t:Nat):Prop:=
 match X i with
 |some (.loc r)=>t∈r.fr
 |some (.shr _ _ z)=>t∈z
 |none=>False
def zx (S:Nat->St) (X:Nat->Option XR) (n:Nat) (done:Nat->Prop) (t:Nat) (k:iZ):Prop:=
 ∃m,m<=n/\(∀i,i<n->W X i t->(done i↔i<m))/\(∀c,c<n->(S c).aD.length<=t->t<(S (c+1)).aD.length->c<m)/\(S m).aD[t]? =afo k
theorem LL {e:Env} {aD:bY} {fz:List Nat} {op:jL} {v:PV} {s:bY} {z:List Nat} (h:uU F rec e aD fz op=afo (.shr v s z)):(afn aD)<=afn s/\ ∀t,t∈fz->t∈z:=by
 have key: ∀{f:FuncId} {args:List PV},fj rec f args aD fz=afo (.shr v s z)->afn aD<=afn s/\ ∀t,t∈fz->t∈z:=by
  intro f args h;unfold fj at h;split at h
  · split at h
    · rename_i hc
      simp only [v6,aex,ae2] at hc;simp only [ww,XR.shr.injEq] at h;obtain ⟨rfl,rfl,rfl⟩:=h;exact ⟨hc.1,fun t ht=>ob.1 (hc.2 t ht)⟩
    cases h
  cases h
 cases op with
 |call m f args=>
  cases m with
  |Rp=>simp [uU] at h
  |own=>simp [uU] at h
  |shr=>exact key h
  |fp=>simp [uU] at h
 |uS x args=>
  simp only [uU] at h;split at h
  · split at h
    · exact key h
    simp at h
  cases h
 |_=>simp [uU] at h
theorem vQ.Zk (hr:vQ F rec ops S X) {i:Nat} (hi:i<afn ops):(S i).aD.length<=(S (i+1)).aD.length:=by
 rcases hr.steps i _ (v4 hi) with ⟨_,x,hx,_,_,hn⟩|⟨_,_,hn⟩
 · rw [hn]
   cases x with
   |loc r=>simp [XR.next,pK,eN]
   |shr v s z=>exact (LL hx).1
 rw [hn];exact If _
theorem vQ.gx (hr : vQ F rec ops S X) {i j : Nat} (mf : i <= j) (hj : j <= (afn ops)) : (S i).aD.length <= (S j).aD.length := by
  induction j with
  | zero => have : i = 0 := by omega
            subst this; exact If _
  | succ j ih =>
    rcases ae5 mf with h | h
    · subst h; exact If _
    exact adM (ih (by omega) (by omega)) (hr.Zk (by omega))
theorem vQ.same (hr:vQ F rec ops S X) {i t:Nat} (hi:i<afn ops) (hw: ¬W X i t) (ht:t<(S i).aD.length):(S (i+1)).aD[t]? =(S i).aD[t]?:=by
 rcases hr.steps i _ (v4 hi) with ⟨_,x,hx,_,hX,hn⟩|⟨_,_,hn⟩
 · rw [hn]
   cases x with
   |loc r=>simp only [XR.next,pK];rw [M2 (by rw [eN];exact ht)];exact rW _ _ _ fun k hk=>hw (by unfold W;rw [hX];exact ⟨k,hk⟩)
   |shr v s z=>exact absurd (by unfold W;rw [hX];trivial) hw
 rw [hn]
theorem vQ.w8 (hr : vQ F rec ops S X) {m m' t : Nat} (hm : m <= m') (AM : m' <= (afn ops)) (hw : ∀ i, m <= i -> i < m' -> ¬ W X i t) (ht : t < (S m).aD.length) : (S m').aD[t]? = (S m).aD[t]? := by
  induction m' with
  | zero => have : m = 0 := by omega
            subst this; rfl
  | succ j ih =>
    rcases ae5 hm with h | h
    · subst h; rfl
    rw [hr.same (by omega) (hw j (by omega) (by omega)) (aeo ht (hr.gx (by omega) (by omega)))]
    exact ih (by omega) (by omega) fun i h1 h2 => hw i h1 (by omega)
theorem ck {α:Type} {l:List α} {i:Nat} {x:α} (h:l[i]? =afo x):i<(afn l):=(EQ.1 h).1
theorem zx.unique (hr:vQ F rec ops S X) {done:Nat->Prop} {t:Nat} {k k':iZ} (h:zx S X (afn ops) done t k) (h':zx S X (afn ops) done t k'):k=k':=by
 obtain ⟨m,hm,hw,hc,hs⟩:=h;obtain ⟨m',AM,Rw,AD,sN⟩:=h';rcases aeV m m' with h|h
 · have:=hr.w8 h AM (fun i h1 h2 hW=>by
    have a:=hw i (by omega) hW;have b:=Rw i (by omega) hW;have:=a.1 (b.2 h2);omega) (ck hs)
   rw [hs,sN] at this;exact (aeE this).symm
 have:=hr.w8 h hm (fun i h1 h2 hW=>by
  have a:=hw i (by omega) hW;have b:=Rw i (by omega) hW;have:=b.1 (a.2 h2);omega) (ck sN)
 rw [hs,sN] at this;exact aeE this
theorem vQ.O2 (hr:vQ F rec ops S X) {i t:Nat} (hi:i<afn ops) (hd:(ops[i]).dst≠afo t):lk t (S (i+1)).env=lk t (S i).env:=by
 have key: ∀(d:Option Nat) (v:PV) (e:Env),d≠afo t->lk t (gK d v e)=lk t e:=by
  intro d v e h;cases d with
  |none=>rfl
  |some s=>simp only [gK];rw [pM,ut (fun e=>h (by rw [e]))]
 rcases hr.steps i _ (v4 hi) with ⟨_,x,hx,_,hX,hn⟩|⟨_,_,hn⟩
 · rw [hn]
   cases x with
   |loc r=>exact key _ _ _ hd
   |shr v s z=>exact key _ _ _ hd
 rw [hn];exact key _ _ _ hd
theorem vQ.JY (hr : vQ F rec ops S X) {m m' t : Nat} (hm : m <= m') (AM : m' <= (afn ops)) (hd : ∀ i (hi : i < (afn ops)), m <= i -> i < m' -> (ops[i]).dst ≠ afo t) : lk t (S m').env = lk t (S m).env := by
  induction m' with
  | zero => have : m = 0 := by omega
            subst this; rfl
  | succ j ih =>
    rcases ae5 hm with h | h
    · subst h; rfl
    rw [hr.O2 (by omega) (hd j (by omega) (by omega) (by omega))]
    exact ih (by omega) (by omega) fun i hi h1 h2 => hd i hi h1 (by omega)
end
end Go.Vm
/- A region: what holds while afo of its operations are done, and that one more keeps it. -/
namespace Go.Vm
def au (x:bI):List Nat:=(x.op.eu.filterMap fun| .t n=>afo n| .c _=>afp)++(match x.guard with|some (s,_)=>[s]|none=>[])
def sR (ops:Array Oper):Option (Nat×Bool)->Option (Nat×Bool)->Bool
 |none,afp=>afA
 |some (s,b),afo (j,c)=>b==c&&((ops[j]?).bind (·.dst))==afo s
 |_,_=>afC
def pO (P:Program) (prims:FuncId->Bool) (nt:Nat) (ops:Array Oper) (x:bI) (o:Oper):Bool:=
 x.dst==o.dst&&(match x.dst with|some d=>aes d nt|none=>afA)&&sR ops x.guard o.guard&&uW P prims o.type x.op o.op
def pF (X:Nat->Option XR) (i:Nat):Prop:= ∃v s z,X i=afo (.shr v s z)
def fZ (X:Nat->Option XR) (i:Nat):Prop:=
 match X i with
 |some (.loc r)=>r.rd≠[]\/r.fr≠[]\/r.wr≠[]\/r.news≠[]
 |some (.shr ..)=>True
 |none=>False
def A (X:Nat->Option XR) (i t:Nat):Prop:=
 match X i with
 |some (.loc r)=>t∈r.rd\/t∈r.fr
 |_=>False
structure Ord (ops:List bI) (S:Nat->St) (X:Nat->Option XR) (vn:Nat->Nat->Prop):Prop where
 CV: ∀(i j t:Nat) (x y:bI),i<j->ops[i]? =afo x->ops[j]? =afo y->x.dst=afo t->(t∈au y\/y.dst=afo t)->vn i j
 O3: ∀(i j t:Nat) (x y:bI),i<j->ops[i]? =afo x->ops[j]? =afo y->y.dst=afo t->t∈au x->vn i j
 JZ: ∀i j t,i<j->j<afn ops->W X i t->(A X j t\/W X j t)->vn i j
 Zl: ∀i j t,i<j->j<afn ops->A X i t->W X j t->vn i j
 Zm: ∀i j t,i<j->j<afn ops-> ¬pF X i->(S i).aD.length<=t->t<(S (i+1)).aD.length-> ¬pF X j->W X j t->vn i j
 Hi: ∀i j,i<j->j<afn ops->(pF X i/\fZ X j\/fZ X i/\pF X j)->vn i j
 cl: ∀i t,i<afn ops-> ¬pF X i->(A X i t\/W X i t)->t<(S i).aD.length\/ ∀c,i<c->c<afn ops->vn i c
structure Inv (ops:List bI) (S:Nat->St) (X:Nat->Option XR) (im0:Im) (loc0:Loc) (w0:World) (nt:Nat) (done:Nat->Prop) (im:Im) (loc:Loc) (a:Act) (w:World):Prop where
 tm: ∀t,∃m,m<=afn ops/\(∀i x,ops[i]? =afo x->x.dst=afo t->(done i↔i<m))/\VR im loc (lk t (S m).env) (a.tmps.getD t Go.undef)
 bA: ∀b o,im b=afo o->w.heap[b]? =afo o
 tok: ∀t li,loc t=afo li-> ∃k,zx S X (afn ops) done t k/\BR im loc w li k
 gL: ∀t u li lj k k',loc t=afo li->loc u=afo lj->zx S X (afn ops) done t k->zx S X (afn ops) done u k'->k.bC=afA->k'.bC=afA->li.cS=lj.cS->t=u
 free: ∀t li k,loc t=afo li->zx S X (afn ops) done t k->k.bC=afA->t∉(S 0).fz->(∀i,i<afn ops->done i-> ¬FR X i t)->im li.cS=afp
 fresh: ∀i,i<afn ops-> ¬done i-> ∀t,(S i).aD.length<=t->t<(S (i+1)).aD.length->loc t=afp
 fO:mu im0 im
 dy:kQ loc0 loc
 os:w.os=w0.os
 tape:Tape w0 w
 output:w.output=w0.output
 size:w0.heap.size<=w.heap.size
 frame: ∀b,b<w0.heap.size->(∀t li k,loc0 t=afo li->(S 0).aD[t]? =afo k->k.bC=afA->li.cS≠b)->w.heap[b]? =w0.heap[b]?
 dC: ∀b o,im b=afo o->im0 b=afo o\/w0.heap.size<=b\/ ∃t li k,loc0 t=afo li/\(S 0).aD[t]? =afo k/\k.bC=afA/\li.cS=b
 ma: ∀t li,loc t=afo li->loc0 t=afo li\/(S 0).aD.length<=t
 own: ∀t li k,loc t=afo li->zx S X (afn ops) done t k->k.bC=afA->(w0.heap.size<=li.cS\/ ∃u lu ku,loc0 u=afo lu/\(S 0).aD[u]? =afo ku/\ku.bC=afA/\lu.cS=li.cS)
 defers:a.defers=[]
 JG:a.tmps.size=nt
def plus (done:Nat->Prop) (i:Nat):Nat->Prop:=fun j=>done j\/j=i
section
variable {F : kW} {rec : Task -> Option Out} {ops : List bI} {S : Nat -> St} {X : Nat -> Option XR} {vn : Nat -> Nat -> Prop} {im0 : Im} {loc0 : Loc} {w0 : World} {nt : Nat}
  {done : Nat -> Prop} {im : Im} {loc : Loc} {a : Act} {w : World} {i : Nat}
structure Place (ops:List bI) (vn:Nat->Nat->Prop) (done:Nat->Prop) (i:Nat):Prop where
 lt:i<afn ops
 nd: ¬done i
 pre: ∀j,j<afn ops->vn j i->done j
 ef: ∀k,k<afn ops->done k-> ∀j,j<afn ops->vn j k->done j
theorem Place.sS (hp:Place ops vn done i) {k:Nat} (hk:k<afn ops) (h:vn i k): ¬done k:=fun hd=>hp.nd (hp.ef k hk hd i hp.lt h)
theorem Inv.slot (hr:vQ F rec ops S X) (ho:Ord ops S X vn) (hv:Inv ops S X im0 loc0 w0 nt done im loc a w) (hp:Place ops vn done i) {x:bI} (hx:ops[i]? =afo x) {t:Nat} (ht:t∈au x):
 VR im loc (lk t (S i).env) (a.tmps.getD t Go.undef):=by
 obtain ⟨m,hm,hd,nb⟩:=hv.tm t;have Zd: ∀j y,ops[j]? =afo y->y.dst=afo t->(done j↔j<i):=by
  intro j y hy LM;rcases acl j i with h|h|h
  · exact ⟨fun _=>h,fun _=>hp.pre j (ck hy) (ho.CV j i t y x h hy hx LM (.inl ht))⟩
  · subst h;exact ⟨fun hd=>absurd hd hp.nd,fun h=>by omega⟩
  exact ⟨fun HH=>absurd HH (hp.sS (ck hy) (ho.O3 i j t x y h hx hy LM ht)),fun h'=>by omega⟩
 have same:lk t (S i).env=lk t (S m).env:=by
  rcases aeV m i with h|h
  · refine hr.JY h (aev hp.lt) fun j hj h1 h2 qR=>?_
    have a1:=hd j _ (v4 hj) qR;have a2:=Zd j _ (v4 hj) qR;have:=a1.1 (a2.2 h2);omega
  refine (hr.JY h hm fun j hj h1 h2 qR=>?_).symm
  have a1:=hd j _ (v4 hj) qR;have a2:=Zd j _ (v4 hj) qR;have:=a2.1 (a1.2 h2);omega
 rw [same];exact nb
theorem Inv.cur (hr:vQ F rec ops S X) (ho:Ord ops S X vn) (hv:Inv ops S X im0 loc0 w0 nt done im loc a w) (hp:Place ops vn done i) {t:Nat} {li:LI} (hl:loc t=afo li)
 (ht:(A X i t\/W X i t)) {k:iZ} (hc:zx S X (afn ops) done t k):(S i).aD[t]? =afo k:=by
 obtain ⟨m,hm,hw,hcr,hs⟩:=hc;have cy:t<(S i).aD.length:=by
  rcases adZ t (S i).aD.length with h|h
  · exact h
  exfalso
  have hmi:i<m:=by
   rcases adZ i m with h'|h'
   · exact h'
   have:=hr.gx h' (aev hp.lt);have:=ck hs;omega
  have: ∃c,i<=c/\c<m/\(S c).aD.length<=t/\t<(S (c+1)).aD.length:=by
   have hex: ∀d,i+d<=m->t<(S (i+d)).aD.length-> ∃c,i<=c/\c<i+d/\(S c).aD.length<=t/\t<(S (c+1)).aD.length:=by
    intro d
    induction d with
    |zero=>intro _ h2;exact absurd h2 (by simpa using h)
    |succ d ih=>
     intro h1 h2;rcases adZ t (S (i+d)).aD.length with h3|h3
     · obtain ⟨c,c1,c2,c3,c4⟩:=ih (by omega) h3
       exact ⟨c,c1,by omega,c3,c4⟩
     exact ⟨i+d,by omega,by omega,h3,h2⟩
   obtain ⟨c,c1,c2,c3,c4⟩:=hex (m-i) (by omega) (by rw [show i+(m-i)=m by omega];exact ck hs);exact ⟨c,c1,by omega,c3,c4⟩
  obtain ⟨c,c1,c2,c3,c4⟩:=this;have Yu:c<(afn ops):=by omega
  have ai3: ¬done c:=by
   intro hdc;rcases ae5 c1 with e|e
   · subst e;exact hp.nd hdc
   by_cases hsh:pF X i
   · refine hp.sS Yu (ho.Hi i c e Yu (.inl ⟨hsh,?_⟩)) hdc
     rcases hr.steps c _ (v4 Yu) with ⟨_,x,hx,_,hX,hn⟩|⟨_,_,hn⟩
     · unfold fZ;rw [hX]
       cases x with
       |loc r=>refine .inr (.inr (.inr fun EH=>?_));rw [hn] at c4;simp [XR.next,pK,eN,EH] at c4;omega
       |shr v s z=>trivial
     rw [hn] at c4;simp at c4;omega
   rcases ho.cl i t hp.lt hsh ht with h'|h'
   · omega
   exact hp.sS Yu (h' c e Yu) hdc
  have:=hv.fresh c Yu ai3 t c3 c4;rw [hl] at this;cases this
 have Zd: ∀j,j<afn ops->W X j t->(done j↔j<i):=by
  intro j hj hW;rcases acl j i with h|h|h
  · exact ⟨fun _=>h,fun _=>hp.pre j hj (ho.JZ j i t h hp.lt hW ht)⟩
  · subst h;exact ⟨fun hd=>absurd hd hp.nd,fun h=>by omega⟩
  refine ⟨fun HH=>absurd HH (hp.sS hj ?_),fun h'=>by omega⟩
  rcases ht with ht|ht
  · exact ho.Zl i j t h hj ht hW
  exact ho.JZ i j t h hj ht (.inr hW)
 rcases aeV m i with h|h
 · rw [hr.w8 h (aev hp.lt) (fun j h1 h2 hW=>by
    have a1:=hw j (by have:=hp.lt;omega) hW;have a2:=Zd j (by have:=hp.lt;omega) hW;have:=a1.1 (a2.2 h2);omega) (ck hs)]
   exact hs
 rw [<- hr.w8 h hm (fun j h1 h2 hW=>by
  have a1:=hw j (by omega) hW;have a2:=Zd j (by omega) hW;have:=a2.1 (a1.2 h2);omega) cy]
 exact hs
end
end Go.Vm
/- A region: one more operation keeps what holds. -/
namespace Go.Vm
theorem BR.afg {im dJ:Im} {loc bc:Loc} {w w':World} {li:LI} {k:iZ} (h:BR im loc w li k) (hi:mu im dJ) (hl:kQ loc bc)
 (hw:k.bC=afA->w'.heap[li.cS]? =w.heap[li.cS]?):BR dJ bc w' li k:=by
 cases hs:k.bC with
 |true=>exact h.mono hi hl (hw hs)
 |false=>
  cases k with
  |arr e rows=>
   cases rows with
   |nil=>exact ⟨h.1,h.2.1,fun dZ=>absurd rfl dZ⟩
   |cons _ _=>cases hs
  |box _=>cases hs
  |map _=>cases hs
  |dead=>trivial
section
variable {F : kW} {rec : Task -> Option Out} {ops : List bI} {S : Nat -> St} {X : Nat -> Option XR} {vn : Nat -> Nat -> Prop} {im0 : Im} {loc0 : Loc} {w0 : World} {nt : Nat}
  {done : Nat -> Prop} {im : Im} {loc : Loc} {a : Act} {w : World} {i : Nat}
theorem vQ.afh (hr:vQ F rec ops S X) {j:Nat} (hj:j<afn ops): ∀t,t∈(S j).fz->t∈(S (j+1)).fz:=by
 intro t ht;rcases hr.steps j _ (v4 hj) with ⟨_,x,hx,_,_,hn⟩|⟨_,_,hn⟩
 · rw [hn]
   cases x with
   |loc r=>simp only [XR.next];exact aeG _ ht
   |shr v s z=>exact (LL hx).2 t ht
 rw [hn];exact ht
theorem vQ.Cg (hr : vQ F rec ops S X) {m m' : Nat} (h : m <= m') (hm : m' <= (afn ops)) : ∀ t, t ∈ (S m).fz -> t ∈ (S m').fz := by
  induction m' with
  | zero => have : m = 0 := by omega
            subst this; exact fun _ h => h
  | succ j ih =>
    rcases ae5 h with e | e
    · subst e; exact fun _ h => h
    exact fun t ht => hr.afh (by omega) t (ih (by omega) (by omega) t ht)
theorem vQ.Yv (hr:vQ F rec ops S X) {j:Nat} (hj:j<afn ops) {t:Nat} (h:FR X j t):t∈(S (j+1)).fz:=by
 rcases hr.steps j _ (v4 hj) with ⟨_,x,hx,_,hX,hn⟩|⟨_,hX,_⟩
 · rw [hn]
   unfold FR at h;rw [hX] at h;cases x with
   |loc r=>exact aeI _ h
   |shr v s z=>exact h
 unfold FR at h;rw [hX] at h;exact h.elim
theorem afi {j t:Nat} (h:FR X j t):A X j t\/W X j t:=by
 unfold FR at h;unfold A W;cases hX:X j with
 |none=>rw [hX] at h;exact h.elim
 |some x=>
  rw [hX] at h;cases x with
  |loc r=>exact .inl (.inr h)
  |shr v s z=>exact .inr trivial
theorem Inv.CW (hr:vQ F rec ops S X) (ho:Ord ops S X vn) (hp:Place ops vn done i) {t:Nat} (hW:W X i t) (hz:t∉(S i).fz):
 t∉(S 0).fz/\ ∀j,j<afn ops->done j-> ¬FR X j t:=by
 refine ⟨fun h=>hz (hr.Cg (ae0 _) (aev hp.lt) t h),fun j hj hd hf=>?_⟩;rcases acl j i with h|h|h
 · exact hz (hr.Cg h (aev hp.lt) t (hr.Yv hj hf))
 · subst h;exact hp.nd hd
 exact hp.sS hj (ho.JZ i j t h hj hW (afi hf)) hd
theorem Inv.known (hr:vQ F rec ops S X) (ho:Ord ops S X vn) (hv:Inv ops S X im0 loc0 w0 nt done im loc a w) (hp:Place ops vn done i) {r:mh} (hX:X i=afo (.loc r)) (yg:(XR.loc r).ok (S i).fz=afA)
 (hn:(S (i+1)).aD.length=(S i).aD.length+afn r.news):ik im loc (S i).aD w r where
 bA:=hv.bA
 tok:=fun t ht li hl=>by
  obtain ⟨k,hc,qQ⟩:=hv.tok t li hl;refine ⟨k,hv.cur hr ho hp hl ?_ hc,qQ⟩;rcases ht with ht|ht
  · exact .inl (by unfold A;rw [hX];exact .inl ht)
  exact .inr (by unfold W;rw [hX];exact ht)
 free:=fun t k hm li k' hl hs kD=>by
  have hW:W X i t:=by unfold W;rw [hX];exact ⟨k,hm⟩
  simp only [XR.ok,v6,ae2,UV] at yg;have hz:t∉(S i).fz:=iF.1 (yg.1 (t,k) hm);obtain ⟨h0,h1⟩:=Inv.CW hr ho hp hW hz;obtain ⟨k2,hc,_⟩:=hv.tok t li hl;have:=hv.cur hr ho hp hl (.inr hW) hc;rw [hs] at this;injection this with this;subst this;exact hv.free t li k' hl hc kD h0 h1
 fresh:=fun j hj=>hv.fresh i hp.lt hp.nd _ (by omega) (by omega)
 gL:=fun t u li lj k k' ht hu hl kV hs sN kD E0 hb=>by
  have aw: ∀t,(t∈r.rd\/ ∃b,(t,b)∈r.wr)->A X i t\/W X i t:=fun t h=>by
   rcases h with h|h
   · exact .inl (by unfold A;rw [hX];exact .inl h)
   exact .inr (by unfold W;rw [hX];exact h)
  obtain ⟨k1,ze,_⟩:=hv.tok t li hl;obtain ⟨k2,G8,_⟩:=hv.tok u lj kV;have e1:=hv.cur hr ho hp hl (aw t ht) ze;have e2:=hv.cur hr ho hp kV (aw u hu) G8;rw [hs] at e1;injection e1 with e1;subst e1;rw [sN] at e2;injection e2 with e2;subst e2;exact hv.gL t u li lj _ _ hl kV ze G8 kD E0 hb
theorem Inv.zy (hr:vQ F rec ops S X) (ho:Ord ops S X vn) (hv:Inv ops S X im0 loc0 w0 nt done im loc a w) (hp:Place ops vn done i) {x:bI} (hx:ops[i]? =afo x) {r:mh} (hX:X i=afo (.loc r))
 (yg:(XR.loc r).ok (S i).fz=afA) (hS:S (i+1)=(XR.loc r).next x.dst (S i)) {v':Value} {dJ:Im} {bc:Loc} {w':World} (nb:VR dJ bc r.v v') (he:qX im loc (S i).aD w r dJ bc w')
 (qR: ∀d,x.dst=afo d->d<nt):Inv ops S X im0 loc0 w0 nt (plus done i) dJ bc (a.put x.dst v') w':=by
 have cy:(S (i+1)).aD.length=(S i).aD.length+(afn r.news):=by rw [hS];simp [XR.next,pK,eN]
 have p9:=hp.lt;have zl:tF r.wr=afA:=by simp only [XR.ok,v6] at yg;exact yg.2
 have oK:(S (i+1)).aD=fw r.wr (S i).aD++r.news:=by rw [hS];exact pK _ _
 have afj: ∀t k,(t,k)∈r.wr->t<(S i).aD.length->(S (i+1)).aD[t]? =afo k:=by intro t k hm dz;rw [oK,M2 (by rw [eN];exact dz)];exact CU _ _ zl hm dz
 have Zn: ∀j k,r.news[j]? =afo k->(S (i+1)).aD[(S i).aD.length+j]? =afo k:=by intro j k hj;rw [oK,adc (by rw [eN];omega),eN,show (S i).aD.length+j- (S i).aD.length=j by omega];exact hj
 have wlt: ∀t li,loc t=afo li->W X i t->t<(S i).aD.length:=by intro t li hl hW;obtain ⟨k,hc,_⟩:=hv.tok t li hl;exact ck (hv.cur hr ho hp hl (.inr hW) hc)
 have Gb: ∀t k li,(t,k)∈r.wr->loc t=afo li->zx S X (afn ops) (plus done i) t k:=by
  intro t k li hm hl;have hW:W X i t:=by unfold W;rw [hX];exact ⟨k,hm⟩
  have dz:=wlt t li hl hW;refine ⟨i+1,p9,fun j hj LN=>?_,fun c hc h1 h2=>?_,afj t k hm dz⟩
  · rcases acl j i with h|h|h
    · exact ⟨fun _=>by omega,fun _=> .inl (hp.pre j hj (ho.JZ j i t h p9 LN (.inr hW)))⟩
    · subst h;exact ⟨fun _=>by omega,fun _=> .inr rfl⟩
    refine ⟨fun hd=>?_,fun h'=>by omega⟩
    rcases hd with hd|hd
    · exact absurd hd (hp.sS hj (ho.JZ i j t h hj hW (.inr LN)))
    omega
  rcases adZ c (i+1) with h|h
  · exact h
  have:=hr.gx (show i<=c by omega) (by omega);omega
 have w9: ∀j k,r.news[j]? =afo k->zx S X (afn ops) (plus done i) ((S i).aD.length+j) k:=by
  intro j k hj;have JM:=ck hj;refine ⟨i+1,p9,fun q hq hWq=>?_,fun c hc h1 h2=>?_,Zn j k hj⟩
  · rcases acl q i with h|h|h
    · refine ⟨fun _=>by omega,fun _=> .inl ?_⟩
      by_cases hs:pF X q
      ·
       refine hp.pre q hq (ho.Hi q i h p9 (.inl ⟨hs,?_⟩));unfold fZ;rw [hX];exact .inr (.inr (.inr (by intro e;rw [e] at hj;simp at hj)))
      rcases ho.cl q _ hq hs (.inr hWq) with h'|h'
      · have:=hr.gx (show q<=i by omega) (by omega);omega
      exact hp.pre q hq (h' i h p9)
    · subst h;exact ⟨fun _=>by omega,fun _=> .inr rfl⟩
    refine ⟨fun hd=>?_,fun h'=>by omega⟩
    rcases hd with hd|hd
    · exfalso
      by_cases hs:pF X q
      · refine hp.sS hq (ho.Hi i q h hq (.inr ⟨?_,hs⟩)) hd
        unfold fZ;rw [hX];exact .inr (.inr (.inr (by intro e;rw [e] at hj;simp at hj)))
      exact hp.sS hq (ho.Zm i q _ h hq (by rintro ⟨v,s,z,e⟩;rw [hX] at e;cases e) (by omega) (by omega) hs hWq) hd
    omega
  rcases adZ c (i+1) with h|h
  · exact h
  have:=hr.gx (show i+1<=c by omega) (by omega);omega
 have LO: ∀t k,¬W X i t->zx S X (afn ops) done t k->zx S X (afn ops) (plus done i) t k:=by
  intro t k hW hc;obtain ⟨m,hm,h1,h2,h3⟩:=hc;refine ⟨m,hm,fun j hj LN=>?_,h2,h3⟩;have dZ:j≠i:=fun e=>hW (e▸LN)
  have:=h1 j hj LN;exact ⟨fun hd=>this.1 (hd.resolve_right dZ),fun h=> .inl (this.2 h)⟩
 have ah2: ¬pF X i:=by rintro ⟨v,s,z,e⟩;rw [hX] at e;cases e
 have xa: ∀t li,bc t=afo li->(∃j k,t=(S i).aD.length+j/\r.news[j]? =afo k/\loc t=afp)\/loc t=afo li:=by
  intro t li hl;rcases he.jN t li hl with h|⟨h1,h2⟩
  · exact .inr h
  refine .inl ⟨t- (S i).aD.length,r.news[t- (S i).aD.length],by omega,v4 (by omega),?_⟩
  exact hv.fresh i p9 hp.nd t h1 (by omega)
 have old: ∀t li k,loc t=afo li->zx S X (afn ops) (plus done i) t k->k.bC=afA-> ∃k0,zx S X (afn ops) done t k0/\k0.bC=afA/\BR im loc w li k0/\(¬W X i t->k0=k)/\(W X i t->(t,k)∈r.wr):=by
  intro t li k hl hc hs;obtain ⟨k0,Ey,qQ⟩:=hv.tok t li hl
  by_cases hW:W X i t
  · have Zo:=hW
    unfold W at Zo;rw [hX] at Zo;obtain ⟨k2,hm⟩:=Zo;have e:=(Gb t k2 li hm hl).unique hr hc;subst e;obtain ⟨k3,h3,h4⟩:=he.MX t k2 hm hs;have:=hv.cur hr ho hp hl (.inr hW) Ey;rw [h3] at this;injection this with this;subst this;exact ⟨k3,Ey,h4,qQ,fun h=>absurd hW h,fun _=>hm⟩
  have e:=(LO t k0 hW Ey).unique hr hc
  subst e;exact ⟨k0,Ey,hs,qQ,fun _=>rfl,fun h=>absurd h hW⟩
 have Gc: ∀t k li k0,(t,k)∈r.wr->loc t=afo li->(S i).aD[t]? =afo k0->zx S X (afn ops) done t k0:=by intro t k li k0 hm hl hs;obtain ⟨k1,ze,_⟩:=hv.tok t li hl;have:=hv.cur hr ho hp hl (.inr (by unfold W;rw [hX];exact ⟨k,hm⟩)) ze;rw [hs] at this;injection this with this;subst this;exact ze
 have O4: ∀t li k0,t∈r.fr->loc t=afo li->(S i).aD[t]? =afo k0->zx S X (afn ops) done t k0:=by intro t li k0 hm hl hs;obtain ⟨k1,ze,_⟩:=hv.tok t li hl;have:=hv.cur hr ho hp hl (.inl (by unfold A;rw [hX];exact .inr hm)) ze;rw [hs] at this;injection this with this;subst this;exact ze
 refine {
  tm:=fun t=>?_
  bA:=he.bA
  tok:=fun t li hl=>?_
  gL:=fun t u li lj k k' hl kV hc AD hs sN hb=>?_
  free:=fun t li k hl hc hs h0 hf=>?_
  fresh:=fun j hj Ex t h1 h2=>?_
  fO:=hv.fO.trans he.fO
  dy:=hv.dy.trans he.dy
  os:=he.os.trans hv.os
  tape:=he.tape.trans hv.tape
  output:=he.output.trans hv.output
  size:=adM hv.size he.size
  frame:=fun b hb hh=>?_
  dC:=fun b o hb=>?_
  ma:=fun t li hl=>?_
  own:=fun t li k hl hc hs=>?_
  defers:=by cases hd:x.dst<;>simp [Act.put,hv.defers]
  JG:=by cases hd:x.dst<;>simp [Act.put,hv.JG]}
 ·
  by_cases hd:x.dst=afo t
  · refine ⟨i+1,p9,fun j y hy LM=>?_,?_⟩
    · rcases acl j i with h|h|h
      · exact ⟨fun _=>by omega,fun _=> .inl (hp.pre j (ck hy) (ho.CV j i t y x h hy hx LM (.inr hd)))⟩
      · subst h;exact ⟨fun _=>by omega,fun _=> .inr rfl⟩
      refine ⟨fun HH=>?_,fun h'=>by omega⟩
      rcases HH with HH|HH
      · exact absurd HH (hp.sS (ck hy) (ho.CV i j t x y h hx hy hd (.inr LM)))
      omega
    rw [hS]
    simp only [XR.next,hd,gK,pM,if_true,Act.put];have:=qR t hd;simp [hv.JG,this,nb]
  obtain ⟨m,hm,h1,h2⟩:=hv.tm t
  refine ⟨m,hm,fun j y hy LM=>?_,?_⟩
  · have dZ:j≠i:=by intro e;subst e;rw [hx] at hy;injection hy with hy;subst hy;exact hd LM
    have:=h1 j y hy LM;exact ⟨fun HH=>this.1 (HH.resolve_right dZ),fun h=> .inl (this.2 h)⟩
  have:=h2.mono he.fO he.dy
  cases hxd:x.dst with
  |none=>simpa [Act.put] using this
  |some d=>
   have dZ:d≠t:=fun e=>hd (by rw [hxd,e])
   simpa [Act.put,adR,dZ] using this
 ·
  rcases xa t li hl with ⟨j,k,rfl,hj,_⟩|Na
  · obtain ⟨h2,_⟩:=he.news j k li hj hl
    exact ⟨k,w9 j k hj,h2⟩
  obtain ⟨k0,Ey,qQ⟩:=hv.tok t li Na
  by_cases hW:W X i t
  · have Zo:=hW
    unfold W at Zo;rw [hX] at Zo;obtain ⟨k2,hm⟩:=Zo;exact ⟨k2,Gb t k2 li hm Na,he.wr t k2 li hm Na⟩
  refine ⟨k0,LO t k0 hW Ey,qQ.afg he.fO he.dy fun hs=>?_⟩
  refine he.frame _ (qQ.lt hs) fun t2 k2 l2 k3 hm Hs hs3 kD Om=>?_
  have:=hv.gL t2 t l2 li k3 k0 Hs Na (Gc t2 k2 l2 k3 hm Hs hs3) Ey kD hs Om;subst this;exact hW (by unfold W;rw [hX];exact ⟨k2,hm⟩)
 ·
  have O5: ∀t u li lj k k',(∃j k,t=(S i).aD.length+j/\r.news[j]? =afo k/\loc t=afp)->loc u=afo lj->bc t=afo li->zx S X (afn ops) (plus done i) t k->zx S X (afn ops) (plus done i) u k'->
   k.bC=afA->k'.bC=afA->li.cS=lj.cS->False:=by
   intro t u li lj k k' hj hlu hl hc AD hs sN hb;obtain ⟨j,k1,rfl,hj,_⟩:=hj;have e:=(w9 j k1 hj).unique hr hc;subst e;obtain ⟨h2,h3⟩:=he.news j k1 li hj hl;obtain ⟨k0,Ey,Gd,Zp,hk0,hw0⟩:=old u lj k' hlu AD sN;have dz:=Zp.lt Gd;rcases (h3 hs).2 with h|⟨td,lt,kd,hm,hld,hsd,O6,hbd⟩
   · omega
   have:=hv.gL td u lt lj kd k0 hld hlu (Gc td _ lt kd hm hld hsd) Ey O6 Gd (by rw [hbd,hb])
   subst this;have JT:=hw0 (by unfold W;rw [hX];exact ⟨_,hm⟩);have e2:=(Gb td _ lj hm hlu).unique hr (Gb td _ lj JT hlu);subst e2;cases sN
  rcases xa t li hl with h1|h1
  · rcases xa u lj kV with h2|h2
    · obtain ⟨j1,k1,rfl,hj1,_⟩:=h1
      obtain ⟨j2,k2,rfl,hj2,_⟩:=h2;have e1:=(w9 j1 k1 hj1).unique hr hc;have e2:=(w9 j2 k2 hj2).unique hr AD;subst e1 e2;rw [he.distinct j1 j2 k1 k2 li lj hj1 hj2 hs sN hl kV hb]
    exact (O5 t u li lj k k' h1 h2 hl hc AD hs sN hb).elim
  rcases xa u lj kV with h2|h2
  · exact (O5 u t lj li k' k h2 h1 kV AD hc sN hs hb.symm).elim
  obtain ⟨k0,Ey,Gd,_⟩:=old t li k h1 hc hs
  obtain ⟨k1,ze,hs1,_⟩:=old u lj k' h2 AD sN;exact hv.gL t u li lj k0 k1 h1 h2 Ey ze Gd hs1 hb
 ·
  rcases xa t li hl with ⟨j,k1,rfl,hj,_⟩|Na
  · have e:=(w9 j k1 hj).unique hr hc
    subst e;obtain ⟨h2,h3⟩:=he.news j k1 li hj hl;exact (h3 hs).1
  obtain ⟨k0,Ey,Gd,Zp,_,_⟩:=old t li k Na hc hs
  have hn:=hv.free t li k0 Na Ey Gd h0 (fun j hj hd=>hf j hj (.inl hd));cases hb:dJ li.cS with
  |none=>rfl
  |some o=>
   rcases he.dC _ _ hb with h|h|⟨t2,l2,k2,h1,h2,h3,h4,h5⟩
   · rw [hn] at h;cases h
   · have:=Zp.lt Gd;omega
   have hm:=ob.1 h1
   have:=hv.gL t2 t l2 li k2 k0 h2 Na (O4 t2 l2 k2 hm h2 h3) Ey h4 Gd h5;subst this;exact absurd (by unfold FR;rw [hX];exact hm) (hf i p9 (.inr rfl))
 ·
  have RY:j≠i:=fun e=>Ex (.inr e)
  have Zq: ¬done j:=fun h=>Ex (.inl h)
  cases hl:bc t with
  |none=>rfl
  |some li=>
   exfalso;rcases he.jN t li hl with h|⟨h3,h4⟩
   · rw [hv.fresh j hj Zq t h1 h2] at h;cases h
   rcases aeT RY with h|h
   · have:=hr.gx (show j+1<=i by omega) (by omega);omega
   have:=hr.gx (show i+1<=j by omega) (by omega);omega
 ·
  have Rx:b<w.heap.size:=aeo hb hv.size;rw [he.frame b Rx (fun t k li k0 hm hl hs kD Om=>?_)]
  · exact hv.frame b hb hh
  rcases hv.own t li k0 hl (Gc t k li k0 hm hl hs) kD with h|⟨u,lu,ku,h1,h2,h3,h4⟩
  · omega
  exact hh u lu ku h1 h2 h3 (by omega)
 · rcases he.dC b o hb with h|h|⟨t,li,k,h1,h2,h3,h4,h5⟩
   · exact hv.dC b o h
   · exact .inr (.inl (adM hv.size h))
   rcases hv.own t li k h2 (O4 t li k (ob.1 h1) h2 h3) h4 with h|⟨u,lu,ku,g1,g2,g3,g4⟩
   · exact .inr (.inl (by omega))
   exact .inr (.inr ⟨u,lu,ku,g1,g2,g3,by omega⟩)
 · rcases he.jN t li hl with h|⟨h,_⟩
   · exact hv.ma t li h
   exact .inr (adM (hr.gx (ae0 _) (by omega)) h)
 rcases xa t li hl with ⟨j,k1,rfl,hj,_⟩|Na
 · have e:=(w9 j k1 hj).unique hr hc
   subst e;obtain ⟨h2,h3⟩:=he.news j k1 li hj hl;rcases (h3 hs).2 with h|⟨td,lt,kd,hm,hld,hsd,O6,hbd⟩
   · exact .inl (adM hv.size h)
   rcases hv.own td lt kd hld (Gc td _ lt kd hm hld hsd) O6 with h|⟨u,lu,ku,g1,g2,g3,g4⟩
   · exact .inl (by omega)
   exact .inr ⟨u,lu,ku,g1,g2,g3,by omega⟩
 obtain ⟨k0,Ey,Gd,_⟩:=old t li k Na hc hs
 exact hv.own t li k0 Na Ey Gd
end
end Go.Vm
/- A region: a call that works on the blocks themselves, and a skipped operation. -/
namespace Go.Vm
section
variable {F : kW} {rec : Task -> Option Out} {ops : List bI} {S : Nat -> St} {X : Nat -> Option XR} {vn : Nat -> Nat -> Prop} {im0 : Im} {loc0 : Loc} {w0 : World} {nt : Nat}
  {done : Nat -> Prop} {im : Im} {loc : Loc} {a : Act} {w : World} {i : Nat}
theorem E1 {v:PV} {s:bY} {z:List Nat} (hX:X i=afo (.shr v s z)) (t:Nat):W X i t:=by unfold W;rw [hX];trivial
theorem tN {j t:Nat} (h:W X j t):fZ X j:=by
 unfold W at h;unfold fZ;cases hX:X j with
 |none=>rw [hX] at h;exact h.elim
 |some x=>
  rw [hX] at h;cases x with
  |loc r=>obtain ⟨k,hk⟩:=h;exact .inr (.inr (.inl (by intro e;rw [e] at hk;cases hk)))
  |shr v s z=>trivial
theorem Inv.sr (hr:vQ F rec ops S X) (ho:Ord ops S X vn) (hv:Inv ops S X im0 loc0 w0 nt done im loc a w) (hp:Place ops vn done i) {v:PV} {s:bY} {z:List Nat} (hX:X i=afo (.shr v s z)):
 SR im loc (S i).aD (S i).fz w where
 bA:=hv.bA
 cS:=fun t li hl=>by obtain ⟨k,hc,hb⟩:=hv.tok t li hl;exact ⟨k,hv.cur hr ho hp hl (.inr (E1 hX t)) hc,hb⟩
 gL:=fun t u li lj k k' hl kV hs sN h h' hb=>by obtain ⟨k1,ze,_⟩:=hv.tok t li hl;obtain ⟨k2,G8,_⟩:=hv.tok u lj kV;have e1:=hv.cur hr ho hp hl (.inr (E1 hX t)) ze;have e2:=hv.cur hr ho hp kV (.inr (E1 hX u)) G8;rw [hs] at e1;injection e1 with e1;subst e1;rw [sN] at e2;injection e2 with e2;subst e2;exact hv.gL t u li lj _ _ hl kV ze G8 h h' hb
 free:=fun t li k hl hs h hz=>by obtain ⟨k1,ze,_⟩:=hv.tok t li hl;have e1:=hv.cur hr ho hp hl (.inr (E1 hX t)) ze;rw [hs] at e1;injection e1 with e1;subst e1;obtain ⟨h0,h1⟩:=Inv.CW hr ho hp (E1 hX t) (iF.1 hz);exact hv.free t li _ hl ze h h0 h1
theorem Inv.O7 {S:Nat->St} (ho:Ord ops S X vn) (hp:Place ops vn done i) {x:bI} (hx:ops[i]? =afo x) {v:PV} {v':Value} {dJ:Im} {bc:Loc}
 (hv:Inv ops S X im0 loc0 w0 nt done im loc a w) (hi:mu im dJ) (hl:kQ loc bc) (hS:(S (i+1)).env=gK x.dst v (S i).env) (nb:VR dJ bc v v') (qR: ∀d,x.dst=afo d->d<nt):
 ∀t,∃m,m<=afn ops/\(∀j y,ops[j]? =afo y->y.dst=afo t->(plus done i j↔j<m))/\VR dJ bc (lk t (S m).env) ((a.put x.dst v').tmps.getD t Go.undef):=by
 intro t;have p9:=hp.lt
 by_cases hd:x.dst=afo t
 · refine ⟨i+1,p9,fun j y hy LM=>?_,?_⟩
   · rcases acl j i with h|h|h
     · exact ⟨fun _=>by omega,fun _=> .inl (hp.pre j (ck hy) (ho.CV j i t y x h hy hx LM (.inr hd)))⟩
     · subst h;exact ⟨fun _=>by omega,fun _=> .inr rfl⟩
     refine ⟨fun HH=>?_,fun h'=>by omega⟩
     rcases HH with HH|HH
     · exact absurd HH (hp.sS (ck hy) (ho.CV i j t x y h hx hy hd (.inr LM)))
     omega
   rw [hS]
   simp only [hd,gK,pM,if_true,Act.put];have:=qR t hd;simp [hv.JG,this,nb]
 obtain ⟨m,hm,h1,h2⟩:=hv.tm t
 refine ⟨m,hm,fun j y hy LM=>?_,?_⟩
 · have dZ:j≠i:=by intro e;subst e;rw [hx] at hy;injection hy with hy;subst hy;exact hd LM
   have:=h1 j y hy LM;exact ⟨fun HH=>this.1 (HH.resolve_right dZ),fun h=> .inl (this.2 h)⟩
 have:=h2.mono hi hl
 cases hxd:x.dst with
 |none=>simpa [Act.put] using this
 |some d=>
  have dZ:d≠t:=fun e=>hd (by rw [hxd,e])
  simpa [Act.put,adR,dZ] using this
theorem put_defers (a:Act) (d:Option Nat) (v:Value):(a.put d v).defers=a.defers:=by cases d<;>rfl
theorem HI (a:Act) (d:Option Nat) (v:Value):(a.put d v).tmps.size=a.tmps.size:=by cases d<;>simp [Act.put]
theorem Inv.O8 (hr:vQ F rec ops S X) (ho:Ord ops S X vn) (hv:Inv ops S X im0 loc0 w0 nt done im loc a w) (hp:Place ops vn done i) {x:bI} (hx:ops[i]? =afo x) {v:PV} {s:bY} {z:List Nat}
 (hX:X i=afo (.shr v s z)) (hS:S (i+1)=(XR.shr v s z).next x.dst (S i)) {v':Value} {dJ:Im} {bc:Loc} {w':World} (hf:sQ im loc (S i).aD w v s z dJ bc w' v')
 (qR: ∀d,x.dst=afo d->d<nt):Inv ops S X im0 loc0 w0 nt (plus done i) dJ bc (a.put x.dst v') w':=by
 have p9:=hp.lt;have oK:(S (i+1)).aD=s:=by rw [hS];rfl
 have Zr: ∀t li,loc t=afo li-> ∀k,(S i).aD[t]? =afo k->zx S X (afn ops) done t k:=by intro t li hl k hs;obtain ⟨k1,ze,_⟩:=hv.tok t li hl;have e1:=hv.cur hr ho hp hl (.inr (E1 hX t)) ze;rw [hs] at e1;injection e1 with e1;subst e1;exact ze
 have RZ: ∀t k,s[t]? =afo k->zx S X (afn ops) (plus done i) t k:=by
  intro t k hs;refine ⟨i+1,p9,fun j hj LN=>?_,fun c hc h1 h2=>?_,by rw [oK];exact hs⟩
  · rcases acl j i with h|h|h
    · exact ⟨fun _=>by omega,fun _=> .inl (hp.pre j hj (ho.Hi j i h p9 (.inr ⟨tN LN,⟨v,s,z,hX⟩⟩)))⟩
    · subst h;exact ⟨fun _=>by omega,fun _=> .inr rfl⟩
    refine ⟨fun hd=>?_,fun h'=>by omega⟩
    rcases hd with hd|hd
    · exact absurd hd (hp.sS hj (ho.Hi i j h hj (.inl ⟨⟨v,s,z,hX⟩,tN LN⟩)))
    omega
  rcases adZ c (i+1) with h|h
  · exact h
  have:=hr.gx (show i+1<=c by omega) (by omega)
  have:=ck hs;rw [oK] at*;omega
 have Ge: ∀t li,bc t=afo li-> ∀k,zx S X (afn ops) (plus done i) t k->s[t]? =afo k:=by intro t li hl k hc;obtain ⟨k1,h1,_⟩:=hf.sr.cS t li hl;have:=hc.unique hr (RZ t k1 h1);subst this;exact h1
 refine {
  tm:=Inv.O7 ho hp hx hv hf.fO hf.dy (by rw [hS];rfl) hf.vr qR
  bA:=hf.sr.bA
  tok:=fun t li hl=>by obtain ⟨k,h1,h2⟩:=hf.sr.cS t li hl;exact ⟨k,RZ t k h1,h2⟩
  gL:=fun t u li lj k k' hl kV hc AD hs sN hb=>hf.sr.gL t u li lj k k' hl kV (Ge t li hl k hc) (Ge u lj kV k' AD) hs sN hb
  free:=fun t li k hl hc hs h0 qm=>by refine hf.sr.free t li k hl (Ge t li hl k hc) hs (iF.2 ?_);have:=qm i p9 (.inr rfl);unfold FR at this;rw [hX] at this;exact this
  fresh:=fun j hj Ex t h1 h2=>?_
  fO:=hv.fO.trans hf.fO
  dy:=hv.dy.trans hf.dy
  os:=hf.os.trans hv.os
  tape:=hf.tape.trans hv.tape
  output:=hf.output.trans hv.output
  size:=adM hv.size hf.size
  frame:=fun b hb hh=>?_
  dC:=fun b o hb=>?_
  ma:=fun t li hl=>?_
  own:=fun t li k hl hc hs=>?_
  defers:=by rw [put_defers];exact hv.defers
  JG:=by rw [HI];exact hv.JG}
 · have RY:j≠i:=fun e=>Ex (.inr e)
   have Zq: ¬done j:=fun h=>Ex (.inl h)
   cases hl:bc t with
   |none=>rfl
   |some li=>
    exfalso;obtain ⟨k,hk,_⟩:=hf.sr.cS t li hl;have dz:=ck hk;rcases hf.ma t li hl with h|h
    · rw [hv.fresh j hj Zq t h1 h2] at h;cases h
    rcases aeT RY with h'|h'
    · have:=hr.gx (show j+1<=i by omega) (by omega);omega
    have:=hr.gx (show i+1<=j by omega) (by omega)
    rw [oK] at this;omega
 · rw [hf.frame b (aeo hb hv.size) fun t li k hl hs kD Om=>?_]
   · exact hv.frame b hb hh
   rcases hv.own t li k hl (Zr t li hl k hs) kD with h|⟨u,lu,ku,g1,g2,g3,g4⟩
   · omega
   exact hh u lu ku g1 g2 g3 (by omega)
 · rcases hf.dC b o hb with h|h|⟨t,li,k,h1,h2,h3,h4⟩
   · exact hv.dC b o h
   · exact .inr (.inl (adM hv.size h))
   rcases hv.own t li k h1 (Zr t li h1 k h2) h3 with h|⟨u,lu,ku,g1,g2,g3,g4⟩
   · exact .inr (.inl (by omega))
   exact .inr (.inr ⟨u,lu,ku,g1,g2,g3,by omega⟩)
 · rcases hf.ma t li hl with h|h
   · exact hv.ma t li h
   exact .inr (adM (hr.gx (ae0 _) (by omega)) h)
 rcases hf.own t li k hl (Ge t li hl k hc) hs with h|⟨u,lu,ku,h1,h2,h3,h4⟩
 · exact .inl (adM hv.size h)
 rcases hv.own u lu ku h1 (Zr u lu h1 ku h2) h3 with h|⟨u',lu',ku',g1,g2,g3,g4⟩
 · exact .inl (by omega)
 exact .inr ⟨u',lu',ku',g1,g2,g3,by omega⟩
theorem Inv.step_skip (_hr:vQ F rec ops S X) (ho:Ord ops S X vn) (hv:Inv ops S X im0 loc0 w0 nt done im loc a w) (hp:Place ops vn done i) {x:bI} (hx:ops[i]? =afo x)
 (hX:X i=afp) (hS:S (i+1)={S i with env:=gK x.dst .iB (S i).env}) (qR: ∀d,x.dst=afo d->d<nt):Inv ops S X im0 loc0 w0 nt (plus done i) im loc (a.put x.dst Go.undef) w:=by
 have p9:=hp.lt;have hnW: ∀t,¬W X i t:=fun t h=>by unfold W at h;rw [hX] at h;exact h
 have oK:(S (i+1)).aD=(S i).aD:=by rw [hS]
 have RZ: ∀t k,zx S X (afn ops) done t k->zx S X (afn ops) (plus done i) t k:=by
  intro t k ⟨m,hm,h1,h2,h3⟩;refine ⟨m,hm,fun j hj LN=>?_,h2,h3⟩;have dZ:j≠i:=fun e=>hnW t (e▸LN)
  have:=h1 j hj LN;exact ⟨fun hd=>this.1 (hd.resolve_right dZ),fun h=> .inl (this.2 h)⟩
 have Ge: ∀t k,zx S X (afn ops) (plus done i) t k->zx S X (afn ops) done t k:=by
  intro t k ⟨m,hm,h1,h2,h3⟩;refine ⟨m,hm,fun j hj LN=>?_,h2,h3⟩;have dZ:j≠i:=fun e=>hnW t (e▸LN)
  have:=h1 j hj LN;exact ⟨fun hd=>this.1 (.inl hd),fun h=>(this.2 h).resolve_right dZ⟩
 refine {
  tm:=Inv.O7 ho hp hx hv (.refl _) (.refl _) (by rw [hS]) .iB qR
  bA:=hv.bA
  tok:=fun t li hl=>let ⟨k,h1,h2⟩:=hv.tok t li hl;⟨k,RZ t k h1,h2⟩
  gL:=fun t u li lj k k' hl kV hc AD hs sN hb=>hv.gL t u li lj k k' hl kV (Ge t k hc) (Ge u k' AD) hs sN hb
  free:=fun t li k hl hc hs h0 qm=>hv.free t li k hl (Ge t k hc) hs h0 fun j hj hd=>qm j hj (.inl hd)
  fresh:=fun j hj Ex t h1 h2=>hv.fresh j hj (fun h=>Ex (.inl h)) t h1 h2
  fO:=hv.fO
  dy:=hv.dy
  os:=hv.os
  tape:=hv.tape
  output:=hv.output
  size:=hv.size
  frame:=hv.frame
  dC:=hv.dC
  ma:=hv.ma
  own:=fun t li k hl hc hs=>hv.own t li k hl (Ge t k hc) hs
  defers:=by rw [put_defers];exact hv.defers
  JG:=by rw [HI];exact hv.JG}
theorem Inv.start {st:St} (h0:S 0=st) (jZ:SR im0 loc0 st.aD st.fz w0) (her:ER im0 loc0 st.env a.tmps) (hd:a.defers=[]) (hn:a.tmps.size=nt) (hr:vQ F rec ops S X):
 Inv ops S X im0 loc0 w0 nt (fun _=>False) im0 loc0 a w0:=by
 subst h0;have dz: ∀t li,loc0 t=afo li->t<(S 0).aD.length:=fun t li hl=>let ⟨k,h,_⟩:=jZ.cS t li hl;ck h
 have cur: ∀t li k,loc0 t=afo li->zx S X (afn ops) (fun _=>False) t k->(S 0).aD[t]? =afo k:=by intro t li k hl ⟨m,hm,h1,h2,h3⟩;rw [<- hr.w8 (ae0 m) hm (fun j _ hj hW=>(h1 j (by omega) hW).2 hj) (dz t li hl)];exact h3
 exact {
  tm:=fun t=>⟨0,ae0 _,fun j y _ _=>⟨fun h=>h.elim,fun h=>by omega⟩,her t⟩
  bA:=jZ.bA
  tok:=fun t li hl=>by obtain ⟨k,h1,h2⟩:=jZ.cS t li hl;refine ⟨k,⟨0,ae0 _,fun j _ _=>⟨fun h=>h.elim,fun h=>by omega⟩,fun c hc h3 h4=>?_,h1⟩,h2⟩;have:=dz t li hl;have:=hr.gx (ae0 c) (by omega);omega
  gL:=fun t u li lj k k' hl kV hc AD=>jZ.gL t u li lj k k' hl kV (cur t li k hl hc) (cur u lj k' kV AD)
  free:=fun t li k hl hc hs hz _=>jZ.free t li k hl (cur t li k hl hc) hs (iF.2 hz)
  fresh:=fun j hj _ t h1 h2=>by
   cases hl:loc0 t with
   |none=>rfl
   |some li=>have:=dz t li hl;have:=hr.gx (ae0 j) (by omega);omega
  fO:= .refl _
  dy:= .refl _
  os:=rfl
  tape:= .refl _
  output:=rfl
  size:=If _
  frame:=fun _ _ _=>rfl
  dC:=fun _ _ h=> .inl h
  ma:=fun _ _ h=> .inl h
  own:=fun t li k hl hc hs=> .inr ⟨t,li,k,hl,cur t li k hl hc,hs,rfl⟩
  defers:=hd
  JG:=hn}
structure Kept (im0:Im) (loc0:Loc) (hJ:bY) (w0:World) (st:St) (im:Im) (loc:Loc) (w:World):Prop where
 sr:SR im loc st.aD st.fz w
 fO:mu im0 im
 dy:kQ loc0 loc
 os:w.os=w0.os
 tape:Tape w0 w
 output:w.output=w0.output
 size:w0.heap.size<=w.heap.size
 frame: ∀b,b<w0.heap.size->(∀t li k,loc0 t=afo li->hJ[t]? =afo k->k.bC=afA->li.cS≠b)->w.heap[b]? =w0.heap[b]?
 dC: ∀b o,im b=afo o->im0 b=afo o\/w0.heap.size<=b\/ ∃t li k,loc0 t=afo li/\hJ[t]? =afo k/\k.bC=afA/\li.cS=b
 ma: ∀t li,loc t=afo li->loc0 t=afo li\/afn hJ<=t
 own: ∀t li k,loc t=afo li->st.aD[t]? =afo k->k.bC=afA->(w0.heap.size<=li.cS\/ ∃u lu ku,loc0 u=afo lu/\hJ[u]? =afo ku/\ku.bC=afA/\lu.cS=li.cS)
theorem Inv.finish (hr : vQ F rec ops S X) (hv : Inv ops S X im0 loc0 w0 nt done im loc a w) (hd : ∀ j, j < (afn ops) -> done j) :
    Kept im0 loc0 (S 0).aD w0 (S (afn ops)) im loc w /\ ER im loc (S (afn ops)).env a.tmps /\ a.defers = [] /\ a.tmps.size = nt := by
  have cur : ∀ t k, zx S X (afn ops) done t k -> (S (afn ops)).aD[t]? = afo k := by
    intro t k ⟨m, hm, h1, h2, h3⟩
    rw [hr.w8 hm (If _) (fun j h4 h5 hW => by have := (h1 j h5 hW).1 (hd j h5); omega) (ck h3)]
    exact h3
  have R0 : ∀ t li k, loc t = afo li -> (S (afn ops)).aD[t]? = afo k -> zx S X (afn ops) done t k := by
    intro t li k hl hs
    obtain ⟨k1, hc, _⟩ := hv.tok t li hl
    have := cur t k1 hc
    rw [hs] at this; injection this with this; subst this; exact hc
  refine ⟨{
    sr := { bA := hv.bA
            cS := fun t li hl => let ⟨k, h1, h2⟩ := hv.tok t li hl; ⟨k, cur t k h1, h2⟩
            gL := fun t u li lj k k' hl kV hs sN => hv.gL t u li lj k k' hl kV (R0 t li k hl hs) (R0 u lj k' kV sN)
            free := fun t li k hl hs kD hz => by
              have hz := iF.1 hz
              refine hv.free t li k hl (R0 t li k hl hs) kD (fun h => hz (hr.Cg (ae0 _) (If _) t h)) fun j hj _ hf => ?_
              exact hz (hr.Cg (show j + 1 <= (afn ops) from hj) (If _) t (hr.Yv hj hf)) }
    fO := hv.fO, dy := hv.dy, os := hv.os, tape := hv.tape, output := hv.output, size := hv.size, frame := hv.frame, dC := hv.dC, ma := hv.ma
    own := fun t li k hl hs => hv.own t li k hl (R0 t li k hl hs) }, fun t => ?_, hv.defers, hv.JG⟩
  obtain ⟨m, hm, h1, h2⟩ := hv.tm t
  rw [hr.JY hm (If _) fun j hj h3 h4 qR => ?_]
  · exact h2
  have := (h1 j _ (v4 hj) qR).1 (hd j hj); omega
end
end Go.Vm
/- One operation of a region, in the model. -/
namespace Go.Vm
theorem AN {P:Program} {o:Oper} {a:Act} {w:World} {f:FuncId} {us:Array Value} {R:Value->World->Prop} {next:Act->World->Prop} {Q:Exit->Act->World->Prop}
 (h:(execOp a.eval o).run P w=(callFunc f us).run P w) (hc:rV P f us w R) (hR: ∀v w',R v w'->next (a.put o.dst v) w'):o.wp P a w next Q:=by
 unfold Oper.wp;rw [h];rcases hc with ⟨v,w',h1,h2⟩|⟨h1,h2⟩
 · rw [h1,Oper.upon_value];exact hR v w' h2
 rw [h1,Oper.upon_enter]
 refine h2.mono fun e w' ⟨v,he,hv⟩=>?_
 subst he;exact hR v w' hv
theorem J0 {im:Im} {loc:Loc} {e:Env} {a:Act} (x:eI) (h: ∀t,x= .t t->VR im loc (lk t e) (a.tmps.getD t Go.undef)) (o:Operand) (hc:bn x o=afA):VR im loc (x.ev e) (a.eval o):=by
 unfold bn at hc;split at hc
 · rename_i n m
   have:n=m:=by simpa using hc
   subst this;exact h n rfl
 · exact F0 hc
 · rename_i f g
   have:f=g:=by simpa using hc
   subst this;exact .ef f [] [] [] [] .nil .nil
 · exact .undef _
 cases hc
section
variable {P : Program} {F : kW} {rec : Task -> Option Out} {ops : List bI} {S : Nat -> St} {X : Nat -> Option XR} {vn : Nat -> Nat -> Prop} {im0 : Im} {loc0 : Loc} {w0 : World} {nt : Nat}
  {done : Nat -> Prop} {im : Im} {loc : Loc} {a : Act} {w : World} {i : Nat} {prims : FuncId -> Bool} {gS : Array Oper}
theorem VR.R1 {v:Value} (h:VR im loc .iB v):v=Go.undef:=by cases h;rfl
theorem tO {r:mh} {d:Option Nat} {st:St}:((XR.loc r).next d st).aD.length=afn st.aD+(afn r.news):=by simp [XR.next,pK,eN]
theorem E2 {x:bI} {o:Oper} {e:Env} {b:Bool} (hc:sR gS x.guard o.guard=afA) (hs: ∀s c,x.guard=afo (s,c)->VR im loc (lk s e) (a.tmps.getD s Go.undef)) (h:wanted x.guard e=afo b):
 Region.wanted o (yielded gS a.tmps)=b:=by
 unfold Region.wanted;cases hg:x.guard with
 |none=>
  rw [hg] at hc h;cases ho:o.guard with
  |none=>simp [wanted] at h;subst h;rfl
  |some q=>rw [ho] at hc;simp [sR] at hc
 |some q=>
  obtain ⟨s,c⟩:=q;rw [hg] at hc h;cases ho:o.guard with
  |none=>rw [ho] at hc;simp [sR] at hc
  |some q'=>
   obtain ⟨j,c'⟩:=q';rw [ho] at hc;simp only [sR,v6,beq_iff_eq] at hc;obtain ⟨rfl,hd⟩:=hc;have hv:=hs s c hg;dsimp only;unfold yielded;rw [hd];simp only [wanted] at h;simp only [Option.bind_some];split at h
   · rename_i b' hl
     rw [hl] at hv;have:=hv.iE;have ht:a.tmps[s]? =afo (.bool b'):=by
      simp only [adV] at this;cases hq:a.tmps[s]? with
      |none=>rw [hq] at this;simp [Go.undef] at this
      |some u=>rw [hq] at this;exact congrArg afo this
     rw [ht];rw [ww] at h;rw [<- h];cases b'<;>cases c<;>rfl
   · rename_i hl
     rw [hl] at hv;have:a.tmps.getD s Go.undef=Go.undef:=hv.R1;injection h with h;subst h;have ht: ∀b',a.tmps[s]?≠afo (.bool b'):=by intro b' hq;simp only [adV,hq,Option.getD_some,Go.undef] at this;cases this
     split
     · rename_i b' hq
       exact absurd hq (ht b')
     rfl
   cases h
structure Gf (P:Program) (F:kW) (rec:Task->Option Out):Prop where
 func:AI P rec
 jf:w5 P F
theorem Inv.wpOp (hE:Gf P F rec) (hr:vQ F rec ops S X) (ho:Ord ops S X vn) (hv:Inv ops S X im0 loc0 w0 nt done im loc a w) (hp:Place ops vn done i) {x:bI} {o:Oper} (hx:ops[i]? =afo x) (Zs:gS[i]? =afo o)
 (hc:pO P prims nt gS x o=afA) {Q:Exit->Act->World->Prop} {K:Act->World->Prop}
 (hK: ∀dJ bc a' w',Inv ops S X im0 loc0 w0 nt (plus done i) dJ bc a' w'->K a' w'):Go.wpOp P gS Q i K a w:=by
 unfold pO at hc;simp only [v6,beq_iff_eq] at hc;obtain ⟨⟨⟨qR,hnt⟩,hg⟩,eH⟩:=hc;have hd: ∀d,x.dst=afo d->d<nt:=by intro d h;rw [h] at hnt;simpa using hnt
 have Yw: ∀t,t∈au x->VR im loc (lk t (S i).env) (a.tmps.getD t Go.undef):=fun t ht=>hv.slot hr ho hp hx ht
 have Ni: ∀y∈x.op.eu,∀o',bn y o'=afA->VR im loc (y.ev (S i).env) (a.eval o'):=by intro y hy o' hco;refine J0 y (fun t ht=>Yw t ?_) o' hco;subst ht;exact aeI _ (List.mem_filterMap.2 ⟨.t t,hy,rfl⟩)
 have hgs: ∀s c,x.guard=afo (s,c)->VR im loc (lk s (S i).env) (a.tmps.getD s Go.undef):=by intro s c h;refine Yw s (aeG _ ?_);rw [h];simp
 unfold Go.wpOp;simp only [Zs];rcases hr.steps i x hx with ⟨hw,xr,fW,yg,hX,hS⟩|⟨hw,hX,hS⟩
 · rw [E2 hg hgs hw]
   simp only [if_true];left;have CX: ∀{own:Bool} {f:FuncId} {args:List PV} {us:List Value} {r:mh},xr= .loc r->cW F rec own f args (S i).aD (S i).fz=afo r->eh im loc args us->
    (execOp a.eval o).run P w=(callFunc f ⟨us⟩).run P w->o.wp P a w K Q:=by
    intro own f args us r hxr hcp xM bQ;subst hxr;have hk:=hv.known hr ho hp hX yg (by rw [hS];exact tO);refine AN bQ (Ga hE.func hE.jf hcp xM hk) fun v' w' ⟨dJ,bc,nb,vj⟩=>?_
    exact hK _ _ _ _ (qR▸hv.zy hr ho hp hx hX yg hS nb vj hd)
   have HJ: ∀{f:FuncId} {args:List PV} {us:List Value},fj rec f args (S i).aD (S i).fz=afo xr->eh im loc args us->
    (execOp a.eval o).run P w=(callFunc f ⟨us⟩).run P w->o.wp P a w K Q:=by
    intro f args us p8 xM bQ;unfold fj at p8;split at p8
    · rename_i v s z CJ
      split at p8
      · injection p8 with p8;subst p8
        refine AN bQ (hE.func f args _ _ v s z CJ im loc w us (hv.sr hr ho hp hX) xM) fun v' w' ⟨dJ,bc,hf⟩=>?_
        exact hK _ _ _ _ (qR▸hv.O8 hr ho hp hx hX hS hf hd)
      cases p8
    cases p8
   have Zt: ∀{r:mh},xr= .loc r->bq (S i).env (S i).aD (S i).fz x.op=afo r->o.wp P a w K Q:=by
    intro r hxr he;subst hxr;have hk:=hv.known hr ho hp hX yg (by rw [hS];exact tO);obtain ⟨nx,w',bc,bQ,hnx,vj⟩:=OP eH Ni he hk;unfold Oper.wp;rw [bQ];rcases hnx with ⟨rfl,hu⟩|⟨v,rfl,nb⟩
    · rw [Oper.upon_skip]
      exact hK _ _ _ _ (qR▸hv.zy hr ho hp hx hX yg hS (by rw [hu];exact .undef _) vj hd)
    rw [Oper.upon_value]
    exact hK _ _ _ _ (qR▸hv.zy hr ho hp hx hX yg hS nb vj hd)
   cases Ru:x.op with
   |call m f args=>
    rw [Ru] at fW eH Ni;have O9: ∃as Rv,o.op= .call {callee:= .value (.func f),args:=as,argTypes:=Rv}/\ec args as.toList=afA:=by
     cases On:o.op with
     |call c=>
      obtain ⟨callee,as,Rv⟩:=c;rw [On] at eH;cases callee with
      |value g=>
       cases g with
       |func g=>simp only [uW,v6,beq_iff_eq] at eH;obtain ⟨⟨rfl,_⟩,h⟩:=eH;exact ⟨as,Rv,rfl,h⟩
       |_=>simp [uW] at eH
      |_=>simp [uW] at eH
     |_=>rw [On] at eH;simp [uW] at eH
    obtain ⟨as,Rv,On,hco⟩:=O9;have hrel:eh im loc (Ct (S i).env args) (as.toList.map a.eval):=lJ (fun y hy=>Ni y (by simpa [jL.eu] using hy)) hco;have bQ:(execOp a.eval o).run P w=(callFunc f ⟨as.toList.map a.eval⟩).run P w:=by
     have:(⟨as.toList.map a.eval⟩:Array Value)=as.map a.eval:=by apply afk;simp
     rw [this];simp [execOp,On,resolve,Act.eval,Deferred.ofValue,invoke]
    cases m with
    |Rp=>simp only [uU,Do] at fW;obtain ⟨r,Nj,O'⟩:=fW;exact CX O'.symm Nj hrel bQ
    |own=>simp only [uU,Do] at fW;obtain ⟨r,Nj,O'⟩:=fW;exact CX O'.symm Nj hrel bQ
    |shr=>exact HJ fW hrel bQ
    |fp=>
     simp only [uU,Do] at fW;obtain ⟨r,Nj,O'⟩:=fW;subst O';have hk:=hv.known hr ho hp hX yg (by rw [hS];exact tO);refine AN bQ (JV hE.func Nj hrel hk) fun v' w' ⟨dJ,bc,nb,vj⟩=>?_
     exact hK _ _ _ _ (qR▸hv.zy hr ho hp hx hX yg hS nb vj hd)
   |uS y args=>
    rw [Ru] at fW eH Ni;have O9: ∃t as Rv,o.op= .call {callee:= .value (.tmp t),args:=as,argTypes:=Rv}/\bn y (.tmp t)=afA/\ec args as.toList=afA:=by
     cases On:o.op with
     |call c=>
      obtain ⟨callee,as,Rv⟩:=c;rw [On] at eH;cases callee with
      |value g=>
       cases g with
       |tmp g=>simp only [uW,v6] at eH;exact ⟨g,as,Rv,rfl,eH.1,eH.2⟩
       |_=>simp [uW] at eH
      |_=>simp [uW] at eH
     |_=>rw [On] at eH;simp [uW] at eH
    obtain ⟨t,as,Rv,On,hcy,hco⟩:=O9;have hrel:eh im loc (Ct (S i).env args) (as.toList.map a.eval):=lJ (fun y hy=>Ni y (by simp [jL.eu,hy])) hco;have hy:=Ni y (by simp [jL.eu]) (.tmp t) hcy;simp only [uU] at fW;split at fW
    · rename_i f p q Pa
      rw [Pa] at hy;generalize hgv:a.eval (.tmp t)=gv at hy;cases hy with
      |ef _ _ _ us vs h1 h2=>
      have jP:=(h1.append hrel).append h2;have bQ:(execOp a.eval o).run P w=(callFunc f ⟨us++as.toList.map a.eval++vs⟩).run P w:=by
       have:(⟨us++as.toList.map a.eval++vs⟩:Array Value)=(⟨us⟩++as.map a.eval)++⟨vs⟩:=by apply afk;simp
       rw [this];simp [execOp,On,resolve,hgv,Deferred.ofValue,invoke]
      split at fW
      · exact HJ fW jP bQ
      rw [Do] at fW
      obtain ⟨r,Nj,O'⟩:=fW;exact CX O'.symm Nj jP bQ
    cases fW
   |_=>rw [Ru] at fW;simp only [uU,Do] at fW;obtain ⟨r,Nj,O'⟩:=fW;exact Zt O'.symm (by rw [Ru];exact Nj)
 rw [E2 hg hgs hw]
 simp only [PP,if_false];exact hK _ _ _ _ (qR▸hv.step_skip hr ho hp hx hX hS hd)
end
end Go.Vm
/- A region, in the order of the text or in a drawn one. -/
namespace Go.Vm
def sT (P:Program) (prims:FuncId->Bool) (nt:Nat) (gS:Array Oper):List bI->List Oper->Bool
 | [],[]=>afA
 |x::xs,o::os=>pO P prims nt gS x o&&sT P prims nt gS xs os
 |_,_=>afC
theorem zz {P:Program} {prims:FuncId->Bool} {nt:Nat} {gS:Array Oper}: ∀{xs:List bI} {os:List Oper},sT P prims nt gS xs os=afA->
 (afn xs)=afn os/\ ∀(i:Nat) (x:bI) (o:Oper),xs[i]? =afo x->os[i]? =afo o->pO P prims nt gS x o=afA
 | [],[],_=>⟨rfl,fun i x o h=>by simp at h⟩
 |x::xs,o::os,h=>by
  simp only [sT,v6] at h;obtain ⟨h1,h2⟩:=zz h.2;refine ⟨by simp [h1],fun i y p hy hp=>?_⟩;cases i with
  |zero=>simp at hy hp;subst hy hp;exact h.1
  |succ i=>exact h2 i y p (by simpa using hy) (by simpa using hp)
 | [],_::_,h=>by simp [sT] at h
 |_::_,[],h=>by simp [sT] at h
def bit (m i:Nat):Bool:=Nat.testBit m i
def lL (iq:List Nat) (j:Nat):List Edge->Option Nat
 | []=>afo 0
 |e::es=>match lL iq j es with
  |some m=>if Region.binds .any e then (if aes e.on j then afo (m|||((iq.getD e.on 0)|||(1<<<e.on))) else afp) else afo m
  |none=>afp
def sU (iq:List Nat):Nat->List Nat->List Oper->Bool
 |_,[],[]=>afA
 |j,m::ms,o::os=>(match lL iq j o.after.toList with|some m'=>m==m'|none=>afC)&&sU iq (j+1) ms os
 |_,_,_=>afC
def sV (i : Nat) (x : bI) (ux : List Nat) : List bI -> List Nat -> Bool
  | [], _ => afA
  | y :: ys, m :: ms => (bit m i || ((match x.dst with
      | some d => !has (au y) d && (match y.dst with | some d' => !(AC d d') | none => afA)
      | none => afA) && (match y.dst with | some d => !has ux d | none => afA))) && sV i x ux ys ms
  | _ :: _, [] => afC
def sW:Nat->List bI->List Nat->Bool
 |_,[],_=>afA
 |i,x::xs,_::ms=>sV i x (au x) xs ms&&sW (i+1) xs ms
 |_,_::_,[]=>afC
def AO (P:Program) (prims:FuncId->Bool) (nt:Nat) (draw:Option (List Nat)) (Zu:List bI) (gS:Array Oper) (flag:Bool):Bool:=
 sT P prims nt gS Zu gS.toList&&match draw with
 |none=>!flag
 |some bf=>flag&&AC (afn bf) (afn Zu)&&sU bf 0 bf gS.toList&&sW 0 Zu bf
section
variable {P : Program} {F : kW} {rec : Task -> Option Out} {ops : List bI} {S : Nat -> St} {X : Nat -> Option XR} {vn : Nat -> Nat -> Prop} {im0 : Im} {loc0 : Loc} {w0 : World} {nt : Nat}
  {done : Nat -> Prop} {im : Im} {loc : Loc} {a : Act} {w : World} {i : Nat} {prims : FuncId -> Bool} {gS : Array Oper}
theorem Ord.text:Ord ops S X (· < ·) where
 CV:=fun _ _ _ _ _ h _ _ _ _=>h
 O3:=fun _ _ _ _ _ h _ _ _ _=>h
 JZ:=fun _ _ _ h _ _ _=>h
 Zl:=fun _ _ _ h _ _ _=>h
 Zm:=fun _ _ _ h _ _ _ _ _ _=>h
 Hi:=fun _ _ h _ _=>h
 cl:=fun _ _ _ _ _=> .inr fun _ h _=>h
theorem CY (hE:Gf P F rec) (hr:vQ F rec ops S X) (hc: ∀(i:Nat) (x:bI) (o:Oper),ops[i]? =afo x->gS[i]? =afo o->pO P prims nt gS x o=afA) (cy:(afn ops)=gS.size)
 {Q:Exit->Act->World->Prop} (hQ: ∀im loc a w,Inv ops S X im0 loc0 w0 nt (fun i=>i<afn ops) im loc a w->Q .normal a w):
 ∀(d n:Nat) (im:Im) (loc:Loc) (a:Act) (w:World),n+d=afn ops->Inv ops S X im0 loc0 w0 nt (fun i=>i<n) im loc a w->wpOps P gS Q (List.range' n d) a w
 |0,n,im,loc,a,w,hn,hv=>by
  have:n=(afn ops):=by omega
  subst this;exact hQ im loc a w hv
 |d+1,n,im,loc,a,w,hn,hv=>by
  rw [List.range'_succ,wpOps_cons];have hx:=v4 (show n<(afn ops) by omega);have ho:=aeA (show n<gS.size by omega);refine Inv.wpOp hE hr Ord.text hv {lt:=by omega,nd:=by omega,pre:=fun j _ h=>h,ef:=fun k _ h1 j _ h2=>by omega} hx ho (hc n _ _ hx ho) fun dJ bc a' w' h'=>?_
  refine CY hE hr hc cy hQ d (n+1) dJ bc a' w' (by omega) ?_;have e:plus (fun i=>i<n) n=fun i=>i<n+1:=by
   funext j;unfold plus;apply propext;omega
  rw [e] at h';exact h'
def R2 (iq:List Nat) (i j:Nat):Prop:=bit (iq.getD j 0) i=afA
theorem tP {iq:List Nat} {j:Nat}: ∀{es:List Edge} {m:Nat},lL iq j es=afo m->(∀e∈es,Region.binds .any e=afA->e.on<j)/\
 ∀i,bit m i=afA-> ∃e∈es,Region.binds .any e=afA/\(e.on=i\/bit (iq.getD e.on 0) i=afA)
 | [],m,h=>by simp only [lL,ww] at h;subst h;exact ⟨fun e h=>(by cases h),fun i h=>by simp [bit] at h⟩
 |e::es,m,h=>by
  simp only [lL] at h;split at h
  · rename_i m' AM
    obtain ⟨h1,h2⟩:=tP AM;split at h
    · rename_i hb
      split at h
      · rename_i dz
        injection h with h;subst h;refine ⟨fun e' Am wW=>?_,fun i hi=>?_⟩
        · rcases aer.1 Am with rfl|Am
          · simpa using dz
          exact h1 e' Am wW
        simp only [bit,Nat.testBit_or,aeF] at hi
        rcases hi with hi|hi|hi
        · obtain ⟨e',Am,h3⟩:=h2 i hi
          exact ⟨e',aet _ Am,h3⟩
        · exact ⟨e,by simp,hb,.inr hi⟩
        refine ⟨e,by simp,hb,.inl ?_⟩
        rw [Nat.one_shiftLeft,Nat.testBit_two_pow] at hi;simpa using hi
      cases h
    rename_i hb
    injection h with h;subst h;refine ⟨fun e' Am wW=>?_,fun i hi=>?_⟩
    · rcases aer.1 Am with rfl|Am
      · exact absurd wW hb
      exact h1 e' Am wW
    obtain ⟨e',Am,h3⟩:=h2 i hi
    exact ⟨e',aet _ Am,h3⟩
  cases h
theorem Bu {iq:List Nat}: ∀{j:Nat} {ms:List Nat} {os:List Oper},sU iq j ms os=afA->afn ms=afn os/\
 ∀(k:Nat) (m:Nat) (o:Oper),ms[k]? =afo m->os[k]? =afo o->lL iq (j+k) o.after.toList=afo m
 |j,[],[],_=>⟨rfl,fun k m o h=>by simp at h⟩
 |j,m::ms,o::os,h=>by
  simp only [sU,v6] at h;obtain ⟨h1,h2⟩:=h;obtain ⟨h3,h4⟩:=Bu h2;refine ⟨by simp [h3],fun k m' o' hm ho=>?_⟩;cases k with
  |zero=>
   simp at hm ho;subst hm ho;split at h1
   · rename_i m2 JT
     have:m=m2:=by simpa using h1
     subst this;exact JT
   cases h1
  |succ k=>have:=h4 k m' o' (by simpa using hm) (by simpa using ho);rw [show j+(k+1)=j+1+k by omega];exact this
 |j,[],_::_,h=>by simp [sU] at h
 |j,_::_,[],h=>by simp [sU] at h
theorem zA {i:Nat} {x:bI} {ux:List Nat}: ∀{ys:List bI} {ms:List Nat},sV i x ux ys ms=afA-> ∀(k:Nat) (y:bI),ys[k]? =afo y->
 bit (ms.getD k 0) i=afA\/((∀d,x.dst=afo d->d∉au y/\y.dst≠afo d)/\ ∀d,y.dst=afo d->d∉ux)
 | [],_,_,k,y,h=>by simp at h
 |z::ys,[],h,k,y,hy=>by simp [sV] at h
 |z::ys,m::ms,h,k,y,hy=>by
  simp only [sV,v6,aeF] at h;obtain ⟨h1,h2⟩:=h;cases k with
  |succ k=>simpa using zA h2 k y (by simpa using hy)
  |zero=>
   simp at hy;subst hy;rcases h1 with h1|⟨h1,h3⟩
   · exact .inl (by simpa using h1)
   refine .inr ⟨fun d hd=>?_,fun d hd=>?_⟩
   · rw [hd] at h1
     simp only [v6,UV] at h1;refine ⟨iF.1 h1.1,fun hz=>?_⟩;rw [hz] at h1;simp at h1
   rw [hd] at h3
   simp only [UV] at h3;exact iF.1 h3
theorem vR: ∀{i0:Nat} {xs:List bI} {ms:List Nat},sW i0 xs ms=afA-> ∀(i j:Nat) (x y:bI),i<j->xs[i]? =afo x->xs[j]? =afo y->
 bit (ms.getD j 0) (i0+i)=afA\/((∀d,x.dst=afo d->d∉au y/\y.dst≠afo d)/\ ∀d,y.dst=afo d->d∉au x)
 |i0,[],_,_,i,j,x,y,_,hx,_=>by simp at hx
 |i0,z::xs,[],h,i,j,x,y,_,hx,_=>by simp [sW] at h
 |i0,z::xs,m::ms,h,i,j,x,y,mf,hx,hy=>by
  simp only [sW,v6] at h;obtain ⟨h1,h2⟩:=h;cases j with
  |zero=>omega
  |succ j=>
   cases i with
   |zero=>simp at hx;subst hx;simpa using zA h1 j y (by simpa using hy)
   |succ i=>have:=vR h2 i j x y (by omega) (by simpa using hx) (by simpa using hy);rw [show i0+(i+1)=i0+1+i by omega];simpa using this
theorem E3 {i:Nat} {t:Tr}: ∀{l:List (Tr×Nat)},FW i t l=afA-> ∀(k:Nat) (b:Tr) (m:Nat),l[k]? =afo (b,m)->t.sI b=afA->bit m i=afA
 | [],_,k,b,m,h,_=>by simp at h
 |(b',m')::r,h,k,b,m,hk,hc=>by
  simp only [FW,v6,aeF,UV] at h;cases k with
  |zero=>
   simp at hk;obtain ⟨rfl,rfl⟩:=hk;rcases h.1 with h1|h1
   · rw [hc] at h1;cases h1
   exact h1
  |succ k=>exact E3 h.2 k b m (by simpa using hk) hc
theorem CZ: ∀{i0:Nat} {l:List (Tr×Nat)},pL i0 l=afA->(∀(i:Nat) (t:Tr) (m:Nat),l[i]? =afo (t,m)->t.cl=afA)/\
 ∀(i j:Nat) (t b:Tr) (m m':Nat),i<j->l[i]? =afo (t,m)->l[j]? =afo (b,m')->t.sI b=afA->bit m' (i0+i)=afA
 |_,[],_=>⟨fun i t m h=>by simp at h,fun i j t b m m' _ h=>by simp at h⟩
 |i0,(t0,m0)::r,h=>by
  simp only [pL,v6] at h;obtain ⟨⟨h1,h2⟩,h3⟩:=h;obtain ⟨h4,h5⟩:=CZ h3;refine ⟨fun i t m hi=>?_,fun i j t b m m' mf hi hj hc=>?_⟩
  · cases i with
    |zero=>simp at hi;obtain ⟨rfl,rfl⟩:=hi;exact h1
    |succ i=>exact h4 i t m (by simpa using hi)
  cases j with
  |zero=>omega
  |succ j=>
   cases i with
   |zero=>simp at hi;obtain ⟨rfl,rfl⟩:=hi;exact E3 h2 j b m' (by simpa using hj) hc
   |succ i=>rw [show i0+(i+1)=i0+1+i by omega];exact h5 i j t b m m' (by omega) (by simpa using hi) (by simpa using hj) hc
theorem C0 {l m:List Nat} {t:Nat} (h1:t∈l) (h2:t∈m):meets l m=afA:=by unfold meets;rw [afb];exact ⟨t,h1,ob.2 h2⟩
theorem Ord.drawn (hr : vQ F rec ops S X) {iq : List Nat} (G9 : (afn iq) = (afn ops)) (hs : sW 0 ops iq = afA) (ho : pL 0 ((xP S X (afn ops)).zip iq) = afA) : Ord ops S X (R2 iq) := by
  obtain ⟨EW, hcz⟩ := CZ ho
  have BY : ∀ i, i < (afn ops) -> ((xP S X (afn ops)).zip iq)[i]? = afo (xF (X i) (S i), iq.getD i 0) := by
    intro i hi
    rw [List.getElem?_zip_eq_some]
    refine ⟨?_, ?_⟩
    · unfold xP; simp [hi]
    rw [aey, v4 (by omega)]; rfl
  have sI : ∀ i j, i < j -> j < (afn ops) -> (xF (X i) (S i)).sI (xF (X j) (S j)) = afA -> R2 iq i j := by
    intro i j mf hj hc
    have := hcz i j _ _ _ _ mf (BY i (by omega)) (BY j hj) hc
    unfold R2; simpa using this
  have tch : ∀ j, fZ X j -> (xF (X j) (S j)).fZ = afA := by
    intro j h
    unfold fZ at h
    unfold xF
    cases hX : X j with
    | none => rw [hX] at h; exact h.elim
    | some x =>
      rw [hX] at h
      cases x with
      | shr v s z => rfl
      | loc r =>
        simp only [XR.tr, Tr.fZ, Bool.or_false]
        rcases h with h | h | h | h
        · cases ED : r.rd with
          | nil => exact absurd ED h
          | cons _ _ => simp
        · cases ED : r.fr with
          | nil => exact absurd ED h
          | cons _ _ => simp
        · cases ED : r.wr with
          | nil => exact absurd ED h
          | cons _ _ => simp
        cases ED : r.news with
        | nil => exact absurd ED h
        | cons _ _ => simp
  have brr : ∀ j, pF X j -> (xF (X j) (S j)).Hi = afA := by
    rintro j ⟨v, s, z, h⟩; rw [h]; rfl
  have tW : ∀ j t, W X j t -> fZ X j := fun j t h => tN h
  have tA : ∀ j t, A X j t -> fZ X j := by
    intro j t h
    unfold A at h; unfold fZ
    cases hX : X j with
    | none => rw [hX] at h; exact h.elim
    | some x =>
      rw [hX] at h
      cases x with
      | shr v s z => exact h.elim
      | loc r =>
        rcases h with h | h
        · exact .inl (by intro e; rw [e] at h; cases h)
        exact .inr (.inl (by intro e; rw [e] at h; cases h))
  have Hi : ∀ i j, i < j -> j < (afn ops) -> (pF X i /\ fZ X j \/ fZ X i /\ pF X j) -> R2 iq i j := by
    intro i j mf hj h
    refine sI i j mf hj ?_
    unfold Tr.sI
    rcases h with ⟨h1, h2⟩ | ⟨h1, h2⟩
    · rw [brr i h1, tch j h2]; simp
    rw [brr j h2, tch i h1]; simp
  have wrT : ∀ j t, W X j t -> ¬ pF X j -> t ∈ (xF (X j) (S j)).wr := by
    intro j t h hn
    unfold W at h
    cases hX : X j with
    | none => rw [hX] at h; exact h.elim
    | some x =>
      rw [hX] at h
      cases x with
      | shr v s z => exact absurd ⟨v, s, z, hX⟩ hn
      | loc r =>
        obtain ⟨k, hk⟩ := h
        exact List.mem_map.2 ⟨(t, k), hk, rfl⟩
  have rdT : ∀ j t, A X j t -> t ∈ (xF (X j) (S j)).rd := by
    intro j t h
    unfold A at h
    cases hX : X j with
    | none => rw [hX] at h; exact h.elim
    | some x =>
      rw [hX] at h
      cases x with
      | shr v s z => exact h.elim
      | loc r => exact ae1.2 h
  exact {
    CV := fun i j t x y mf hx hy hd hu => by
      rcases vR hs i j x y mf hx hy with h | ⟨h, _⟩
      · unfold R2; simpa using h
      rcases hu with hu | hu
      · exact absurd hu (h t hd).1
      exact absurd hu (h t hd).2
    O3 := fun i j t x y mf hx hy hd hu => by
      rcases vR hs i j x y mf hx hy with h | ⟨_, h⟩
      · unfold R2; simpa using h
      exact absurd hu (h t hd)
    JZ := fun i j t mf hj hW hAW => by
      by_cases hi : pF X i
      · exact Hi i j mf hj (.inl ⟨hi, hAW.elim (tA j t) (tW j t)⟩)
      by_cases Ng : pF X j
      · exact Hi i j mf hj (.inr ⟨tW i t hW, Ng⟩)
      refine sI i j mf hj ?_
      unfold Tr.sI
      rcases hAW with h | h
      · rw [C0 (wrT i t hW hi) (rdT j t h)]; simp
      rw [C0 (wrT i t hW hi) (wrT j t h Ng)]; simp
    Zl := fun i j t mf hj hA hW => by
      by_cases Ng : pF X j
      · exact Hi i j mf hj (.inr ⟨tA i t hA, Ng⟩)
      refine sI i j mf hj ?_
      unfold Tr.sI
      rw [C0 (rdT i t hA) (wrT j t hW Ng)]; simp
    Zm := fun i j t mf hj RU h1 h2 Ng hW => by
      refine sI i j mf hj ?_
      unfold Tr.sI
      have : ((xF (X j) (S j)).wr.any fun t => adT (xF (X i) (S i)).lo t && aes t (xF (X i) (S i)).hi) = afA := by
        rw [afb]
        refine ⟨t, wrT j t hW Ng, ?_⟩
        rcases hr.steps i _ (v4 (show i < (afn ops) by omega)) with ⟨_, x, hx, _, hX, hn⟩ | ⟨_, hX, hn⟩
        · cases x with
          | shr v s z => exact absurd ⟨v, s, z, hX⟩ RU
          | loc r =>
            rw [hn, tO] at h2
            rw [hX]
            simp only [xF, XR.tr, v6, aex]
            exact ⟨h1, by simpa using h2⟩
        rw [hn] at h2; dsimp only at h2; omega
      rw [this]; simp
    Hi := Hi
    cl := fun i t hi RU hAW => by
      left
      have hc := EW i _ _ (BY i hi)
      cases hX : X i with
      | none => rcases hAW with h | h
                · unfold A at h; rw [hX] at h; exact h.elim
                unfold W at h; rw [hX] at h; exact h.elim
      | some x =>
        cases x with
        | shr v s z => exact absurd ⟨v, s, z, hX⟩ RU
        | loc r =>
          have hb : ∀ u v : Nat, aes u v = afA -> u < v := fun u v h => by simpa using h
          rw [hX] at hc
          simp only [xF, XR.tr, v6, ae2] at hc
          rcases hAW with h | h
          · unfold A at h; rw [hX] at h
            exact hb _ _ (hc.1 t (ae1.2 h))
          unfold W at h; rw [hX] at h
          obtain ⟨k, hk⟩ := h
          exact hb _ _ (hc.2 (t, k) hk) }
end
end Go.Vm
/- A region: the theorem. -/
namespace Go.Vm
section
variable {P : Program} {F : kW} {rec : Task -> Option Out} {ops : List bI} {S : Nat -> St} {X : Nat -> Option XR} {im0 : Im} {loc0 : Loc} {w0 : World} {nt : Nat}
  {im : Im} {loc : Loc} {a : Act} {w : World} {i : Nat} {prims : FuncId -> Bool} {gS : Array Oper} {iq : List Nat}
def jh (l:Array Bool) (i:Nat):Prop:=l.getD i afC=afA
theorem HK (hE:Gf P F rec) (hr:vQ F rec ops S X) (ho:Ord ops S X (R2 iq)) (hc: ∀(i:Nat) (x:bI) (o:Oper),ops[i]? =afo x->gS[i]? =afo o->pO P prims nt gS x o=afA) (cy:(afn ops)=gS.size)
 (hm: ∀(k:Nat) (o:Oper),gS[k]? =afo o->lL iq k o.after.toList=afo (iq.getD k 0))
 {Q:Exit->Act->World->Prop} (hQ: ∀im loc a w (done:Nat->Prop),(∀i,i<afn ops->done i)->Inv ops S X im0 loc0 w0 nt done im loc a w->Q .normal a w):
 ∀(yv:Nat) (l:Array Bool) (im:Im) (loc:Loc) (a:Act) (w:World),l.size=afn ops->yv+l.toList.count afA=afn ops->(∀k j,jh l k->R2 iq j k->jh l j)->
  Inv ops S X im0 loc0 w0 nt (jh l) im loc a w->wpAny P .any gS Q yv l a w:=by
 have full: ∀l:Array Bool,l.size=afn ops->Region.ready .any gS l=[]-> ∀i,i<afn ops->jh l i:=by
  intro l hl EH i
  induction i using Nat.strongRecOn with
  |_ i ih=>
   intro hi
   by_cases h:jh l i
   · exact h
   exfalso
   have xE:i∈Region.ready .any gS l:=by
    rw [mem_ready];have ho:=aeA (show i<gS.size by omega);refine ⟨?_,_,ho,fun e he hb=>?_⟩
    · unfold jh at h
      have dz:i<l.size:=by omega
      simp [dz] at h ⊢;exact h
    have:=(tP (hm i _ ho)).1 e (by simpa using he) hb
    exact ih e.on this (by omega)
   rw [EH] at xE;cases xE
 intro yv
 induction yv with
 |zero=>
  intro l im loc a w hl afq R3 hv;have pN: ∀b∈l.toList,afA=b:=by
   have:l.toList.count afA=(afn l.toList):=by simp only [Array.length_toList];omega
   exact List.count_eq_length.1 this
  have LQ: ∀i,i<afn ops->jh l i:=by
   intro i hi;have dz:i<l.size:=by omega
   have:=pN (l[i]) (by simp);unfold jh;simp [dz,<- this]
  refine ⟨?_,hQ im loc a w _ LQ hv⟩;cases ED:Region.ready .any gS l with
  |nil=>rfl
  |cons x xs=>
   exfalso;have xE:x∈Region.ready .any gS l:=by rw [ED];simp
   obtain ⟨h0,o,hox,_⟩:=mem_ready.1 xE;have dz:=(NE.1 hox).1;have:=LQ x (by omega);unfold jh at this;have HL:x<l.size:=by omega
   simp [HL] at this h0;rw [this] at h0;cases h0
 |succ yv ih=>
  intro l im loc a w hl afq R3 hv;refine ⟨fun EH=>hQ im loc a w _ (full l hl EH) hv,fun i hi=>?_⟩;obtain ⟨h0,o,hox,pN⟩:=mem_ready.1 hi;have dz:=(NE.1 hox).1;have HL:i<l.size:=by omega
  have hx:=v4 (show i<(afn ops) by omega);have afr: ∀j,R2 iq j i->jh l j:=by
   intro j hj;obtain ⟨e,he,hb,h⟩:=(tP (hm i o hox)).2 j hj;have kC:jh l e.on:=pN e (by simpa using he) hb;rcases h with rfl|h
   · exact kC
   exact R3 _ _ kC h
  have Ex: ¬jh l i:=by unfold jh;simp [HL] at h0 ⊢;exact h0
  refine Inv.wpOp hE hr ho hv {lt:=by omega,nd:=Ex,pre:=fun j _ h=>afr j h,ef:=fun k _ h1 j _ h2=>R3 k j h1 h2} hx hox (hc i _ _ hx hox) fun dJ bc a' w' h'=>?_
  have e:plus (jh l) i=jh (l.setIfInBounds i afA):=by
   funext j
   apply propext;unfold plus jh
   by_cases mf:i=j
   · subst mf;simp [HL]
   simp only [getD_set_ne afC mf]
   exact ⟨fun h=>h.elim id fun h=>absurd h.symm mf,.inl⟩
  rw [e] at h';refine ih _ dJ bc a' w' (by simpa using hl) ?_ ?_ h'
  · rw [Array.toList_setIfInBounds,List.count_set (by simpa using HL)]
    have:l.toList[i]=afC:=by simp [HL] at h0;simpa using h0
    rw [this];simp only [Array.count_toList] at afq ⊢;simp;omega
  intro k j hk hj
  rw [<- e] at hk ⊢;rcases hk with hk|rfl
  · exact .inl (R3 k j hk hj)
  exact .inl (afr j hj)
theorem ER.fh {st:Env} {fh:List Nat} (h:ER im loc st a.tmps):ER im loc (fh.map fun s=>(s,lk s st)) a.tmps:=by
 intro t;have:lk t (fh.map fun s=>(s,lk s st))=lk t st\/lk t (fh.map fun s=>(s,lk s st))= .undef:=by
  induction fh with
  |nil=>exact .inr rfl
  |cons s r ih=>
   simp only [List.map_cons,pM];split
   · rename_i e;subst e;exact .inl rfl
   exact ih
 rcases this with h'|h'
 · rw [h'];exact h t
 rw [h'];exact .undef _
structure u4 (im:Im) (loc:Loc) (nt:Nat) (st:St) (a:Act):Prop where
 env:ER im loc st.env a.tmps
 defers:a.defers=[]
 JG:a.tmps.size=nt
theorem Kept.world {hJ : bY} {st : St} {w1 : World} (h : Kept im0 loc0 hJ w1 st im loc w) (hh : w1.heap = w0.heap) (ho : w1.os = w0.os) (ht : Tape w0 w1) (hp : w1.output = w0.output) : Kept im0 loc0 hJ w0 st im loc w :=
  { sr := h.sr, fO := h.fO, dy := h.dy, os := h.os.trans ho, tape := h.tape.trans ht, output := h.output.trans hp, size := by have := h.size; rw [hh] at this; exact this
    frame := by have := h.frame; rw [hh] at this; exact this
    dC := by have := h.dC; rw [hh] at this; exact this
    ma := h.ma
    own := by have := h.own; rw [hh] at this; exact this }
theorem SR.world {aD:bY} {fz:List Nat} {w1:World} (h:SR im loc aD fz w) (hh:w1.heap=w.heap):SR im loc aD fz w1 where
 bA:=by rw [hh];exact h.bA
 cS:=fun t li hl=>let ⟨k,h1,h2⟩:=h.cS t li hl;⟨k,h1,h2.mono (.refl _) (.refl _) (by rw [hh])⟩
 gL:=h.gL
 free:=h.free
theorem J1 (hE:Gf P F rec) (oL:P.follows .mixedOrders=afA) {draw:Option (List Nat)} {fh:List Nat} {id:Nat} {flag:Bool} {st jG:St}
 (hc:AO P prims nt draw ops gS flag=afA) (fW:jW F rec draw ops fh st=afo jG) (jZ:SR im0 loc0 st.aD st.fz w0) (ha:u4 im0 loc0 nt st a) {Q:Exit->Act->World->Prop}
 (hQ: ∀im loc a' w',Kept im0 loc0 st.aD w0 jG im loc w'->u4 im loc nt jG a'->Q .normal a' w'):(Code.region id gS flag).wp P Q a w0:=by
 unfold AO at hc;simp only [v6] at hc;obtain ⟨Nk,hd⟩:=hc;obtain ⟨cy,R4⟩:=zz Nk;have cy:(afn ops)=gS.size:=by simpa using cy
 have R4: ∀(i:Nat) (x:bI) (o:Oper),ops[i]? =afo x->gS[i]? =afo o->pO P prims nt gS x o=afA:=fun i x o hx ho=>R4 i x o hx (by simpa using ho)
 unfold jW at fW;cases he:kX F rec ops st [] with
 |none=>rw [he] at fW;cases fW
 |some q=>
  obtain ⟨mn,tr⟩:=q;rw [he] at fW;dsimp only at fW;obtain ⟨S,X,h0,hn,hr,htr⟩:=AL ops st [] mn tr he;have fin: ∀(w1:World),w1.heap=w0.heap->w1.os=w0.os->Tape w0 w1->w1.output=w0.output->jG={mn with env:=fh.map fun s=>(s,lk s mn.env)}-> ∀im loc a' w' (done:Nat->Prop),(∀i,i<afn ops->done i)->
   Inv ops S X im0 loc0 w1 nt done im loc a' w'->Q .normal a' w':=by
   intro w1 q1 q2 q3 q4 bR im loc a' w' done hdn hv;obtain ⟨hk,her,hdf,hns⟩:=hv.finish hr hdn;rw [hn] at hk her;rw [h0] at hk;subst bR;have hk:=hk.world q1 q2 q3 q4;exact hQ im loc a' w' {sr:=hk.sr,fO:=hk.fO,dy:=hk.dy,os:=hk.os,tape:=hk.tape,output:=hk.output,size:=hk.size,frame:=hk.frame,dC:=hk.dC,ma:=hk.ma,own:=hk.own} ⟨her.fh,hdf,hns⟩
  cases draw with
  |none=>
   dsimp only at hd fW;have:flag=afC:=by simpa using hd
   subst this;injection fW with fW;refine wp_region ?_;rw [List.range_eq_range'];refine CY hE hr R4 cy (fun im loc a w hv=>fin w0 rfl rfl (.refl _) rfl fW.symm im loc a w _ (fun i h=>h) hv) gS.size 0 im0 loc0 a w0 (by omega) ?_;have:=Inv.start (ops:=ops) (X:=X) (w0:=w0) h0 jZ ha.env ha.defers ha.JG hr;have e:(fun _:Nat=>False)=fun i=>i<0:=by funext i;apply propext;exact ⟨fun h=>h.elim,fun h=>by omega⟩
   rw [e] at this;exact this
  |some bf=>
   dsimp only at hd fW;simp only [v6] at hd;obtain ⟨⟨⟨rfl,hbl⟩,hmk⟩,Rt⟩:=hd;have hbl:(afn bf)=(afn ops):=by simpa using hbl
   split at fW
   · rename_i On
     injection fW with fW;have ajc:tr.reverse=xP S X (afn ops):=by rw [htr];simp
     rw [ajc] at On;obtain ⟨_,hmk⟩:=Bu hmk;refine wp_region_any oL ?_;refine HK (w0:={w0 with drawn:=w0.drawn+1}) (im0:=im0) (loc0:=loc0) hE hr (Ord.drawn hr hbl Rt On) R4 cy ?_ (fun im loc a w done hdn hv=>fin {w0 with drawn:=w0.drawn+1} rfl rfl ⟨rfl,Nat.le_succ _⟩ rfl fW.symm im loc a w done hdn hv) gS.size _ im0 loc0 a _ (by simp [cy]) ?_ ?_ ?_
     · intro k o ho
       have dz:=(NE.1 ho).1;have hk:bf[k]? =afo (bf.getD k 0):=by rw [aey,v4 (by omega)];rfl
       simpa using hmk k _ o hk (by simpa using ho)
     · simp [cy,List.count_replicate]
     · intro k j h
       unfold jh at h
       by_cases hk:k<gS.size<;>simp [hk] at h
     have:=Inv.start (ops:=ops) (X:=X) (w0:={w0 with drawn:=w0.drawn+1}) h0 (jZ.world rfl) ha.env ha.defers ha.JG hr
     have e:(fun _:Nat=>False)=jh (aen gS.size afC):=by
      funext i;apply propext
      unfold jh
      by_cases hk:i<gS.size<;>simp [hk]
     rw [e] at this;exact this
   cases fW
end
end Go.Vm
/- What a function keeps from its beginning on; the head of a loop. -/
namespace Go.Vm
theorem Kept.trans {im0 Cc Cf:Im} {loc0 cQ pk:Loc} {hJ:bY} {w0 w1 w2:World} {mn tz:St} (h1:Kept im0 loc0 hJ w0 mn Cc cQ w1) (h2:Kept Cc cQ mn.aD w1 tz Cf pk w2) (hl:(afn hJ)<=afn mn.aD):
 Kept im0 loc0 hJ w0 tz Cf pk w2 where
 sr:=h2.sr
 fO:=h1.fO.trans h2.fO
 dy:=h1.dy.trans h2.dy
 os:=h2.os.trans h1.os
 tape:=h2.tape.trans h1.tape
 output:=h2.output.trans h1.output
 size:=adM h1.size h2.size
 frame:=fun b hb hh=>by
  rw [h2.frame b (aeo hb h1.size) fun t li k hl hs kD Om=>?_]
  · exact h1.frame b hb hh
  rcases h1.own t li k hl hs kD with h|⟨u,lu,ku,g1,g2,g3,g4⟩
  · omega
  exact hh u lu ku g1 g2 g3 (by omega)
 dC:=fun b o hb=>by
  rcases h2.dC b o hb with h|h|⟨t,li,k,g1,g2,g3,g4⟩
  · exact h1.dC b o h
  · exact .inr (.inl (adM h1.size h))
  rcases h1.own t li k g1 g2 g3 with h|⟨u,lu,ku,k1,k2,k3,k4⟩
  · exact .inr (.inl (by omega))
  exact .inr (.inr ⟨u,lu,ku,k1,k2,k3,by omega⟩)
 ma:=fun t li h=>by
  rcases h2.ma t li h with h|h
  · exact h1.ma t li h
  exact .inr (adM hl h)
 own:=fun t li k hl hs kD=>by
  rcases h2.own t li k hl hs kD with h|⟨u,lu,ku,g1,g2,g3,g4⟩
  · exact .inl (adM h1.size h)
  rcases h1.own u lu ku g1 g2 g3 with h|⟨u',lu',ku',k1,k2,k3,k4⟩
  · exact .inl (by omega)
  exact .inr ⟨u',lu',ku',k1,k2,k3,by omega⟩
structure xQ (im0:Im) (loc0:Loc) (hJ:bY) (w0:World) (st:St) (im:Im) (loc:Loc) (w:World):Prop where
 kept:Kept im0 loc0 hJ w0 st im loc w
 kn:st.kn=afn hJ
 len:(afn hJ)<=afn st.aD
 dom: ∀t li,loc0 t=afo li->t<afn hJ
theorem C1 {F:kW} {rec:Task->Option Out}: ∀(ops:List bI) (st:St) (tr:List Tr) (jG:St) (Nh:List Tr),kX F rec ops st tr=afo (jG,Nh)->jG.kn=st.kn
 | [],st,tr,jG,Nh,h=>by simp only [kX,ww,IR] at h;rw [h.1]
 |o::l,st,tr,jG,Nh,h=>by
  simp only [kX] at h;split at h
  · split at h
    · rename_i x hx
      split at h
      · have:=C1 l _ _ jG Nh h
        rw [this];cases x<;>rfl
      cases h
    cases h
  · have:=C1 l _ _ jG Nh h
    exact this
  cases h
theorem Gg {F:kW} {rec:Task->Option Out} {draw:Option (List Nat)} {ops:List bI} {fh:List Nat} {st jG:St} (h:jW F rec draw ops fh st=afo jG):jG.kn=st.kn/\afn st.aD<=(afn jG.aD):=by
 unfold jW at h;cases he:kX F rec ops st [] with
 |none=>rw [he] at h;cases h
 |some q=>
  obtain ⟨mn,tr⟩:=q;rw [he] at h;dsimp only at h;obtain ⟨S,X,h0,hn,hr,_⟩:=AL ops st [] mn tr he;have h1:=C1 ops st [] mn tr he;have h2:=hr.gx (ae0 (afn ops)) (If _);rw [h0,hn] at h2;cases draw with
  |none=>dsimp only at h;injection h with h;subst h;exact ⟨h1,h2⟩
  |some bf=>
   dsimp only at h;split at h
   · injection h with h;subst h;exact ⟨h1,h2⟩
   cases h
section
variable {im : Im} {loc cQ : Loc} {m : List Nat}
theorem HM {fz:List Nat}: ∀{l:List Nat} {i0 u t:Nat},l[u]? =afo t->(i0+u)∉vA fz i0 l->t∉fz
 | [],i0,u,t,h,_=>by simp at h
 |s::r,i0,u,t,h,hn=>by
  simp only [vA] at hn;cases u with
  |zero=>simp at h;subst h;intro hf;rw [rc (ob.2 hf)] at hn;exact hn (by simp)
  |succ u=>
   refine HM (l:=r) (i0:=i0+1) (u:=u) (by simpa using h) fun xE=>?_
   rw [show i0+(u+1)=i0+1+u by omega] at hn;split at hn
   · exact hn (aet _ xE)
   exact hn xE
theorem C2 {aD:bY}: ∀{n:Nat} {ts seen:List Nat} {m:List Nat},reach aD n ts seen=afo m->(∃l,m=seen++l)/\(seen.Nodup->m.Nodup)
 |_,[],seen,m,h=>by
  have h:afo seen=afo m:=by rw [<- h];unfold reach;cases ‹Nat› <;>rfl
  injection h with h;subst h;exact ⟨⟨[],by simp⟩,id⟩
 |0,_::_,seen,m,h=>by simp [reach] at h
 |n+1,t::ts,seen,m,h=>by
  simp only [reach] at h;split at h
  · exact C2 h
  rename_i hn
  split at h
  · obtain ⟨⟨l,hl⟩,h2⟩:=C2 h
    refine ⟨⟨t::l,by rw [hl];simp⟩,fun hd=>h2 ?_⟩;rw [af2];refine ⟨hd,by simp,fun a ha b hb=>?_⟩;have:b=t:=by simpa using hb
    subst this;intro e;subst e;exact hn (ob.2 ha)
  cases h
theorem HN: ∀{n i:Nat},i<n->(sH n)[i]? =afo i
 |n+1,i,h=>by
  have hl: ∀n,(sH n).length=n:=by
   intro n;induction n with
   |zero=>rfl
   |succ n ih=>simp [sH,ih]
  simp only [sH];rcases adZ i n with h'|h'
  · rw [M2 (by rw [hl];exact h')];exact HN h'
  rw [adc (by rw [hl];exact h'),hl]
  have:i=n:=by omega
  subst this;simp
theorem HO: ∀{n i:Nat},i∈sH n->i<n
 |n+1,i,h=>by
  simp only [sH,ae1,ae6] at h;rcases h with h|h
  · have:=HO h;omega
  omega
theorem C3: ∀n,(sH n).Nodup
 |0=>by simp [sH]
 |n+1=>by
  simp only [sH];rw [af2];refine ⟨C3 n,by simp,fun a ha b hb=>?_⟩;have:=HO ha;have:b=n:=by simpa using hb
  omega
end
end Go.Vm
/- The head of a loop. -/
namespace Go.Vm
def Nl (s2:bY):Prop:= ∀(j:Nat) (k:iZ),s2[j]? =afo k-> ∃e,k= .arr e []
theorem VR.ES {im:Im} {loc:Loc} {x:PV} {u:Value} (h:VR im loc x u): ∀k:Option Nat,VR im loc (ES k x) u
 |none=>h
 |some _=>by
  cases h with
  |own t esz off len cap ex li a cI hl he hn hc hx hk h=>exact .own t esz off len cap afC li a cI hl he hn hc hx (fun h=>by cases h) h
  |undef=>exact .undef _
  |iB=>exact .iB
  |int k n=>exact .int k n
  |bool b=>exact .bool b
  |str s=>exact .str s
  |agg cs vs h=>exact .agg cs vs h
  |cj cs vs h=>exact .cj cs vs h
  |sl e c r a cap h1 h2 h3=>exact .sl e c r a cap h1 h2 h3
  |ptr t e r o li h1 h2 h3=>exact .ptr t e r o li h1 h2 h3
  |bw cs off b o vs h hv=>exact .bw cs off b o vs h hv
  |mp t li hl=>exact .mp t li hl
  |ef fn a b as bs ha hb=>exact .ef fn a b as bs ha hb
  |dw=>exact .dw
theorem yw {im:Im} {loc cQ:Loc} {m:List Nat} {e:Env} {tmps:Array Value} (hm:Ren m loc cQ) (he:ER im loc e tmps): ∀{live:List (Nat×Option Nat)} {nx:Nat} {e1:Env} {s2:bY},pI e m nx live=afo (e1,s2)->
 Nl s2/\((∀(j:Nat) (esz:Nat),s2[j]? =afo (.arr esz [])->cQ (nx+j)=afo ⟨0,0,esz,0,0⟩)->ER im cQ e1 tmps)
 | [],nx,e1,s2,h=>by simp only [pI,ww,IR] at h;obtain ⟨rfl,rfl⟩:=h;exact ⟨fun j k h=>by simp at h,fun _ t=> .undef _⟩
 |(s,k)::r,nx,e1,s2,h=>by
  have hs:=he s;simp only [pI] at h;split at h
  · rename_i esz e' rX
    rw [Do] at h;obtain ⟨⟨e2,s3⟩,h1,h2⟩:=h;simp only [IR] at h2;obtain ⟨rfl,rfl⟩:=h2;obtain ⟨g1,g2⟩:=yw hm he h1;refine ⟨fun j k hj=>?_,fun hl t=>?_⟩
    · cases j with
      |zero=>simp at hj;exact ⟨_,hj.symm⟩
      |succ j=>exact g1 j k (by simpa using hj)
    rw [pM]
    split
    · rename_i e;subst e
      rw [rX] at hs;generalize hg:tmps.getD s Go.undef=v at hs;cases hs with
      |sl _ _ _ a cap h1 h2 h3=>
      have:cap=0:=by simpa using h2 rfl
      subst this;exact .own nx esz 0 0 0 afC ⟨0,0,esz,0,0⟩ a 0 (by simpa using hl 0 esz rfl) rfl (If _) (If _) (If _) (fun h=>by cases h) (.inl rfl)
    refine g2 (fun j ajd hj=>?_) t
    have:=hl (j+1) ajd (by simpa using hj);rw [show nx+1+j=nx+(j+1) by omega];exact this
  split at h
  · rename_i v' p h1 h2
    injection h with h;simp only [IR] at h;obtain ⟨rfl,rfl⟩:=h;obtain ⟨g1,g2⟩:=yw hm he (e1:=p.1) (s2:=p.2) h2;refine ⟨g1,fun hl t=>?_⟩;rw [pM];split
    · rename_i e;subst e
      exact (Oz hm hs h1).ES _
    exact g2 hl t
  cases h
theorem eh.setAt {im:Im} {loc:Loc} {x:PV}: ∀{xs:List PV} {vs:List Value} {c:Nat} {y:PV},eh im loc xs vs->xs[c]? =afo y->(∀v,VR im loc y v->VR im loc x v)->eh im loc (xs.set c x) vs
 | [],_,c,y,h,hc,_=>by simp at hc
 |z::zs,vs,c,y,h,hc,hx=>by
  cases h with
  |cons _ v _ us g1 g2=>
   cases c with
   |zero=>simp at hc;subst hc;exact .cons _ _ _ _ (hx v g1) g2
   |succ c=>exact .cons _ _ _ _ g1 (eh.setAt g2 (by simpa using hc) hx)
theorem J2 {im0 im:Im} {loc0 loc:Loc} {hJ:bY} {w0 w:World} {nt:Nat} {st:St} {a:Act} (t c esz:Nat) (hk:xQ im0 loc0 hJ w0 st im loc w) (ha:u4 im loc nt st a):
 ∃cQ,xQ im0 loc0 hJ w0 (pJ st t c esz) im cQ w/\u4 im cQ nt (pJ st t c esz) a:=by
 unfold pJ;split
 · rename_i cs hb
   split
   · rename_i e hc
     have sr:=hk.kept.sr;have afs: ∀u li,loc u=afo li->u<(afn st.aD):=fun u li h=>by obtain ⟨k,h1,_⟩:=sr.cS u li h;exact ck h1
     have hn:loc (afn st.aD)=afp:=by
      cases h:loc (afn st.aD) with
      |none=>rfl
      |some li=>exact absurd (afs _ _ h) (Nat.lt_irrefl _)
     let cQ:Loc:=fun u=>if u=(afn st.aD) then afo ⟨0,0,esz,0,0⟩ else loc u
     have kC:kQ loc cQ:=fun u li h=>by have:=afs u li h;simp only [cQ,show u≠(afn st.aD) by omega,if_false];exact h
     have back: ∀u li,cQ u=afo li->u≠afn st.aD->loc u=afo li:=fun u li h hu=>by simpa only [cQ,hu,if_false] using h
     have Nm:t<(afn st.aD):=ck hb;have get: ∀u,u<afn st.aD->(st.aD.set t (.box (cs.set c (.own (afn st.aD) esz 0 0 0 afC)))++[.arr esz []])[u]? =if t=u then afo (.box (cs.set c (.own (afn st.aD) esz 0 0 0 afC))) else st.aD[u]?:=fun u hu=>by
      rw [M2 (by simpa using hu),af3];split
      · rename_i e;subst e;simp
      rfl
     have aft:(st.aD.set t (.box (cs.set c (.own (afn st.aD) esz 0 0 0 afC)))++[.arr esz []])[afn st.aD]? =afo (.arr esz []):=by rw [adc (by simp)];simp
     have bC: ∀(u:Nat) (k:iZ),(st.aD.set t (.box (cs.set c (.own (afn st.aD) esz 0 0 0 afC)))++[.arr esz []])[u]? =afo k->k.bC=afA->u≠afn st.aD/\ ∃k0:iZ,st.aD[u]? =afo k0/\k0.bC=afA:=by
      intro u k hu hs;have dz:=ck hu;simp only [aep,afd,List.length_singleton] at dz;have dZ:u≠(afn st.aD):=by intro e;subst e;rw [aft] at hu;injection hu with hu;subst hu;cases hs
      refine ⟨dZ,?_⟩;rw [get u (by omega)] at hu;split at hu
      · rename_i e;subst e;exact ⟨_,hb,rfl⟩
      exact ⟨k,hu,hs⟩
     refine ⟨cQ,⟨⟨?_,hk.kept.fO,hk.kept.dy.trans kC,hk.kept.os,hk.kept.tape,hk.kept.output,hk.kept.size,hk.kept.frame,hk.kept.dC,fun u li h=>?_,fun u li k h hs kD=>?_⟩,hk.kn,?_,hk.dom⟩,⟨ha.env.mono (mu.refl _) kC,ha.defers,ha.JG⟩⟩
     · refine {
        bA:=sr.bA
        cS:=fun u li hl=>?_
        gL:=fun u u' li lj k k' hl kV hs sN kD E0 hbk=>?_
        free:=fun u li k hl hs kD hz=>?_}
       · by_cases hu:u=afn st.aD
         · subst hu
           simp only [cQ,if_true] at hl;injection hl with hl;subst hl;exact ⟨_,aft,rfl,rfl,fun h=>absurd rfl h⟩
         have G7:=back u li hl hu
         obtain ⟨k,h1,h2⟩:=sr.cS u li G7;show∃k,(st.aD.set t (.box (cs.set c (.own (afn st.aD) esz 0 0 0 afC)))++[.arr esz []])[u]? =afo k/\BR im cQ w li k;rw [get u (ck h1)];split
         · rename_i et;subst et
           rw [hb] at h1;injection h1 with h1;subst h1;obtain ⟨g1,g2,g3,vs,el,g4,g5,g6⟩:=h2;refine ⟨_,rfl,by simpa using g1,g2,g3,vs,el,g4,g5,(g6.mono (mu.refl _) kC).setAt hc fun v hv=>?_⟩;cases hv with
           |sl _ _ _ a' cap h1 h2 h3=>
           have:cap=0:=by simpa using h2 rfl
           subst this;exact .own _ esz 0 0 0 afC ⟨0,0,esz,0,0⟩ a' 0 (by simp only [cQ,if_true]) rfl (If _) (If _) (If _) (fun h=>by cases h) (.inl rfl)
         exact ⟨k,h1,h2.mono (mu.refl _) kC rfl⟩
       · obtain ⟨n1,k0,g1,g2⟩:=bC u k hs kD
         obtain ⟨n2,k0',g1',Yq⟩:=bC u' k' sN E0;exact sr.gL u u' li lj k0 k0' (back _ _ hl n1) (back _ _ kV n2) g1 g1' g2 Yq hbk
       obtain ⟨n1,k0,g1,g2⟩:=bC u k hs kD
       exact sr.free u li k0 (back _ _ hl n1) g1 g2 hz
     · by_cases hu:u=afn st.aD
       · right;have:=hk.len;omega
       exact hk.kept.ma u li (back u li h hu)
     · obtain ⟨n1,k0,g1,g2⟩:=bC u k hs kD
       exact hk.kept.own u li k0 (back _ _ h n1) g1 g2
     have:=hk.len
     show (afn hJ)<=(st.aD.set t (.box (cs.set c (.own (afn st.aD) esz 0 0 0 afC)))++[iZ.arr esz []]).length;simp only [aep,afd];omega
   exact ⟨loc,hk,ha⟩
 exact ⟨loc,hk,ha⟩
theorem oM {im0 im:Im} {loc0:Loc} {hJ:bY} {w0 w:World} {nt:Nat} {a:Act}: ∀(live:List (Nat×Option Nat)) {st:St} {loc:Loc},xQ im0 loc0 hJ w0 st im loc w->u4 im loc nt st a->
 ∃cQ,xQ im0 loc0 hJ w0 (jy live st) im cQ w/\u4 im cQ nt (jy live st) a
 | [],st,loc,hk,ha=>⟨loc,hk,ha⟩
 |(s,k)::r,st,loc,hk,ha=>by
  simp only [jy];split
  · split
    · split
      · rename_i t _
        obtain ⟨cQ,h1,h2⟩:=J2 t _ _ hk ha;exact oM r h1 h2
      exact oM r hk ha
    exact oM r hk ha
  exact oM r hk ha
theorem HP {im0 im:Im} {loc0 loc:Loc} {hJ:bY} {w0 w:World} {nt:Nat} {live:List (Nat×Option Nat)} {st mn:St} {a:Act} (h:Cv live st=afo mn) (hk:xQ im0 loc0 hJ w0 st im loc w) (ha:u4 im loc nt st a):
 ∃cQ,xQ im0 loc0 hJ w0 mn im cQ w/\u4 im cQ nt mn a:=by
 unfold Cv at h;split at h
 · cases h
 rename_i m Zv
 split at h
 · rename_i s1 e1 s2 hs1 hlv
   injection h with h;subst h;refine (fun hh: ∃cQ,xQ im0 loc0 hJ w0 {env:=e1,aD:=s1++s2,fz:=vA st.fz 0 m,kn:=st.kn} im cQ w/\u4 im cQ nt {env:=e1,aD:=s1++s2,fz:=vA st.fz 0 m,kn:=st.kn} a=>
    let ⟨_,g1,g2⟩:=hh;oM live g1 g2) ?_
   obtain ⟨⟨ml,G9⟩,Ex⟩:=C2 Zv;have Ex:=Ex (C3 _);obtain ⟨Lz,BY⟩:=Aw hs1;have afu: ∀n,(sH n).length=n:=by
    intro n;induction n with
    |zero=>rfl
    |succ n ih=>simp [sH,ih]
   have hid: ∀t,t<st.kn->m[t]? =afo t:=by intro t ht;rw [G9,M2 (by rw [afu];exact ht)];exact HN ht
   have amY:st.kn<=(afn m):=by rw [G9];simp [afu]
   let cQ:Loc:=fun u=>if u<(afn m) then (match m[u]? with|some t=>loc t|none=>afp) else match s2[u-(afn m)]? with
    |some (.arr e [])=>afo ⟨0,0,e,0,0⟩
    |_=>afp
   have CT:Ren m loc cQ:=by intro u t hu;have:=ck hu;simp only [cQ,this,if_true,hu]
   obtain ⟨aje,her⟩:=yw CT ha.env hlv;have old: ∀u li,cQ u=afo li->u<afn m-> ∃t,m[u]? =afo t/\loc t=afo li:=by intro u li hl hu;have e:=v4 hu;rw [CT u _ e] at hl;exact ⟨_,e,hl⟩
   have afv: ∀u,u<afn m->(s1++s2)[u]? =s1[u]?:=fun u hu=>M2 (by rw [Lz];exact hu)
   have afw: ∀u,¬u<afn m->(s1++s2)[u]? =s2[u-(afn m)]?:=fun u hu=>by rw [adc (by rw [Lz];omega),Lz]
   have xb: ∀(u:Nat) (k:iZ),(s1++s2)[u]? =afo k->k.bC=afA->u<(afn m):=by
    intro u k hs kD;rcases adZ u (afn m) with h|h
    · exact h
    rw [afw u (by omega)] at hs
    obtain ⟨e,rfl⟩:=aje _ _ hs;cases kD
   have back: ∀(u:Nat) (k:iZ),(s1++s2)[u]? =afo k-> ∀t,m[u]? =afo t-> ∃k0:iZ,st.aD[t]? =afo k0/\k.bC=k0.bC:=by intro u k hs t ht;obtain ⟨k0,k',g1,g2,g3⟩:=BY u t ht;rw [afv u (ck ht),g3] at hs;injection hs with hs;subst hs;exact ⟨k0,g1,zj g2⟩
   have sr:=hk.kept.sr;have Zw:SR im cQ (s1++s2) (vA st.fz 0 m) w:=by
    refine {
     bA:=sr.bA
     cS:=fun u li hl=>?_
     gL:=fun u u' li lj k k' hl kV hs sN kD E0 hb=>?_
     free:=fun u li k hl hs kD hz=>?_}
    · by_cases hu:u<afn m
      · obtain ⟨t,ht,dz⟩:=old u li hl hu
        obtain ⟨k0,h1,h2⟩:=sr.cS t li dz;obtain ⟨k1,k',g1,g2,g3⟩:=BY u t ht;rw [h1] at g1;injection g1 with g1;subst g1;exact ⟨k',by rw [afv u hu];exact g3,EU CT g2 h2⟩
      simp only [cQ,hu,if_false] at hl
      split at hl
      · rename_i e he
        injection hl with hl;subst hl;exact ⟨.arr e [],by rw [afw u hu];exact he,rfl,rfl,fun h=>absurd rfl h⟩
      cases hl
    · have hu:=xb u k hs kD
      have An:=xb u' k' sN E0;obtain ⟨t,ht,dz⟩:=old u li hl hu;obtain ⟨t',LR,HL⟩:=old u' lj kV An;obtain ⟨k0,g1,g2⟩:=back u k hs t ht;obtain ⟨k0',g1',Yq⟩:=back u' k' sN t' LR;have:=sr.gL t t' li lj k0 k0' dz HL g1 g1' (by rw [<- g2];exact kD) (by rw [<- Yq];exact E0) hb;subst this;have pw:=aez.1 Ex;have e1:=(EQ.1 ht).2;have e2:=(EQ.1 LR).2;rcases acl u u' with h|h|h
      · exact absurd (e1.trans e2.symm) (pw u u' hu An h)
      · exact h
      exact absurd (e2.trans e1.symm) (pw u' u An hu h)
    have hu:=xb u k hs kD
    obtain ⟨t,ht,dz⟩:=old u li hl hu;obtain ⟨k0,g1,g2⟩:=back u k hs t ht;refine sr.free t li k0 dz g1 (by rw [<- g2];exact kD) (iF.2 ?_);exact HM (i0:=0) ht (by have:=iF.1 hz;simpa using this)
   refine ⟨cQ,⟨⟨Zw,hk.kept.fO,fun t li hl=>?_,hk.kept.os,hk.kept.tape,hk.kept.output,hk.kept.size,hk.kept.frame,hk.kept.dC,fun t li hl=>?_,fun u li k hl hs kD=>?_⟩,hk.kn,?_,hk.dom⟩,
    ⟨her fun j esz hj=>?_,ha.defers,ha.JG⟩⟩
   · have h1:=hk.kept.dy t li hl
     have ht:t<st.kn:=by rw [hk.kn];exact hk.dom t li hl
     rw [CT t t (hid t ht)];exact h1
   · rcases adZ t st.kn with ht|ht
     · rw [CT t t (hid t ht)] at hl
       exact hk.kept.ma t li hl
     right;rw [hk.kn] at ht;exact ht
   · have hu:=xb u k hs kD
     obtain ⟨t,ht,dz⟩:=old u li hl hu;obtain ⟨k0,g1,g2⟩:=back u k hs t ht;exact hk.kept.own t li k0 dz g1 (by rw [<- g2];exact kD)
   · rw [<- hk.kn]
     simp only [aep];omega
   simp only [cQ,show¬afn m+j<(afn m) by omega,if_false,show (afn m)+j-(afn m)=j by omega,hj]
 exact (by cases h)
theorem R5 {im0 im:Im} {loc0 loc:Loc} {hJ:bY} {w0 w:World} {nt:Nat} {live:List (Nat×Option Nat)} {st mn:St} {a:Act} (h:norm live st=afo mn) (hk:xQ im0 loc0 hJ w0 st im loc w) (ha:u4 im loc nt st a):
 ∃cQ,xQ im0 loc0 hJ w0 mn im cQ w/\u4 im cQ nt mn a:=by
 unfold norm at h;cases h1:Cv live st with
 |none=>rw [h1] at h;cases h
 |some s=>
  rw [h1] at h;dsimp only at h;obtain ⟨cQ,gI,q8⟩:=HP h1 hk ha;split at h
  · exact HP h gI q8
  injection h with h
  subst h;exact ⟨cQ,gI,q8⟩
end Go.Vm
/- The code of a function; what it returns. -/
namespace Go.Vm
def fJ (P:Program) (prims:FuncId->Bool) (nt:Nat):ij->Code->Bool
 | .skip,.skip=>afA
 | .region d ops _,.region _ gS flag=>AO P prims nt d ops gS flag
 | .seq a b,.seq c d=>fJ P prims nt a c&&fJ P prims nt b d
 | .cond c a b,.cond c' a' b'=>bn c c'&&fJ P prims nt a a'&&fJ P prims nt b b'
 | .block id b,.block id' b'=>id==id'&&fJ P prims nt b b'
 | .loop _ b,.loop b'=>fJ P prims nt b b'
 | .exit id,.exit id'=>id==id'
 | .ret,.ret=>afA
 |_,_=>afC
def gb.out:gb->Exit
 | .normal=> .normal
 | .exit id=> .exit id
 | .ret=> .ret
section
variable {P : Program} {F : kW} {rec : Task -> Option Out} {im0 : Im} {loc0 : Loc} {hJ : bY} {w0 : World} {nt : Nat} {prims : FuncId -> Bool}
structure At (im0:Im) (loc0:Loc) (hJ:bY) (w0:World) (nt:Nat) (st:St) (a:Act) (w:World):Prop where
 ex: ∃im loc,xQ im0 loc0 hJ w0 st im loc w/\u4 im loc nt st a
def AP (P : Program) (prims : FuncId -> Bool) (rec : Task -> Option Out) : Prop :=
  ∀ (live : List (Nat × Option Nat)) (x : ij) (st : St) (e : gb) (jG : St), rec (.loop live x st) = afo (.code e jG) ->
    ∀ (c : Code) (nt : Nat) (im0 : Im) (loc0 : Loc) (hJ : bY) (w0 : World) (a : Act) (w : World), fJ P prims nt x c = afA -> At im0 loc0 hJ w0 nt st a w ->
      ∀ (b : Frame) (k : List Item) (cs : List Frame), ∃ a' w', At im0 loc0 hJ w0 nt jG a' w' /\ Arrives P (lone (b.at a (.code c :: .inLoop c :: k)) cs w) b k cs e.out a' w'
theorem jB (hE:Gf P F rec) (hL:AP P prims rec) (oL:P.follows .mixedOrders=afA): ∀(x:ij) (c:Code) (st:St) (e:gb) (jG:St),fJ P prims nt x c=afA->qP F rec x st=afo (e,jG)->
 ∀(a:Act) (w:World),At im0 loc0 hJ w0 nt st a w-> ∀(Q:Exit->Act->World->Prop),(∀a' w',At im0 loc0 hJ w0 nt jG a' w'->Q e.out a' w')->c.wp P Q a w
 | .skip,c,st,e,jG,hc,fW,a,w,ha,Q,hQ=>by
  cases c<;>simp only [fJ,PP] at hc
  simp only [qP,ww,IR] at fW;obtain ⟨rfl,rfl⟩:=fW;exact wp_skip (hQ _ _ ha)
 | .region d ops fh,c,st,e,jG,hc,fW,a,w,ha,Q,hQ=>by
  cases c<;>simp only [fJ,PP] at hc
  simp only [qP,Do] at fW;obtain ⟨mn,fW,h⟩:=fW;simp only [IR] at h;obtain ⟨rfl,rfl⟩:=h;obtain ⟨im,loc,hk,C4⟩:=ha.ex;refine J1 hE oL hc fW hk.kept.sr C4 fun dJ bc a' w' HQ Ha=>hQ a' w' ⟨dJ,bc,?_,Ha⟩
  obtain ⟨h1,h2⟩:=Gg fW;exact ⟨hk.kept.trans HQ hk.len,by rw [h1];exact hk.kn,adM hk.len h2,hk.dom⟩
 | .seq x y,c,st,e,jG,hc,fW,a,w,ha,Q,hQ=>by
  cases c<;>simp only [fJ,PP,v6] at hc
  obtain ⟨h1,h2⟩:=hc;simp only [qP] at fW;refine wp_seq ?_;cases hx:qP F rec x st with
  |none=>rw [hx] at fW;cases fW
  |some q=>
   obtain ⟨e1,mn⟩:=q;rw [hx] at fW;refine jB hE hL oL x _ st e1 mn h1 hx a w ha _ fun a' w' Ha=>?_
   cases e1 with
   |normal=>exact jB hE hL oL y _ mn e jG h2 fW a' w' Ha Q hQ
   |exit id=>simp only [ww,IR] at fW;obtain ⟨rfl,rfl⟩:=fW;exact hQ a' w' Ha
   |ret=>simp only [ww,IR] at fW;obtain ⟨rfl,rfl⟩:=fW;exact hQ a' w' Ha
 | .cond cc x y,c,st,e,jG,hc,fW,a,w,ha,Q,hQ=>by
  cases c<;>simp only [fJ,PP,v6] at hc
  obtain ⟨⟨h0,h1⟩,h2⟩:=hc;obtain ⟨im,loc,hk,C4⟩:=ha.ex;have hv:=J0 (a:=a) (e:=st.env) cc (fun t _=>C4.env t) _ h0;simp only [qP] at fW;split at fW
  · rename_i hb
    rw [hb] at hv;exact wp_cond_true hv.iE (jB hE hL oL x _ st e jG h1 fW a w ha Q hQ)
  · rename_i hb
    rw [hb] at hv;exact wp_cond_false hv.iE (jB hE hL oL y _ st e jG h2 fW a w ha Q hQ)
  cases fW
 | .block id x,c,st,e,jG,hc,fW,a,w,ha,Q,hQ=>by
  cases c<;>simp only [fJ,PP,v6,beq_iff_eq] at hc
  obtain ⟨rfl,h1⟩:=hc;refine wp_block ?_;simp only [qP] at fW;cases hx:qP F rec x st with
  |none=>rw [hx] at fW;cases fW
  |some q=>
   obtain ⟨e1,mn⟩:=q;rw [hx] at fW;refine jB hE hL oL x _ st e1 mn h1 hx a w ha _ fun a' w' Ha=>?_
   cases e1 with
   |normal=>simp only [ww,IR] at fW;obtain ⟨rfl,rfl⟩:=fW;exact hQ a' w' Ha
   |ret=>simp only [ww,IR] at fW;obtain ⟨rfl,rfl⟩:=fW;exact hQ a' w' Ha
   |exit j=>
    dsimp only at fW;simp only [gb.out,Exit.inBlock];split at fW
    · rename_i hj
      have:j=id:=by simpa using hj
      simp only [ww,IR] at fW;obtain ⟨rfl,rfl⟩:=fW;rw [rc this];exact hQ a' w' Ha
    rename_i hj
    have:j≠id:=by simpa using hj
    simp only [ww,IR] at fW;obtain ⟨rfl,rfl⟩:=fW;rw [ut this];exact hQ a' w' Ha
 | .loop live x,c,st,e,jG,hc,fW,a,w,ha,Q,hQ=>by
  cases c<;>simp only [fJ,PP] at hc
  simp only [qP] at fW;split at fW
  · rename_i e1 mn hr
    simp only [ww,IR] at fW;obtain ⟨rfl,rfl⟩:=fW;intro b k cs;obtain ⟨a',w',h1,h2⟩:=hL live x st _ _ hr _ nt im0 loc0 hJ w0 a w hc ha b k cs;exact ⟨_,a',w',hQ a' w' h1,.of_steps (.one step_loop) h2⟩
  cases fW
 | .exit id,c,st,e,jG,hc,fW,a,w,ha,Q,hQ=>by
  cases c<;>simp only [fJ,PP,beq_iff_eq] at hc
  subst hc;simp only [qP,ww,IR] at fW;obtain ⟨rfl,rfl⟩:=fW;exact wp_exit (hQ _ _ ha)
 | .ret,c,st,e,jG,hc,fW,a,w,ha,Q,hQ=>by
  cases c<;>simp only [fJ,PP] at hc
  simp only [qP,ww,IR] at fW;obtain ⟨rfl,rfl⟩:=fW;exact wp_ret (hQ _ _ ha)
theorem Nn (hE:Gf P F rec) (hL:AP P prims rec) (oL:P.follows .mixedOrders=afA):AP P prims (step F rec):=by
 intro live x st e jG h c nt im0 loc0 hJ w0 a w hc ha b k cs;simp only [step] at h;cases hn:norm live st with
 |none=>rw [hn] at h;cases h
 |some mn=>
  rw [hn] at h;dsimp only at h;obtain ⟨im,loc,hk,C4⟩:=ha.ex;obtain ⟨cQ,gI,q8⟩:=R5 hn hk C4;have cL:At im0 loc0 hJ w0 nt mn a w:=⟨im,cQ,gI,q8⟩;cases hx:qP F rec x mn with
  |none=>rw [hx] at h;cases h
  |some q=>
   obtain ⟨e1,tz⟩:=q;rw [hx] at h;have hw:=jB hE hL oL x c mn e1 tz hc hx a w cL (fun e' a' w'=>e'=e1.out/\At im0 loc0 hJ w0 nt tz a' w') fun a' w' h=>⟨rfl,h⟩
   obtain ⟨e',a1,w1,⟨rfl,hq⟩,EI⟩:=hw b (.inLoop c::k) cs;cases e1 with
   |normal=>dsimp only at h;obtain ⟨a',w',h1,h2⟩:=hL live x tz e jG h c nt im0 loc0 hJ w0 a1 w1 hc hq b k cs;exact ⟨a',w',h1,.of_steps (Steps.trans EI (.one step_inLoop)) h2⟩
   |exit id=>simp only [ww,Out.code.injEq] at h;obtain ⟨rfl,rfl⟩:=h;exact ⟨a1,w1,hq,.pass (x:= .inLoop c) rfl (fun _ _=> .inl (by simp [gb.out])) EI⟩
   |ret=>simp only [ww,Out.code.injEq] at h;obtain ⟨rfl,rfl⟩:=h;exact ⟨a1,w1,hq,.pass (x:= .inLoop c) rfl (fun _ _=> .inl (by simp [gb.out])) EI⟩
def nq (P:Program):List RV->List ResultVar->Bool
 | [],[]=>afA
 | .tmp t::r,.tmp t'::s=>t==t'&&nq P r s
 | .cell t agg::r,.cell t' ty::s=>t==t'&&zi P ty agg&&nq P r s
 |_,_=>afC
def J3 (tmps:Array Value):ResultVar->Sem Value
 | .tmp t=>pure (tmps.getD t undef)
 | .cell a t=>do loadVar t (<- asAddr (tmps.getD a undef))
theorem No {im:Im} {loc:Loc} {aD:bY} {agg:Option Nat} {p:PV} {u:Value} {r:mh} (hp:VR im loc p u) (h:nh aD agg p=afo r): ∃ad,u= .pointer (afo ad):=by cases hp<;>first|(simp [nh] at h;done)|exact ⟨_,rfl⟩
theorem SR.known {im:Im} {loc:Loc} {aD:bY} {fz:List Nat} {w:World} (h:SR im loc aD fz w) {r:mh} (hn:r.news=[]) (hw:r.wr=[]):ik im loc aD w r where
 bA:=h.bA
 tok:=fun t _ li hl=>h.cS t li hl
 free:=fun t k hm=>by rw [hw] at hm;cases hm
 fresh:=fun j hj=>by rw [hn] at hj;simp at hj
 gL:=fun t u li lj k k' _ _=>h.gL t u li lj k k'
theorem J4 {aD:bY} {agg:Option Nat} {p:PV} {r:mh} (h:nh aD agg p=afo r):r.news=[]/\r.wr=[]:=by
 unfold nh at h;split at h
 · split at h
   · split at h
     · rw [Do] at h;obtain ⟨_,_,rfl⟩:=h;exact ⟨rfl,rfl⟩
     cases h
   · split at h
     · rw [Do] at h;obtain ⟨_,_,rfl⟩:=h;exact ⟨rfl,rfl⟩
     cases h
   cases h
 · rw [Do] at h;obtain ⟨_,_,rfl⟩:=h;exact ⟨rfl,rfl⟩
 cases h
theorem Pb {im : Im} {loc : Loc} {st : St} {a : Act} {w : World} (jZ : SR im loc st.aD st.fz w) (ha : ER im loc st.env a.tmps) : ∀ {rs : List RV} {vs : List PV} {os : List ResultVar}, nq P rs os = afA -> mj st rs = afo vs ->
    ∃ us, (os.mapM (J3 a.tmps)).run P w = .ok us w /\ eh im loc vs us
  | [], vs, os, hc, h => by
    cases os <;> simp only [nq, PP] at hc
    simp only [mj, ww] at h; subst h
    exact ⟨[], by simp, .nil⟩
  | r :: rs, vs, [], hc, h => by cases r <;> simp [nq] at hc
  | r :: rs, vs, o :: os, hc, h => by
    simp only [mj] at h
    split at h
    · rename_i v JD h1 h2
      injection h with h; subst h
      have zl : ∃ u, (J3 a.tmps o).run P w = .ok u w /\ VR im loc v u /\ nq P rs os = afA := by
        cases r with
        | tmp t =>
          cases o with
          | tmp t' =>
            simp only [nq, v6, beq_iff_eq] at hc
            obtain ⟨rfl, hc⟩ := hc
            simp only [Cy, ww] at h1; subst h1
            exact ⟨_, rfl, ha t, hc⟩
          | cell _ _ => simp [nq] at hc
        | cell t agg =>
          cases o with
          | tmp t' => simp [nq] at hc
          | cell t' ty =>
            simp only [nq, v6, beq_iff_eq] at hc
            obtain ⟨⟨rfl, hag⟩, hc⟩ := hc
            simp only [Cy, Do] at h1
            obtain ⟨rr, h3, rfl⟩ := h1
            obtain ⟨g1, g2⟩ := J4 h3
            obtain ⟨u, bQ, nb, _⟩ := Ho (P := P) (ha t) hag h3 (jZ.known g1 g2)
            obtain ⟨ad, had⟩ := No (ha t) h3
            refine ⟨u, ?_, nb, hc⟩
            simp only [J3, had, asAddr]
            rw [had] at bQ
            simpa [Instr.loadAt, Instr.sureAddr] using bQ
      obtain ⟨u, hu, nb, hc⟩ := zl
      obtain ⟨us, xM, ajg⟩ := Pb jZ ha hc h2
      refine ⟨u :: us, ?_, .cons _ _ _ _ nb ajg⟩
      rw [List.mapM_cons]
      simp only [aew, hu, aeB, xM, afm]
    cases h
theorem C5 {im:Im} {loc:Loc} {st:St} {a:Act} {w:World} {fn:Func} (jZ:SR im loc st.aD st.fz w) (ha:ER im loc st.env a.tmps) {rs:List RV} {vs:List PV} (hc:nq P rs fn.results.toList=afA) (h:mj st rs=afo vs):
 ∃u,(results fn a.tmps).run P w= .ok u w/\VR im loc (results1 vs) u:=by
 obtain ⟨us,h1,h2⟩:=Pb (P:=P) jZ ha hc h;have e:fn.results.mapM (J3 a.tmps)=List.toArray<$>fn.results.toList.mapM (J3 a.tmps):=Array.mapM_eq_mapM_toList;have h3:(fn.results.mapM (J3 a.tmps)).run P w= .ok us.toArray w:=by rw [e];rw [map_eq_pure_bind,aew,h1];rfl
 have zB:results fn a.tmps=(do let vs <- fn.results.mapM (J3 a.tmps);pure (if h:vs.size=1 then vs[0] else .tuple vs)):=by
  unfold results
  congr 1
 rw [zB];simp only [aew,h3,aeB,afm];refine ⟨_,rfl,?_⟩;cases h2 with
 |nil=>exact .cj _ _ .nil
 |cons x u xs us g2 g3=>
  cases g3 with
  |nil=>exact g2
  |cons y v ys vs g4 g5=>exact .cj _ _ (.cons _ _ _ _ g2 (.cons _ _ _ _ g4 g5))
end
end Go.Vm
/- What the logical machine answers, the model answers. -/
namespace Go.Vm
def aA (P:Program) (prims:FuncId->Bool) (x:aL) (f:FuncId):Bool:=
 match P.funcs[f]? with
 |some fn=>!(fn.name== "runtime.NumGoroutine")&&adT x.Bo fn.ntmps&&nq P x.res fn.results.toList&&(match fn.body with|some c=>fJ P prims fn.ntmps x.code c|none=>afC)
 |none=>afC
section
variable {P : Program} {F : kW} {rec : Task -> Option Out} {prims : FuncId -> Bool}
def HR (P:Program) (prims:FuncId->Bool) (F:kW):Prop:= ∀f x,F f=afo (.code x)->aA P prims x f=afA
theorem HS: ∀(args:List PV) (i t:Nat),lk t (sJ i args)=if i<=t then (args[t-i]?).getD .undef else .undef
 | [],i,t=>by simp [sJ,lk]
 |v::r,i,t=>by
  simp only [sJ,pM];rw [HS r (i+1) t]
  by_cases h:i=t
  · subst h;simp
  rw [ut h]
  by_cases h2:i<=t
  · rw [rc h2,rc (by omega)]
    have:t-i=(t- (i+1))+1:=by omega
    rw [this];simp
  rw [ut h2,ut (by omega)]
theorem E4 {im:Im} {loc:Loc} {args:List PV} {us:List Value} (h:eh im loc args us) (n:Nat):ER im loc (sJ 0 args) ((⟨us⟩:Array Value)++aen n Go.undef):=by
 intro t;rw [HS];simp only [ae0,if_true,Nat.sub_zero];cases ha:args[t]? with
 |none=>exact .undef _
 |some x=>
  obtain ⟨v,hv,hr⟩:=h.get t x ha;have:((⟨us⟩:Array Value)++aen n Go.undef).getD t Go.undef=v:=by have dz:=ck hv;simp only [adV];rw [Array.getElem?_append_left (by simpa using dz)];simp [hv]
  rw [this];exact hr
theorem iG {f:FuncId} {fn:Func} {c:Code} {us:Array Value} {w:World} (hf:P.funcs[f]? =afo fn) (hn:(fn.name== "runtime.NumGoroutine")=afC) (hb:fn.body=afo c):(callFunc f us).run P w= .ok (.enter f us) w:=by
 unfold callFunc;have hn: ¬fn.name= "runtime.NumGoroutine" :=by simpa using hn
 simp [aew,hf,hn,hb]
theorem Np (hE:Gf P F rec) (hL:AP P prims rec) (hT:HR P prims F) (oL:P.follows .mixedOrders=afA):AI P (step F rec):=by
 intro f args aD fz v tM G' h im loc w us jZ xM;simp only [step] at h;split at h
 · rename_i x hF
   have hc:=hT f x hF;unfold aA at hc;cases hf:P.funcs[f]? with
   |none=>rw [hf] at hc;cases hc
   |some fn=>
    rw [hf] at hc;simp only [v6,UV] at hc;obtain ⟨⟨⟨rh,hna⟩,zB⟩,j0⟩:=hc;cases hb:fn.body with
    |none=>rw [hb] at j0;cases j0
    |some c=>
     rw [hb] at j0;dsimp only at j0;refine .inr ⟨iG hf rh hb,calls_of_wp hf hb ?_⟩;split at h
     · rename_i cy
       have cy:(afn args)=x.Bo:=by simpa using cy
       have hna:x.Bo<=fn.ntmps:=by simpa using hna
       have aoo:=xM.ly
       let st0:St:={env:=sJ 0 args,aD,fz,kn:=afn aD}
       let a0:Act:={tmps:=(⟨us⟩:Array Value)++aen (fn.ntmps- (⟨us⟩:Array Value).size) Go.undef,defers:=[]}
       have cL:At im loc aD w fn.ntmps st0 a0 w:=by
        refine ⟨im,loc,⟨⟨jZ,.refl _,.refl _,rfl,.refl _,rfl,If _,fun _ _ _=>rfl,fun _ _ h=> .inl h,fun _ _ h=> .inl h,fun t li k hl hs kD=> .inr ⟨t,li,k,hl,hs,kD,rfl⟩⟩,rfl,If _,fun t li hl=>?_⟩,⟨E4 xM _,rfl,?_⟩⟩
        · obtain ⟨k,hk,_⟩:=jZ.cS t li hl
          exact ck hk
        simp only [a0,afa,aeJ]
        show (afn us)+_=_;have:(⟨us⟩:Array Value).size=(afn us):=rfl;rw [this];omega
       have fin: ∀(st:St),(mj st x.res).map (fun vs=>Out.func (results1 vs) st.aD st.fz)=afo (.func v tM G')-> ∀a' w',At im loc aD w fn.ntmps st a' w'->
        a'.defers=[]/\ ∃u,(results fn a'.tmps).run P w'= .ok u w'/\ ∃v',Ending.returned u= .returned v'/\ ∃dJ bc,sQ im loc aD w v tM G' dJ bc w' v':=by
        intro st bR a' w' cL
        obtain ⟨dJ,bc,hk,C4⟩:=cL.ex;rw [Do] at bR;obtain ⟨vs,Rs,he⟩:=bR;simp only [Out.func.injEq] at he;obtain ⟨rfl,rfl,rfl⟩:=he;obtain ⟨u,hu,nb⟩:=C5 (P:=P) (fn:=fn) hk.kept.sr C4.env zB Rs;have K:=hk.kept;exact ⟨C4.defers,u,hu,u,rfl,dJ,bc,⟨K.fO,K.dy,nb,K.sr,K.os,K.tape,K.output,K.size,K.frame,K.dC,K.ma,K.own⟩⟩
       split at h
       · rename_i st fW
         exact jB hE hL oL x.code c st0 .normal st j0 fW a0 w cL _ fun a' w' Zx=>fin st h a' w' Zx
       · rename_i st fW
         exact jB hE hL oL x.code c st0 .ret st j0 fW a0 w cL _ fun a' w' Zx=>fin st h a' w' Zx
       cases h
     cases h
 · rename_i p hF
   obtain ⟨fn,c,hf,rh,hb,key⟩:=hE.jf.2 f p hF;rw [Do] at h;obtain ⟨⟨v1,s1,z1⟩,hp,he⟩:=h;simp only [Out.func.injEq] at he;obtain ⟨rfl,rfl,rfl⟩:=he;exact key args aD fz _ _ _ hp im loc w us jZ xM
 cases h
theorem Yx (hT:HR P prims F) (zt:w5 P F) (oL:P.follows .mixedOrders=afA): ∀n,AI P (run F n)/\AP P prims (run F n)
 |0=>⟨fun f args aD fz v tM G' h=>by simp [run] at h,fun live x st e jG h=>by simp [run] at h⟩
 |n+1=>by obtain ⟨h1,h2⟩:=Yx hT zt oL n;have hE:Gf P F (run F n):=⟨h1,zt⟩;exact ⟨Np hE h2 hT oL,Nn hE h2 oL⟩
theorem Nq (hT:HR P prims F) (zt:w5 P F) (oL:P.follows .mixedOrders=afA) {n:Nat} {f:FuncId} {args:List PV} {v:PV} {tM:bY} {G':List Nat} (h:run F n (.func f args [] [])=afo (.func v tM G'))
 {im:Im} {w:World} {us:List Value} (RS: ∀b o,im b=afo o->w.heap[b]? =afo o) (xM:eh im fB args us):
 Calls P f ⟨us⟩ w fun e w'=> ∃u,e= .returned u/\(∃dJ bc,VR dJ bc v u/\SR dJ bc tM G' w')/\w'.os=w.os/\Tape w w'/\w'.output=w.output/\w.heap.size<=w'.heap.size/\ ∀b,b<w.heap.size->w'.heap[b]? =w.heap[b]?:=by
 have key:=(Yx hT zt oL n).1 f args [] [] v tM G' h im fB w us (SR.empty RS) xM;rcases key with ⟨u,w',h1,h2⟩|⟨h1,h2⟩
 · exfalso
   cases n with
   |zero=>simp [run] at h
   |succ n=>
    have h:step F (run F n) (.func f args [] [])=afo (.func v tM G'):=h;simp only [step] at h;split at h
    · rename_i x hF
      have hc:=hT f x hF;unfold aA at hc;cases hf:P.funcs[f]? with
      |none=>rw [hf] at hc;cases hc
      |some fn=>
       rw [hf] at hc;simp only [v6,UV] at hc;cases hb:fn.body with
       |none=>rw [hb] at hc;exact absurd hc.2 (by simp)
       |some c=>rw [iG hf hc.1.1.1 hb] at h1;cases h1
    · rename_i p hF
      obtain ⟨fn,c,hf,rh,hb,key⟩:=zt.2 f p hF;rw [iG hf rh hb] at h1;cases h1
    cases h
 refine h2.mono fun e w' ⟨u,he,dJ,bc,hp⟩=>⟨u,he,⟨dJ,bc,hp.vr,hp.sr⟩,hp.os,hp.tape,hp.output,hp.size,fun b hb=>hp.frame b hb fun t li k hl=>by cases hl⟩
end
end Go.Vm
/- Functions that are known without their code: math/bits.Add64 and Sub64, slices.Clone. -/
namespace Go.Vm
section
variable {P : Program}
theorem J5 {im:Im} {w:World} {v:PV} {u:Value} (jZ:SR im fB [] [] w) (hv:VR im fB v u):sQ im fB [] w v [] [] im fB w u where
 fO:= .refl _
 dy:= .refl _
 vr:=hv
 sr:=jZ
 os:=rfl
 tape:= .refl _
 output:=rfl
 size:=If _
 frame:=fun _ _ _=>rfl
 dC:=fun _ _ h=> .inl h
 ma:=fun _ _ h=> .inl h
 own:=fun t li k h=>by cases h
theorem J6 {im:Im} {loc:Loc} {k1 k2 k3:IntKind} {a b c:Int} {us:List Value} (h:eh im loc [.int k1 a,.int k2 b,.int k3 c] us):us=[.int k1 a,.int k2 b,.int k3 c]:=by
 cases h with
 |cons _ _ _ _ h1 h=>
  cases h with
  |cons _ _ _ _ h2 h=>
   cases h with
   |cons _ _ _ _ h3 h=>cases h;rw [h1.fH,h2.fH,h3.fH]
theorem J7 {f:FuncId} {fn:Func} (hf:P.funcs[f]? =afo fn) (rh:(fn.name== "runtime.NumGoroutine")=afC) (hb:fn.body.isNone=afA) (hn:Extern.findNext fn=afp) (he:Extern.find fn=afo add64Entry):F' P f yf:=by
 intro args v news hp im w us jZ xM;unfold yf at hp;split at hp
 · rename_i a b c
   split at hp
   · rename_i hc
     have hc:c<=1:=by simpa using hc
     simp only [ww,IR] at hp;obtain ⟨rfl,rfl⟩:=hp;obtain rfl:=J6 xM;refine .inl ⟨_,w,?_,im,fB,J5 jZ (.cj _ [.int .u64 (((a:Int)+b+c)%18446744073709551616),.int .u64 (((a:Int)+b+c) / 18446744073709551616)] (.cons _ _ _ _ ?_ (.cons _ _ _ _ ?_ .nil)))⟩
     · rw [run_callFunc_extern hf rh hb hn he]
       have:=run_add64 (P:=P) (a:Int) b c (by omega) (by omega) (by omega) (by omega) w;simp only [aeu];rw [this];rfl
     · have:aeR ((a+b+c)%18446744073709551616)=((a:Int)+b+c)%18446744073709551616:=by
        simp only [aeu];omega
       rw [this];exact .int _ _
     have:aeR ((a+b+c) / 18446744073709551616)=((a:Int)+b+c) / 18446744073709551616:=by
      simp only [aeu];omega
     rw [this];exact .int _ _
   cases hp
 cases hp
def xcA (esz:Nat):ij:= .region afp [⟨afo 2,.Oi (.c (.sl esz afA [])),afp⟩] [0]
def xcN (esz:Nat):ij:= .seq (.region afp [⟨afo 2,.Oi (.c (.sl esz afA [])),afp⟩] [2]) .ret
def xcC (esz:Nat) (zero:Row):ij:= .seq (.region afp [⟨afo 5,.zf esz 0 zero [],afp⟩,⟨afo 6,.Oi (.t 0),afp⟩,⟨afo 7,.append esz (.t 5) (.t 6),afp⟩,⟨afo 2,.Oi (.t 7),afp⟩] [2]) .ret
def Pc (P:Program) (o:Oper):Bool:=
 o.guard.isNone&&o.dst==afo 4&&(match o.op with
  | .binOp .eql t x (.const (.slice afp 0 0)) _=>bn (.t 3) x&&qj P t
  |_=>afC)
def HT (P:Program) (esz:Nat) (zero:Row) (f:FuncId):Bool:=
 match P.funcs[f]? with
 |some fn=>!(fn.name== "runtime.NumGoroutine")&&aes 7 fn.ntmps&&nq P [.tmp 2] fn.results.toList&&(match fn.body with
  |some (.seq a (.seq (.seq (.region _ ops afC) (.cond c n .skip)) r))=>
   fJ P (fun _=>afA) fn.ntmps (xcA esz) a&&fJ P (fun _=>afA) fn.ntmps (xcN esz) n&&fJ P (fun _=>afA) fn.ntmps (xcC esz zero) r&&bn (.t 4) c&&
    (match ops.toList with
    | [o1,o2]=>pO P (fun _=>afA) fn.ntmps ops ⟨afo 3,.Oi (.t 0),afp⟩ o1&&Pc P o2
    |_=>afC)
  |_=>afC)
 |none=>afC
theorem R6:Gf P (fun _=>afp) (fun _=>afp):=⟨(fun _ _args _sto _fz _v _sto' _fz' h=>by cases h),⟨(fun _ _k _p h=>by cases h),(fun _ _p h=>by cases h)⟩⟩
theorem LS {prims:FuncId->Bool}:AP P prims (fun _=>afp):=fun _ _x _st _e _st' h=>by cases h
theorem lz (oL:P.follows .mixedOrders=afA) {esz:Nat} {zero:Row} {f:FuncId} (hc:HT P esz zero f=afA):F' P f (eJ esz):=by
 intro args v news hp im w us jZ xM;unfold HT at hc;cases hf:P.funcs[f]? with
 |none=>rw [hf] at hc;cases hc
 |some fn=>
  rw [hf] at hc;simp only [v6,UV] at hc;obtain ⟨⟨⟨rh,hnt⟩,zB⟩,j0⟩:=hc;have hnt:7<fn.ntmps:=by simpa using hnt
  split at j0
  · rename_i ca id ops cc cn cr hb
    simp only [v6] at j0;obtain ⟨⟨⟨⟨hA,hN⟩,hC⟩,Lx⟩,Nk⟩:=j0;split at Nk
    · rename_i o1 o2 hl
      simp only [v6] at Nk;obtain ⟨ho1,ho2⟩:=Nk;have ajj: ∃e c rows,args=[.sl e c rows]:=by
       unfold eJ at hp;split at hp
       · exact ⟨_,_,_,rfl⟩
       cases hp
      obtain ⟨e,cl,rows,rfl⟩:=ajj;obtain ⟨u,rfl⟩: ∃u,us=[u]:=by
       cases xM with
       |cons _ u _ us h1 h2=>cases h2;exact ⟨u,rfl⟩
      refine .inr ⟨iG hf rh hb,calls_of_wp hf hb ?_⟩
      let st0:St:={env:=[(0,.sl e cl rows)],aD:=[],fz:=[],kn:=0}
      let a0:Act:={tmps:=(⟨[u]⟩:Array Value)++aen (fn.ntmps- (⟨[u]⟩:Array Value).size) Go.undef,defers:=[]}
      have ajk:At im fB [] w fn.ntmps st0 a0 w:=by refine ⟨im,fB,⟨⟨jZ,.refl _,.refl _,rfl,.refl _,rfl,If _,fun _ _ _=>rfl,fun _ _ h=> .inl h,fun _ _ h=> .inl h,fun t li k hl=>by cases hl⟩,rfl,If _,fun t li hl=>by cases hl⟩,⟨E4 xM _,rfl,?_⟩⟩;simp only [a0,afa,aeJ];show 1+(fn.ntmps-1)=_;omega
      have fin: ∀(st:St) (v':PV),lk 2 st.env=v'-> ∀a' w',At im fB [] w fn.ntmps st a' w'->
       a'.defers=[]/\ ∃u,(results fn a'.tmps).run P w'= .ok u w'/\ ∃v'':Value,Ending.returned u= .returned v''/\ ∃dJ bc,sQ im fB [] w v' st.aD st.fz dJ bc w' v'':=by
       intro st v' hv' a' w' cL
       obtain ⟨dJ,bc,hk,C4⟩:=cL.ex;obtain ⟨u,hu,nb⟩:=C5 (P:=P) (fn:=fn) hk.kept.sr C4.env zB (vs:=[v']) (by simp [mj,Cy,hv']);have K:=hk.kept;exact ⟨C4.defers,u,hu,u,rfl,dJ,bc,⟨K.fO,K.dy,nb,K.sr,K.os,K.tape,K.output,K.size,K.frame,K.dC,K.ma,K.own⟩⟩
      refine wp_seq ?_;refine jB R6 LS oL (xcA esz) _ st0 .normal {env:=[(0,.sl e cl rows)],aD:=[],fz:=[],kn:=0} hA rfl a0 w ajk _ fun a1 w1 ajl=>?_
      refine wp_seq (wp_seq ?_);refine wp_region ?_;have afx:ops= #[o1,o2]:=afk (by simpa using hl);subst afx;obtain ⟨Cc,cQ,gI,HU⟩:=ajl.ex;have Ez:=HU.env 0;have Ez:VR Cc cQ (.sl e cl rows) (a1.tmps.getD 0 Go.undef):=Ez;obtain ⟨ad,cap,RW,EB,Rq,kY⟩:=Ez.np;unfold pO at ho1;simp only [v6,beq_iff_eq] at ho1;obtain ⟨⟨⟨hd1,_⟩,hg1⟩,Pd⟩:=ho1;have ajm:o1.guard=afp:=by
       cases hg:o1.guard with
       |none=>rfl
       |some q=>rw [hg] at hg1;simp [sR] at hg1
      have afy: ∃x,(o1.op= .move x\/o1.op= .assign x)/\bn (.t 0) x=afA:=by cases ho:o1.op<;>rw [ho] at Pd<;>simp only [uW] at Pd<;>first|exact ⟨_,.inl rfl,Pd⟩|exact ⟨_,.inr rfl,Pd⟩|simp at Pd
      obtain ⟨x1,Oo,Zy⟩:=afy;have ajn:a1.eval x1= .slice ad (afn rows) cap:=by
       have h:=J0 (a:=a1) (e:=[(0,PV.sl e cl rows)]) (.t 0) (fun t ht=>by injection ht with ht;subst ht;exact HU.env 0) x1 Zy;cases x1 with
       |tmp t=>
        have:(0:Nat)=t:=by simpa [bn] using Zy
        subst this;simpa [Act.eval] using RW
       |_=>simp [bn] at Zy
      have afz:(execOp a1.eval o1).run P w1= .ok (.value (.slice ad (afn rows) cap)) w1:=by rcases Oo with h|h<;>simp [execOp,h,ajn]
      unfold Pc at ho2;simp only [v6,beq_iff_eq,Option.isNone_iff_eq_none] at ho2;obtain ⟨⟨hg2,hd2⟩,R7⟩:=ho2;split at R7
      case h_2=>cases R7
      rename_i ty x2 ub afB;simp only [v6] at R7;obtain ⟨hx2,bR⟩:=R7;have ajo:x2= .tmp 3:=by
       cases x2 with
       |tmp t=>
        have:(3:Nat)=t:=by simpa [bn] using hx2
        subst this;rfl
       |_=>simp [bn] at hx2
      subst ajo;unfold qj at bR;split at bR
      case h_2=>cases bR
      rename_i el mc;have ajp:a1.tmps.size=fn.ntmps:=HU.JG
      let a2:Act:=a1.put (afo 3) (.slice ad (afn rows) cap)
      have F1:a2.tmps.getD 3 Go.undef= .slice ad (afn rows) cap:=by simp only [a2,Act.put,adV];rw [ae8 (by omega)];rfl
      have afD:(execOp a2.eval o2).run P w1= .ok (.value (.bool ad.isNone)) w1:=by
       simp only [execOp,afB];refine dX ?_;have e3:a2.eval (.tmp 3)= .slice ad (afn rows) cap:=by simpa [Act.eval] using F1
       rw [e3];have hg:(eqGuard .eql ty (.tmp 3) (.const (.slice afp 0 0)) (.slice ad (afn rows) cap) (a2.eval (.const (.slice afp 0 0)))).run P w1= .ok () w1:=by unfold eqGuard;simp
       simp only [aew,hg,aeB];exact Lib.run_eql_slice_nil w1 ty el ad (afn rows) cap 0 0 mc
      let a3:Act:=a2.put (afo 4) (.bool ad.isNone)
      have Zz:At im fB [] w fn.ntmps {env:=[(0,.sl e cl rows)],aD:=[],fz:=[],kn:=0} a3 w1:=by
       refine ⟨Cc,cQ,gI,⟨fun t=>?_,HU.defers,by simp [a3,a2,Act.put,ajp]⟩⟩;have h:=HU.env t;simp only [pM] at h ⊢
       by_cases ht:t=0
       · subst ht
         simp only [if_true] at h ⊢;simpa [a3,a2,Act.put,adR] using h
       rw [ut (fun e=>ht e.symm)];exact .undef _
      have G6:a3.eval cc= .bool ad.isNone:=by
       cases cc with
       |tmp t=>
        have:(4:Nat)=t:=by simpa [bn] using Lx
        subst this;simp only [Act.eval,a3,Act.put,adV];rw [ae8 (by simp [a2,Act.put];omega)];rfl
       |_=>simp [bn] at Lx
      have ZA:List.range #[o1,o2].size=[0,1]:=rfl;rw [ZA];simp only [wpOps];have e0:(#[o1,o2]:Array Oper)[0]? =afo o1:=rfl;have e1:(#[o1,o2]:Array Oper)[1]? =afo o2:=rfl;rw [e0];dsimp only;have hw1:Region.wanted o1 (yielded #[o1,o2] a1.tmps)=afA:=by unfold Region.wanted;rw [ajm]
      rw [hw1,rc rfl];refine .inl ?_;unfold Oper.wp;rw [afz,Oper.upon_value,<- hd1,e1];dsimp only;have RQ:Region.wanted o2 (yielded #[o1,o2] (a1.put (afo 3) (.slice ad (afn rows) cap)).tmps)=afA:=by unfold Region.wanted;rw [hg2]
      rw [RQ,rc rfl];refine .inl ?_;rw [show a1.put (afo 3) (.slice ad (afn rows) cap)=a2 from rfl,afD,Oper.upon_value,hd2];show (Code.cond cc cn .skip).wp P _ a3 w1;cases had:ad with
      |none=>
       have EH:rows=[]:=by
        rcases rows with _|⟨r,rs⟩
        · rfl
        obtain ⟨b,o,h,_⟩:=kY (by simp)
        rw [had] at h;cases h
       subst EH;simp only [eJ,ww,IR] at hp;obtain ⟨rfl,rfl⟩:=hp;refine wp_cond_true (by rw [G6,had];rfl) ?_;refine jB R6 LS oL (xcN esz) _ _ .ret {env:=[(2,.sl esz afA [])],aD:=[],fz:=[],kn:=0} hN rfl a3 w1 Zz _ fun a4 w4 Pe=>?_
       obtain ⟨hdf,u',An,v'',ajq,dJ,bc,Ry⟩:=fin _ _ rfl a4 w4 Pe;refine ⟨hdf,u',An,v'',ajq,dJ,bc.set 1 ⟨0,0,esz,0,0⟩,?_⟩;have LU: ∀t,bc t=afp:=fun t=>by
        cases hl:bc t with
        |none=>rfl
        |some li=>obtain ⟨k,hk,_⟩:=Ry.sr.cS t li hl;simp at hk
       obtain ⟨ad',cI,hv3,_,ajr,_⟩:=Ry.vr.np;have Ey:cI=0:=by simpa using ajr rfl
       subst Ey;exact {
        fO:=Ry.fO,dy:=fun t li h=>by cases h
        vr:=by rw [hv3];exact .own 1 esz 0 0 0 afC ⟨0,0,esz,0,0⟩ ad' 0 (Loc.eo _ _ _) rfl (If _) (If _) (If _) (fun h=>by cases h) (.inl rfl)
        sr:={
         bA:=Ry.sr.bA
         cS:=fun t li h=>by
          unfold Loc.set at h;split at h
          · rename_i ht;subst ht;injection h with h;subst h
            exact ⟨_,rfl,rfl,rfl,fun h=>absurd rfl h⟩
          rw [LU t] at h;cases h
         gL:=fun t u li lj k k' h h' hs sN BZ=>by
          unfold Loc.set at h;split at h
          · rename_i ht;subst ht;simp at hs;subst hs;cases BZ
          rw [LU t] at h;cases h
         free:=fun t li k h hs BZ=>by
          unfold Loc.set at h;split at h
          · rename_i ht;subst ht;simp at hs;subst hs;cases BZ
          rw [LU t] at h;cases h}
        os:=Ry.os,tape:=Ry.tape,output:=Ry.output,size:=Ry.size,frame:=Ry.frame,dC:=Ry.dC
        ma:=fun t li h=> .inr (ae0 _)
        own:=fun t li k h hs BZ=>by
         unfold Loc.set at h;split at h
         · rename_i ht;subst ht;simp at hs;subst hs;cases BZ
         rw [LU t] at h;cases h}
      |some ad'=>
       refine wp_cond_false (by rw [G6,had];rfl) (wp_skip ?_);rcases rows with _|⟨r,rs⟩
       · simp only [eJ,ww,IR] at hp
         obtain ⟨rfl,rfl⟩:=hp;exact jB R6 LS oL (xcC esz zero) _ _ .ret {env:=[(2,.own 1 esz 0 0 0 afC)],aD:=[.arr esz [],.arr esz []],fz:=[],kn:=0} hC rfl a3 w1 Zz _ fun a4 w4 Pe=>fin _ _ rfl a4 w4 Pe
       simp only [eJ] at hp
       split at hp
       case isFalse=>cases hp
       rename_i LF;simp only [v6,Nat.beq_eq,aex] at LF;obtain ⟨rfl,jA⟩:=LF;simp only [ww,IR] at hp;obtain ⟨rfl,rfl⟩:=hp;have hap:gQ [.arr e []] [] e (.own 0 e 0 0 0 afA) (.sl e cl (r::rs))=afo {v:= .own 1 e 0 (0+(afn rs+1)) (0+(afn rs+1)) afC,news:=[.arr e (r::rs)],rd:=[0]}:=by
        have h1:AC e e=afA:=by simp
        have h2:adT (afn rs+1) 0=afC:=rfl;have h3:adT (0+(afn rs+1)) jU=afA:=by simpa using jA
        simp only [gQ,rowsOf,h1,if_true];simp [h2,jA,gP]
       refine jB R6 LS oL (xcC e zero) _ _ .ret {env:=[(2,.own 1 e 0 (0+(afn rs+1)) (0+(afn rs+1)) afC)],aD:=[.arr e [],.arr e (r::rs)],fz:=[],kn:=0} hC ?_ a3 w1 Zz _ fun a4 w4 Pe=>fin _ _ rfl a4 w4 Pe
       simp only [xcC,qP,jW,kX,wanted,uU,bq,eI.ev,lk];simp [oF,XR.ok,tF,XR.next,gK,Hj,fw,lk,hap]
    cases Nk
  cases j0
end
end Go.Vm
/- slices.Insert of one row: what it leaves of the memory. -/
namespace Go.Vm
section
variable {P : Program} {im dJ : Im} {loc bc : Loc} {aD : bY} {fz : List Nat} {w w' : World}
theorem BR.fh {li:LI} {k:iZ} (h:BR im loc w li k) (hi:mu im dJ) (hl:kQ loc bc) (hw:k.bC=afA->w'.heap[li.cS]? =w.heap[li.cS]?):BR dJ bc w' li k:=by
 cases hs:k.bC with
 |true=>exact h.mono hi hl (hw hs)
 |false=>
  cases k with
  |arr e rows=>
   cases rows with
   |nil=>exact ⟨h.1,h.2.1,fun dZ=>absurd rfl dZ⟩
   |cons r rs=>cases hs
  |box cs=>cases hs
  |map es=>cases hs
  |dead=>trivial
theorem AQ {r:mh} {t:Nat} {u:Value} (jZ:SR im loc aD fz w) (he:qX im loc aD w r dJ bc w') (qm:r.fr=[]) (hw:r.wr=[(t,.dead)]) (ht:t<afn aD) (hv:VR dJ bc r.v u):
 sQ im loc aD w r.v (aD.set t .dead++r.news) fz dJ bc w' u:=by
 have cy:(aD.set t .dead).length=(afn aD):=by simp
 have old: ∀t' li,loc t'=afo li->t'<(afn aD):=fun t' li h=>by obtain ⟨k,hk,_⟩:=jZ.cS t' li h;exact (EQ.1 hk).1
 have Nr: ∀t' li k,loc t'=afo li->(aD.set t .dead++r.news)[t']? =afo k->k.bC=afA->t'≠t/\aD[t']? =afo k:=by
  intro t' li k h hk hs;have dz:=old t' li h;rw [M2 (by omega),af3] at hk;split at hk
  · first|(injection hk with hk;subst hk;cases hs)|(split at hk<;>first|(injection hk with hk;subst hk;cases hs)|cases hk)
  rename_i dZ;exact ⟨fun e=>dZ e.symm,hk⟩
 have Ns: ∀t' k,afn aD<=t'->(aD.set t .dead++r.news)[t']? =afo k->r.news[t'-(afn aD)]? =afo k:=by
  intro t' k h hk
  rwa [adc (by omega),cy] at hk
 have E5: ∀t' li,bc t'=afo li->loc t'=afo li\/(afn aD<=t'/\t'=afn aD+(t'-(afn aD))):=by
  intro t' li h;rcases he.jN t' li h with h|⟨h,_⟩
  · exact .inl h
  exact .inr ⟨h,by omega⟩
 have imn: ∀b o,dJ b=afo o->im b=afo o\/w.heap.size<=b:=by
  intro b o h;rcases he.dC b o h with h|h|⟨t0,li,k,h,_⟩
  · exact .inl h
  · exact .inr h
  rw [qm] at h;cases h
 have afE: ∀t' li k,loc t'=afo li->aD[t']? =afo k->t'≠t->k.bC=afA->BR im loc w li k->w'.heap[li.cS]? =w.heap[li.cS]?:=by
  intro t' li k hl hk dZ hs hb;refine he.frame li.cS (hb.lt hs) fun t0 k1 l0 k0 hm G7 hk0 Gd e=>?_
  rw [hw] at hm;obtain ⟨rfl,rfl⟩:t0=t/\k1= .dead:=by simpa using hm
  exact dZ (jZ.gL _ _ _ _ _ _ hl G7 hk hk0 hs Gd e.symm)
 have R8: ∀t' li k,bc t'=afo li->afn aD<=t'->r.news[t'-(afn aD)]? =afo k->BR dJ bc w' li k/\
  (k.bC=afA->dJ li.cS=afp/\(w.heap.size<=li.cS\/ ∃lt k0,loc t=afo lt/\aD[t]? =afo k0/\k0.bC=afA/\lt.cS=li.cS)):=by
  intro t' li k hl kC hk;obtain ⟨h1,h2⟩:=he.news (t'-(afn aD)) k li hk (by rw [show (afn aD)+(t'-(afn aD))=t' by omega];exact hl);refine ⟨h1,fun hs=>⟨(h2 hs).1,?_⟩⟩;rcases (h2 hs).2 with h|⟨t0,lt,k0,hm,a,b,c,d⟩
  · exact .inl h
  rw [hw] at hm
  obtain rfl:t0=t:=by have:=ae6.1 hm;injection this
  exact .inr ⟨lt,k0,a,b,c,d⟩
 have apart: ∀t1 u1 li lj k k',loc t1=afo li->t1≠t->aD[t1]? =afo k->k.bC=afA->bc u1=afo lj->afn aD<=u1->r.news[u1-(afn aD)]? =afo k'->k'.bC=afA->li.cS≠lj.cS:=by
  intro t1 u1 li lj k k' hl dZ hk hs kV kC HQ sN e;obtain ⟨k2,Cb,hb⟩:=jZ.cS t1 li hl;rw [hk] at Cb;injection Cb with Cb;subst Cb;rcases ((R8 u1 lj k' kV kC HQ).2 sN).2 with h|⟨lt,k0,a,b,c,d⟩
  · have:=hb.lt hs;omega
  exact dZ (jZ.gL _ _ _ _ _ _ hl a hk b hs c (by rw [e,d]))
 exact {
  fO:=he.fO,dy:=he.dy,vr:=hv
  sr:={
   bA:=he.bA
   cS:=fun t' li h=>by
    rcases E5 t' li h with ho|⟨kC,_⟩
    · obtain ⟨k,hk,hb⟩:=jZ.cS t' li ho
      have dz:=old t' li ho
      by_cases e:t'=t
      · subst e
        exact ⟨.dead,by rw [M2 (by omega),List.getElem?_set_self (by omega)],trivial⟩
      refine ⟨k,by rw [M2 (by omega),aeH (fun x=>e x.symm)];exact hk,hb.fh he.fO he.dy fun hs=>afE t' li k ho hk e hs hb⟩
    have hn:t'-(afn aD)<(afn r.news):=by
     rcases he.jN t' li h with ho|⟨_,h2⟩
     · have:=old t' li ho;omega
     omega
    obtain ⟨hb,_⟩:=R8 t' li _ h kC (v4 hn);exact ⟨_,by rw [adc (by omega),cy];exact v4 hn,hb⟩
   gL:=fun t1 u1 li lj k k' hl kV hk HQ hs sN e=>by
    rcases E5 t1 li hl with h1|⟨h1,_⟩<;>rcases E5 u1 lj kV with h2|⟨h2,_⟩
    · obtain ⟨n1,e1⟩:=Nr _ _ _ h1 hk hs
      obtain ⟨n2,e2⟩:=Nr _ _ _ h2 HQ sN;exact jZ.gL _ _ _ _ _ _ h1 h2 e1 e2 hs sN e
    · obtain ⟨n1,e1⟩:=Nr _ _ _ h1 hk hs
      exact absurd e (apart _ _ _ _ _ _ h1 n1 e1 hs kV h2 (Ns _ _ h2 HQ) sN)
    · obtain ⟨n2,e2⟩:=Nr _ _ _ h2 HQ sN
      exact absurd e.symm (apart _ _ _ _ _ _ h2 n2 e2 sN hl h1 (Ns _ _ h1 hk) hs)
    have:=he.distinct (t1-(afn aD)) (u1-(afn aD)) k k' li lj (Ns _ _ h1 hk) (Ns _ _ h2 HQ) hs sN (by rw [show (afn aD)+(t1-(afn aD))=t1 by omega];exact hl) (by rw [show (afn aD)+(u1-(afn aD))=u1 by omega];exact kV) e
    omega
   free:=fun t' li k hl hk hs hz=>by
    rcases E5 t' li hl with h1|⟨h1,_⟩
    · obtain ⟨n1,e1⟩:=Nr _ _ _ h1 hk hs
      obtain ⟨k2,Cb,hb⟩:=jZ.cS t' li h1;rw [e1] at Cb;injection Cb with Cb;subst Cb;have h0:=jZ.free t' li k h1 e1 hs hz;cases hi:dJ li.cS with
      |none=>rfl
      |some o=>
       rcases imn _ _ hi with h|h
       · rw [h0] at h;cases h
       have:=hb.lt hs;omega
    exact ((R8 t' li k hl h1 (Ns _ _ h1 hk)).2 hs).1}
  os:=he.os,tape:=he.tape,output:=he.output,size:=he.size
  frame:=fun b hb h=>he.frame b hb fun t0 k li k0 hm hl hk hs=>h t0 li k0 hl hk hs
  dC:=fun b o h=>by
   rcases imn b o h with h|h
   · exact .inl h
   exact .inr (.inl h)
  ma:=fun t' li h=>by
   rcases E5 t' li h with h|⟨h,_⟩
   · exact .inl h
   exact .inr h
  own:=fun t' li k hl hk hs=>by
   rcases E5 t' li hl with h1|⟨h1,_⟩
   · obtain ⟨n1,e1⟩:=Nr _ _ _ h1 hk hs
     exact .inr ⟨t',li,k,h1,e1,hs,rfl⟩
   rcases ((R8 t' li k hl h1 (Ns _ _ h1 hk)).2 hs).2 with h|⟨lt,k0,a,b,c,d⟩
   · exact .inl h
   exact .inr ⟨t,lt,k0,a,b,c,d⟩}
theorem SR.E6 (h:SR im loc aD fz w):loc (afn aD)=afp:=by
 cases hl:loc (afn aD) with
 |none=>rfl
 |some li=>obtain ⟨k,hk,_⟩:=h.cS _ _ hl;simp at hk
theorem Nt {t e:Nat} {li:LI} {rows L:List Row} {arr fin:Array Value} {el:TypeId} (jZ:SR im loc aD fz w) (hl:loc t=afo li) (bR:aD[t]? =afo (.arr e rows)) (dZ:rows≠[]) (hf:has fz t=afC)
 (ha:w.heap[li.cS]? =afo (.cells arr el (0,0))) (hh:w'.heap=w.heap.setIfInBounds li.cS (.cells fin el (0,0))) (ho:w'.os=w.os) (ht:Tape w w') (hp:w'.output=w.output)
 (o9:fin.size=li.sz) (sM:li.sh+afn L*e<=li.sz) (hr:bF (fun k=>fin[k]?) li.sh e L):
 qX im loc aD w {v:= .own (afn aD) e 0 (afn L) (afn L) afC,news:=[.arr e L],wr:=[(t,.dead)]} im (loc.set (afn aD) ⟨li.cS,li.sh,e,afn L,li.sz⟩) w':=by
 have dz:=(NE.1 ha).1;have yp:(iZ.arr e rows).bC=afA:=lK dZ;have zn:=jZ.free t li _ hl bR yp hf;have OI:=jZ.E6;exact {
  fO:= .refl _,dy:=Loc.vD _ OI
  bA:=fun b o hb=>by
   have h1:=jZ.bA b o hb;have JQ:li.cS≠b:=fun e=>by rw [e,hb] at zn;cases zn
   rw [hh,adR,ut JQ];exact h1
  dC:=fun _ _ h=> .inl h,os:=ho,tape:=ht,output:=hp
  size:=by rw [hh];simp
  MX:=fun t' k hm hs=>by
   obtain ⟨rfl,rfl⟩:t'=t/\k= .dead:=by simpa using hm
   cases hs
  frame:=fun b _ hb=>by have JQ:=hb t .dead li _ (ae6.2 rfl) hl bR yp;rw [hh,adR,ut JQ]
  wr:=fun t' k li hm kV=>by
   obtain ⟨rfl,rfl⟩:t'=t/\k= .dead:=by simpa using hm
   trivial
  jN:=fun t' l h=>by
   unfold Loc.set at h;split at h
   · rename_i e;subst e;exact .inr ⟨If _,by simp⟩
   exact .inl h
  news:=Az fun j k hj=>by
   cases j with
   |zero=>simp at hj;subst hj;refine ⟨_,Loc.eo _ _ _,⟨rfl,rfl,fun _=>⟨fin,el,by rw [hh];simp [dz],o9,sM,hr⟩⟩,fun _=>⟨zn,.inr ⟨t,li,_,ae6.2 rfl,hl,bR,yp,rfl⟩⟩⟩
   |succ j=>simp at hj
  distinct:=fun i j ki kj li lj h1 h2 _ _ _ _ _=>by cases i<;>cases j<;>simp at h1 h2<;>rfl}
theorem Nu {t e:Nat} {L:List Row} {fin:Array Value} {el:TypeId} (jZ:SR im loc aD fz w)
 (hh:w'.heap=w.heap.push (.cells fin el (0,0))) (ho:w'.os=w.os) (ht:Tape w w') (hp:w'.output=w.output)
 (sM:(afn L)*e<=fin.size) (hr:bF (fun k=>fin[k]?) 0 e L):
 qX im loc aD w {v:= .own (afn aD) e 0 (afn L) (afn L) afC,news:=[.arr e L],wr:=[(t,.dead)]} im (loc.set (afn aD) ⟨w.heap.size,0,e,afn L,fin.size⟩) w':=by
 have OI:=jZ.E6;have old: ∀b,b<w.heap.size->w'.heap[b]? =w.heap[b]?:=fun b hb=>by rw [hh,Array.getElem?_push,ut (by omega)]
 have dz: ∀b o,im b=afo o->b<w.heap.size:=fun b o h=>(NE.1 (jZ.bA b o h)).1
 exact {
  fO:= .refl _,dy:=Loc.vD _ OI
  bA:=fun b o hb=>by rw [old b (dz b o hb)];exact jZ.bA b o hb
  dC:=fun _ _ h=> .inl h,os:=ho,tape:=ht,output:=hp
  size:=by rw [hh];simp
  MX:=fun t' k hm hs=>by
   obtain ⟨rfl,rfl⟩:t'=t/\k= .dead:=by simpa using hm
   cases hs
  frame:=fun b hb _=>old b hb
  wr:=fun t' k li hm kV=>by
   obtain ⟨rfl,rfl⟩:t'=t/\k= .dead:=by simpa using hm
   trivial
  jN:=fun t' l h=>by
   unfold Loc.set at h;split at h
   · rename_i e;subst e;exact .inr ⟨If _,by simp⟩
   exact .inl h
  news:=Az fun j k hj=>by
   cases j with
   |zero=>
    simp at hj;subst hj;refine ⟨_,Loc.eo _ _ _,⟨rfl,rfl,fun _=>⟨fin,el,by rw [hh];simp,rfl,by simpa using sM,hr⟩⟩,fun _=>⟨?_,.inl (If _)⟩⟩;cases hi:im w.heap.size with
    |none=>rfl
    |some o=>have:=dz _ _ hi;omega
   |succ j=>simp at hj
  distinct:=fun i j ki kj li lj h1 h2 _ _ _ _ _=>by cases i<;>cases j<;>simp at h1 h2<;>rfl}
theorem E7 {esz:Nat}: ∀{rows:List Row} (_: ∀r∈rows,afn r=esz) (i:Nat),(rows.take i).flatMap aZ=(rows.flatMap aZ).take (i*esz)
 | [],_,i=>by simp
 |r::rs,h,0=>by simp
 |r::rs,h,i+1=>by
  have hr:(aZ r).length=esz:=by rw [jY];exact h r (by simp)
  have e1:(aZ r).take ((i+1)*esz)=aZ r:=ae7 (by rw [hr,aeK];omega);rw [List.take_succ_cons,aeC,E7 (fun x hx=>h x (by simp [hx])) i,aeC,List.take_append,e1,hr,show (i+1)*esz-esz=i*esz by rw [aeK];omega]
theorem E8 {esz:Nat}: ∀{rows:List Row} (_: ∀r∈rows,afn r=esz) (i:Nat),(rows.drop i).flatMap aZ=(rows.flatMap aZ).drop (i*esz)
 | [],_,i=>by simp
 |r::rs,h,0=>by simp
 |r::rs,h,i+1=>by
  have hr:(aZ r).length=esz:=by rw [jY];exact h r (by simp)
  have e1:(aZ r).drop ((i+1)*esz)=[]:=aeD (by rw [hr,aeK];omega);rw [List.drop_succ_cons,E8 (fun x hx=>h x (by simp [hx])) i,aeC,List.drop_append,e1,hr,show (i+1)*esz-esz=i*esz by rw [aeK];omega,List.nil_append]
theorem SR.Nv (h:SR im loc aD fz w) {t:Nat} (hf:has fz t=afC) {r:mh} (hw:r.wr=[(t,.dead)]):ik im loc aD w r where
 bA:=h.bA
 tok:=fun t _ li hl=>h.cS t li hl
 free:=fun t' k hm li k' hl hk hs=>by
  rw [hw] at hm;obtain rfl:t'=t:=by have:=ae6.1 hm;injection this
  exact h.free t' li k' hl hk hs hf
 fresh:=fun j hj=>by
  cases hl:loc (afn aD+j) with
  |none=>rfl
  |some li=>obtain ⟨k,hk,_⟩:=h.cS _ _ hl;rw [List.getElem?_eq_none (by omega)] at hk;cases hk
 gL:=fun t u li lj k k' _ _=>h.gL t u li lj k k'
structure Pf (P:Program) (f:FuncId) (e:Nat) (tS:TypeId):Prop where
 ends: ∀(qo:Option Addr) (n c vb HV vc:Nat) (w w':World) (v':Value),n<=c->(Builtin.append_ #[tS,tS] tS #[.slice qo n c,.slice (afo ⟨vb,HV,afp⟩) 1 vc]).run P w= .ok v' w'->
  Calls P f #[.slice qo n c,.int .i64 n,.slice (afo ⟨vb,HV,afp⟩) 1 vc] w fun e W=>e= .returned v'/\W=w'
 room: ∀(b off n c i vb HV vc:Nat) (cs vs:List Value) (arr av:Array Value) (el ev:TypeId) (w:World),i<n->n+1<=c->n<=1048576->vb≠b->w.heap[b]? =afo (.cells arr el (0,0))->w.heap[vb]? =afo (.cells av ev (0,0))->
  off+(n+1)*e<=arr.size->afn cs=n*e->afn vs=e->(∀(j:Nat) (v:Value),cs[j]? =afo v->arr[off+j]? =afo v)->(∀(j:Nat) (v:Value),vs[j]? =afo v->av[HV+j]? =afo v)->(∀v∈cs,v.oneCell'=afA)->(∀v∈vs,v.oneCell'=afA)->
  ∃fin:List Value,afn fin=arr.size/\(∀(j:Nat) (v:Value),(cs.take (i*e)++vs++cs.drop (i*e))[j]? =afo v->fin[off+j]? =afo v)/\
  Calls P f #[.slice (afo ⟨b,off,afp⟩) n c,.int .i64 i,.slice (afo ⟨vb,HV,afp⟩) 1 vc] w fun x w'=>
   x= .returned (.slice (afo ⟨b,off,afp⟩) (n+1) c)/\w'.heap=w.heap.setIfInBounds b (.cells fin.toArray el (0,0))/\w'.os=w.os/\Tape w w'/\w'.output=w.output
 full: ∀(b off n i vb HV vc:Nat) (cs vs:List Value) (w:World),i<n->n<=1048576->afn cs=n*e->afn vs=e->
  (∀(j:Nat) (v:Value),cs[j]? =afo v->w.cell? ⟨b,off+j,afp⟩=afo v)->(∀(j:Nat) (v:Value),vs[j]? =afo v->w.cell? ⟨vb,HV+j,afp⟩=afo v)->(∀v∈cs,v.oneCell'=afA)->(∀v∈vs,v.oneCell'=afA)->
  ∃(G:Nat) (fin:List Value) (el:TypeId),n+1<=G/\afn fin=G*e/\(∀(j:Nat) (v:Value),(cs.take (i*e)++vs++cs.drop (i*e))[j]? =afo v->fin[j]? =afo v)/\
  Calls P f #[.slice (afo ⟨b,off,afp⟩) n n,.int .i64 i,.slice (afo ⟨vb,HV,afp⟩) 1 vc] w fun x w'=>
   x= .returned (.slice (afo ⟨w.heap.size,0,afp⟩) (n+1) G)/\w'.heap=w.heap.push (.cells fin.toArray el (0,0))/\w'.os=w.os/\Tape w w'/\w'.output=w.output
theorem Nc.ins {f:FuncId} {e:Nat} {tS tE:TypeId} {fn:Func} {c:Code} {i0:TypeInfo} {z:Value} (hf:P.funcs[f]? =afo fn) (rh:(fn.name== "runtime.NumGoroutine")=afC) (hb:fn.body=afo c)
 (ht:P.underlying tS=afo (.slice tE)) (hi:P.info? tE=afo i0) (o9:i0.size=e) (hz:i0.zero=afo z) (RJ:z.cells.size=e) (JO:i0.bytes<=1048576) (he0:0<e) (H:Pf P f e tS):Nc P f (Oy e):=by
 refine ⟨fn,c,hf,rh,hb,?_⟩;intro args aD fz v tM G' hp im loc w us jZ xM;unfold Oy at hp;split at hp
 case h_2=>cases hp
 rename_i t e1 off len cap ex i u e2 aeP Hk Pg ex2;split at hp
 case h_2=>cases hp
 rename_i e3 rows e4 new bR hsu;split at hp
 case isFalse=>cases hp
 rename_i hc;simp only [v6,Nat.beq_eq,UV,decide_eq_true_eq,aex] at hc;obtain ⟨⟨⟨⟨⟨⟨⟨⟨⟨⟨⟨q1,q2⟩,rfl⟩,rfl⟩,cy⟩,rfl⟩,zm⟩,htu⟩,OF⟩,Yy⟩,hil⟩,jA⟩:=hc;have q1:=q1.symm;subst q1;have q2:=q2.symm;subst q2;have jA:len+1<=1048576:=jA;injection hp with hp;simp only [IR] at hp;obtain ⟨rfl,rfl,rfl⟩:=hp;obtain ⟨k,rfl⟩: ∃k:Nat,i=(k:Int):=⟨i.toNat,by omega⟩;simp only [Int.toNat_natCast] at hil ⊢;obtain ⟨x0,Yz,rfl,Ez,xM⟩: ∃x0 Yz,us=x0::Yz/\VR im loc (.own t e 0 len cap ex) x0/\eh im loc [.int .i64 (k:Int),.own u e 0 1 Pg ex2] Yz:=by cases xM with|cons _ a _ b h1 h2=>exact ⟨a,b,rfl,h1,h2⟩
 obtain ⟨x1,us2,rfl,Oo,xM⟩: ∃x1 us2,Yz=x1::us2/\VR im loc (.int .i64 (k:Int)) x1/\eh im loc [.own u e 0 1 Pg ex2] us2:=by cases xM with|cons _ a _ b h1 h2=>exact ⟨a,b,rfl,h1,h2⟩
 obtain ⟨x2,us3,rfl,hx2,xM⟩: ∃x2 us3,us2=x2::us3/\VR im loc (.own u e 0 1 Pg ex2) x2/\eh im loc [] us3:=by cases xM with|cons _ a _ b h1 h2=>exact ⟨a,b,rfl,h1,h2⟩
 obtain rfl:us3=[]:=by cases xM;rfl
 have Oo:=Oo.fH;subst Oo;obtain ⟨li,a,cI,rfl,hl,he,BV,hlc,Lx,_,BX⟩:=Ez.gG;obtain ⟨lj,a2,Ph,rfl,Hs,vq,am6,aos,aot,_,afH⟩:=hx2.gG;have Nm:t<(afn aD):=(EQ.1 bR).1;obtain ⟨k1,gI,qQ⟩:=jZ.cS t li hl;rw [bR] at gI;injection gI with gI;subst gI;obtain ⟨k2,Cb,aju⟩:=jZ.cS u lj Hs;rw [hsu] at Cb;injection Cb with Cb;subst Cb;obtain ⟨b1,b2,b3⟩:=qQ;obtain ⟨d1,d2,d3⟩:=aju;have ZB:new≠[]:=by intro h;subst h;simp at zm
 obtain ⟨av,ev,M',hv2,hv3,ZC⟩:=d3 ZB;have e34:e=e3:=by rw [<- b1,he]
 subst e34;have e44:e=e4:=by rw [<- d1,vq]
 subst e44;obtain rfl:a2=afo ⟨lj.cS,lj.sh,afp⟩:=by
  rcases afH with h|⟨_,h,_⟩
  · omega
  simpa using h
 have EE:=ZC.my;have Ok:=ZC.plain;have EF:=dp EE;rw [zm] at EF;refine .inr ⟨iG hf rh hb,?_⟩;rcases adZ k len with hk|hk
 ·
  have mz:rows≠[]:=by intro h;subst h;simp at cy;omega
  obtain ⟨arr,el,q8,F1,G6,cL⟩:=b3 mz;obtain ⟨RK,rfl,sM⟩:li.n≠0/\a=afo ⟨li.cS,li.sh,afp⟩/\li.sh+cI*e<=li.sz:=by
   rcases BX with h|⟨h1,h2,h3⟩
   · omega
   exact ⟨h1,by simpa using h2,by simpa using h3⟩
  have Hq:=cL.my;have RO:=cL.plain;have OG:=dp Hq;rw [<- cy] at OG;obtain ⟨L,hL⟩: ∃L,L=rows.take k++new++rows.drop k:=⟨_,rfl⟩;have hLl:(afn L)=len+1:=by rw [hL];simp only [aep,List.length_take,List.length_drop,zm];omega
  have hLf:L.flatMap aZ=(rows.flatMap aZ).take (k*e)++new.flatMap aZ++(rows.flatMap aZ).drop (k*e):=by rw [hL,aeS,aeS,E7 Hq,E8 Hq]
  have hLr: ∀r∈L,afn r=e:=by
   intro r hr;rw [hL] at hr;rcases ae1.1 hr with h|h
   · rcases ae1.1 h with h|h
     · exact Hq r (aeL h)
     exact EE r h
   exact Hq r (aeM h)
  have hLp: ∀r∈L,∀c∈r,c.plain=afA:=by
   intro r hr;rw [hL] at hr;rcases ae1.1 hr with h|h
   · rcases ae1.1 h with h|h
     · exact RO r (aeL h)
     exact Ok r h
   exact RO r (aeM h)
  rw [<- hL,<- hLl];have p8: ∀j v,(rows.flatMap aZ)[j]? =afo v->arr[li.sh+j]? =afo v:=fun j v hj=>cL.flat j v hj
  have Rs: ∀j v,(new.flatMap aZ)[j]? =afo v->av[lj.sh+j]? =afo v:=fun j v hj=>ZC.flat j v hj
  have EC:(len+1)*e<=cI*e\/cI=len:=by
   rcases adZ len cI with h|h
   · exact .inl (aeQ _ h)
   exact .inr (by omega)
  rcases EC with vJ|LQ
  · have afJ:len+1<=cI:=Nat.le_of_mul_le_mul_right vJ he0
    have dZ:lj.cS≠li.cS:=fun h=>by have:=jZ.gL u t lj li _ _ Hs hl hsu bR (lK ZB) (lK mz) h;rw [this] at htu;simp at htu
    obtain ⟨fin,f1,f2,f3⟩:=H.room li.cS li.sh len cI k lj.cS lj.sh Ph _ _ arr av el ev w hk afJ (by omega) dZ q8 M' (by omega) OG (by omega) p8 Rs (qn RO) (qn Ok);refine f3.mono fun x w' ⟨hx,hh,ho,htp,hpp⟩=>⟨_,hx,im,loc.set (afn aD) ⟨li.cS,li.sh,e,afn L,li.sz⟩,?_⟩
    have hE:=Nt (w':=w') (L:=L) jZ hl bR mz OF q8 hh ho htp hpp (by simp [f1,F1]) (by rw [hLl];omega) (bF.AA hLr hLp fun j v hj=>by rw [hLf] at hj;simpa using f2 j v hj);refine AQ jZ hE rfl rfl Nm ?_;rw [<- hLl];exact .own _ _ 0 _ _ afC ⟨li.cS,li.sh,e,afn L,li.sz⟩ _ cI (Loc.eo _ _ _) rfl (by show 0+afn L<=afn L;omega) (If _) (by omega) (fun h=>by cases h) (.inr ⟨by show (afn L)≠0;omega,by simp,by show li.sh+(0+cI)*e<=li.sz;rw [Nat.zero_add];exact sM⟩)
  subst LQ
  obtain ⟨G,fin,el',g1,g2,g3,g4⟩:=H.full li.cS li.sh cI k lj.cS lj.sh Ph _ _ w hk (by omega) OG (by omega) (fun j v hj=>by simp only [afc,q8];exact p8 j v hj) (fun j v hj=>by simp only [afc,M'];exact Rs j v hj) (qn RO) (qn Ok);have hg:(cI+1)*e<=G*e:=aeQ _ g1;refine g4.mono fun x w' ⟨hx,hh,ho,htp,hpp⟩=>⟨_,hx,im,loc.set (afn aD) ⟨w.heap.size,0,e,afn L,fin.toArray.size⟩,?_⟩
  have hE:=Nu (w':=w') (t:=t) (L:=L) (e:=e) jZ hh ho htp hpp (by rw [hLl];simp [g2];omega) (bF.AA hLr hLp fun j v hj=>by rw [hLf] at hj;simpa using g3 j v hj);refine AQ jZ hE rfl rfl Nm ?_;rw [<- hLl];exact .own _ _ 0 _ _ afC ⟨w.heap.size,0,e,afn L,fin.toArray.size⟩ _ G (Loc.eo _ _ _) rfl (by show 0+afn L<=afn L;omega) (If _) (by omega) (fun h=>by cases h) (.inr ⟨by show (afn L)≠0;omega,by simp,by show 0+(0+G)*e<=fin.toArray.size;simp [g2]⟩)
 ·
  obtain rfl:k=len:=by omega
  have ajv:rows.take k++new++rows.drop k=rows++new:=by rw [ae7 (by omega),aeD (by omega),List.append_nil]
  rw [ajv];have ajw:VR im loc (.own t e 0 k k afC) (.slice a k cI):= .own t e 0 k k afC li a cI hl he (by omega) (If _) (by omega) (by simp) BX;have zd:rowsOf aD e (.own u e 0 1 Pg ex2)=afo new:=by
   have:(new.drop 0).take 1=new:=by rw [afl,ae7 (by omega)]
   show (if AC e e=afA then (match aD[u]? with|some (.arr _ rows)=>afo ((rows.drop 0).take 1)|_=>afp) else afp)=_;rw [rc (Nat.beq_refl e),hsu];exact congrArg afo this
  have hap:gQ aD fz e (.own t e 0 k k afC) (.own u e 0 1 Pg ex2)=afo {v:= .own (afn aD) e 0 (k+1) (k+1) afC,news:=[.arr e (rows++new)],wr:=[(t,.dead)],rd:=[u]}:=by
   have h1:adT (k+1) k=afC:=by
    cases h:adT (k+1) k with
    |false=>rfl
    |true=>have:=Nat.le_of_ble_eq_true h;omega
   have h2:adT (k+1) jU=afA:=by simpa [jU] using jA
   have h3:(rows.drop 0).take k=rows:=by rw [afl,ae7 (by omega)]
   unfold gQ;rw [zd];cases new with
   |nil=>exact absurd rfl ZB
   |cons r rs=>have h0:(r::rs).length=1:=zm;simp only [h0,bR,h1,h2,h3,OF,gP];simp
  obtain ⟨v',w',bc,bQ,nb,hE⟩:=CE (P:=P) (w:=w) (ty:=tS) ht ht hi o9 hz RJ JO ajw hx2 hap (jZ.Nv OF rfl);refine (H.ends a k cI lj.cS lj.sh Ph w w' v' (by omega) bQ).mono fun x W ⟨hx,hW⟩=>⟨v',hx,im,bc,?_⟩
  subst hW;exact AQ jZ hE rfl rfl Nm nb
end
end Go.Vm
/- A table of functions as a tree. -/
namespace Go.Vm
inductive TT where
 |nil
 |leaf (k:Nat) (e:Yf)
 |node (m:Nat) (a b:TT)
def TT.get:TT->Nat->Option Yf
 | .nil,_=>afp
 | .leaf k e,f=>bif AC f k then afo e else afp
 | .node m a b,f=>bif aes f m then a.get f else b.get f
def TT.All (p:Nat->Yf->Prop):TT->Prop
 | .nil=>True
 | .leaf k e=>p k e
 | .node _ a b=>a.All p/\b.All p
theorem TT.zC {p:Nat->Yf->Prop}: ∀{t:TT} {f:Nat} {e:Yf},t.All p->t.get f=afo e->p f e
 | .nil,f,e,_,h=>by cases h
 | .leaf k e',f,e,ha,h=>by
  simp only [TT.get] at h;cases hk:AC f k with
  |false=>rw [hk] at h;cases h
  |true=>
   rw [hk] at h;have:f=k:=by simpa using hk
   subst this;have h:afo e'=afo e:=h;injection h with h;subst h;exact ha
 | .node m a b,f,e,ha,h=>by
  simp only [TT.get] at h;cases hk:aes f m with
  |false=>rw [hk] at h;exact TT.zC ha.2 h
  |true=>rw [hk] at h;exact TT.zC ha.1 h
def vS (P:Program) (f:Nat):Yf->Prop
 | .code x=>aA P (fun _=>afA) x f=afA
 | .jf k p=>k=afC/\F' P f p
 | .MU p=>Nc P f p
theorem TT.afM {P:Program} {t:TT} (h:t.All (vS P)):HR P (fun _=>afA) t.get:=fun f x hf=>by have:=TT.zC h hf;exact this
theorem TT.R9 {P:Program} {t:TT} (h:t.All (vS P)):w5 P t.get:=⟨fun _ _ _ hf=>TT.zC h hf,fun _ _ hf=>TT.zC h hf⟩
end Go.Vm
/- The logical machine's code of a function, reckoned from the model's own (what it comes to is looked at by chkFunc; nothing is proved of it here). -/
namespace Go.Vm
structure Hint where
 md:FuncId->CM
 fh:List Nat
 ajx:List (Nat×List (Nat×Nat)):=[]
 more:List (Nat×List (Nat×Option Nat)):=[]
 tb:Bool:=afC
section
variable (P : Program)
def Nw (t:TypeId):Nat:=match P.info? t with
 |some i=>i.size
 |none=>0
def J8 (t:TypeId):Option Nat:=match P.underlying t with
 |some (.struct _)|some (.array _ _)=>afo (Nw P t)
 |_=>afp
def rY:Nat->TypeId->List PV
 |0,_=>[]
 |n+1,t=>match P.underlying t with
  |some (.int k)=>[.int k 0]
  |some .bool=>[.bool afC]
  |some .string=>[.str .empty]
  |some (.slice e)=>[.sl (Nw P e) afA []]
  |some (.struct fs)=>fs.toList.flatMap fun f=>rY n f.type
  |some (.array m e)=>(aeq m (rY n e)).flatten
  |some (.func ..)=>[.dw]
  |_=>[.undef]
def YA (t:TypeId):PV:=match rY P 9 t with
 |x::_=>x
 | []=> .sl 0 afA []
def YB (t:TypeId):PV:=match J8 P t with
 |some _=> .agg (rY P 9 t)
 |none=>YA P t
def YC (z:PV):Value->PV
 | .int k n=> .int k n
 | .bool b=> .bool b
 | .string s=> .str s
 | .slice .. =>z
 | .nilFunc=> .dw
 |_=> .undef
def YD:List PV->List Value->List PV
 |z::zs,v::vs=>YC z v::YD zs vs
 |_,_=>[]
def ajy (t:TypeId):Value->PV
 | .agg vs=> .agg (YD (rY P 9 t) vs.toList)
 |v=>YC (YA P t) v
def pP (t:TypeId):Operand->eI
 | .tmp n=> .t n
 | .const v=> .c (ajy P t v)
 | .func f=> .c (.ef f [] [])
 | .global _=> .c .undef
def Pj:List TypeId->List Operand->List eI
 |t::ts,o::os=>pP P t o::Pj ts os
 |_,_=>[]
def fK:Operand->eI
 | .tmp n=> .t n
 | .const (.int k n)=> .c (.int k n)
 | .const (.bool b)=> .c (.bool b)
 | .const (.string s)=> .c (.str s)
 | .func f=> .c (.ef f [] [])
 |_=> .c .undef
def xR (t:TypeId):TypeId:=match P.underlying t with
 |some (.slice e)=>e
 |some (.array _ e)=>e
 |_=>0
def Pk (place:Nat->Option (Nat×Nat)) (ty:Nat->TypeId):List (Nat×Operand)->List (Nat×Nat×eI)
 | []=>[]
 |(i,o)::r=>match place i with
  |some (a,b)=>(a,b,pP P (ty i) o)::Pk place ty r
  |none=>[]
def Pm (t:TypeId) (i:Nat):TypeId:=match P.underlying t with
 |some (.struct fs)=>match fs[i]? with
  |some f=>f.type
  |none=>0
 |some (.array _ e)=>e
 |_=>0
def afN (t:TypeId) (i:Nat):Nat:=match P.underlying t with
 |some (.struct fs)=>match fs[i]? with
  |some f=>f.offset
  |none=>0
 |_=>0
def YE:BinOp->Bool
 | .neq=>afA
 |_=>afC
def Pn (b:Builtin) (args:List Operand) (ts:List TypeId):jL:=
 match b,args,ts with
 | .len,x::_,t::_=>match P.underlying t with
  |some (.slice _)|some (.map _ _)=> .len (pP P t x)
  |some (.array m _)=> .JI m
  |some (.pointer e)=>match P.underlying e with
   |some (.array m _)=> .JI m
   |_=> .bad
  |_=> .bad
 | .append,[x,y],[t,u]=>match P.underlying u with
  |some (.slice _)=> .append (Nw P (xR P t)) (pP P t x) (pP P u y)
  |_=> .bad
 | .copy,[x,y],[t,u]=>match P.underlying u with
  |some (.slice _)=> .copy (Nw P (xR P t)) (pP P t x) (pP P u y)
  |_=> .bad
 | .clear,[x],[t]=>match P.underlying t with
  |some (.slice e)=> .clear (Nw P e) (rY P 9 e) (pP P t x)
  |_=> .bad
 | .min,x::xs,_=> .mm afC (fK x) (xs.map fK)
 | .max,x::xs,_=> .mm afA (fK x) (xs.map fK)
 |_,_,_=> .bad
def cOp (tb:Bool) (md:FuncId->CM) (ty:TypeId):Op->jL
 | .move x| .assign x=> .Oi (pP P ty x)
 | .pick c a b=> .pick (fK c) (pP P ty a) (pP P ty b)
 | .binOp op t x y _=>match P.underlying t with
  |some (.int _)=> .bin op (fK x) (fK y)
  |some .bool=> .Hc (YE op) (fK x) (fK y)
  |some (.struct _)|some (.array _ _)=> .Yb (Nw P t) (YE op) (pP P t x) (pP P t y)
  |_=> .bad
 | .unOp op _ x=> .un op (fK x)
 | .convert _ t x=>match P.underlying t with
  |some (.int k)=> .conv k (fK x)
  |_=> .bad
 | .box t x=> .box (pP P t x)
 | .alloc t=> .alloc (rY P 9 t)
 | .build t ps=> .build (rY P 9 t) (Pk P (placeOf P t) (Pm P t) ps.toList)
 | .buildSlice t n ps=>match P.underlying (xR P t),n,ps.toList with
  |some (.slice _),2,[(0,a),(1,b)]=> .Bm (pP P (xR P t) a) (pP P (xR P t) b)
  |_,_,_=> .zf (Nw P (xR P t)) n (rY P 9 (xR P t)) (ps.toList.map fun p=>(p.1,pP P (xR P t) p.2))
 | .load t a=> .load (J8 P t) (fK a)
 | .store t a v=> .store (Nw P t) (fK a) (pP P t v)
 | .nilCheck x=> .Hd (fK x)
 | .fieldAddr t a f=> .He (afN P t f) (fK a)
 | .field t a f=> .jT (J8 P (Pm P t f)) (afN P t f) (fK a)
 | .indexAddr t a j=>match P.underlying t with
  |some (.slice e)=> .Hf (Nw P e) (pP P t a) (fK j)
  |some (.array m e)=> .Bn m (Nw P e) (fK a) (fK j)
  |_=> .bad
 | .index t a j=>match P.underlying t with
  |some (.array m e)=> .idx m (Nw P e) (J8 P e) (pP P t a) (fK j)
  |some .string=> .Hg (fK a) (fK j)
  |_=> .bad
 | .slice t a b c d=>match P.underlying t with
  |some (.slice e)=> .MT (Nw P e) (pP P t a) (b.map fK) (c.map fK) (d.map fK)
  |_=> .bad
 | .makeSlice t a b=> .Yc (Nw P (xR P t)) (rY P 9 (xR P t)) (fK a) (fK b)
 | .makeFunc (.func g) c d=> .Yd g (c.toList.map fK) (d.toList.map fK)
 | .makeMap t _=> .Ye (bif tb then (match P.underlying t with
  |some (.map _ e)=>afo (YB P e)
  |_=>afp) else afp)
 | .extract a j=> .ext j (fK a)
 | .lookup t a b ok=>match P.underlying t with
  |some (.map k e)=> .lookup (J8 P k) (YB P e) ok (fK a) (pP P k b)
  |_=> .bad
 | .mapUpdate t a b c| .insert t a b c=>match P.underlying t with
  |some (.map k e)=> .FT (J8 P k) (fK a) (pP P k b) (pP P e c)
  |_=> .bad
 | .call c=>match c.callee with
  | .builtin b=>Pn P b c.args.toList c.argTypes.toList
  | .value (.func f)=> .call (md f) f (Pj P c.argTypes.toList c.args.toList)
  | .value x=> .uS (fK x) (Pj P c.argTypes.toList c.args.toList)
  |_=> .bad
 |_=> .bad
def afO (tb:Bool) (md:FuncId->CM) (ops:Array Oper) (o:Oper):bI:=
 ⟨o.dst,cOp P tb md o.type o.op,match o.guard with
  |some (i,b)=>match ops[i]? with
   |some q=>match q.dst with
    |some d=>afo (d,b)
    |none=>afp
   |none=>afp
  |none=>afp⟩
def Po:List Nat->List Oper->List Nat
 |acc,[]=>acc
 |acc,o::os=>Po (acc++[(lL acc (afn acc) o.after.toList).getD 0]) os
def bitsOf:Nat->Nat->Nat->List Nat
 |0,_,_=>[]
 |n+1,i,m=>bif AC m 0 then [] else bif AC (Nat.mod m 2) 1 then i::bitsOf n (i+1) (Nat.div m 2) else bitsOf n (i+1) (Nat.div m 2)
def Pp (l:List (Nat×Nat)) (x:Nat):Nat×Option Nat:=match l with
 | []=>(x,afp)
 |(t,k)::r=>bif AC t x then (x,afo k) else Pp r x
def Pq {α:Type} (n:Nat):List (Nat×List α)->List α
 | []=>[]
 |(m,l)::r=>bif AC m n then l else Pq n r
def hd (l:List Nat):Nat:=match l with
 |x::_=>x
 | []=>0
structure CSt where
 ks:List Nat
 n:Nat
def C6 (H:Hint):Code->CSt->ij×CSt
 | .region _ ops dr,s=>(.region (match dr with|true=>afo (Po [] ops.toList)|false=>afp) (ops.toList.map (afO P H.tb H.md ops)) (bitsOf 1000 0 (hd s.ks)),⟨s.ks.tail,s.n⟩)
 | .seq a b,s=>match C6 H a s with
  |(x,s1)=>match C6 H b s1 with
   |(y,s2)=>(.seq x y,s2)
 | .cond c a b,s=>match C6 H a s with
  |(x,s1)=>match C6 H b s1 with
   |(y,s2)=>(.cond (fK c) x y,s2)
 | .block id b,s=>match C6 H b s with
  |(x,s1)=>(.block id x,s1)
 | .loop b,s=>match C6 H b ⟨s.ks.tail,s.n+1⟩ with
  |(x,s1)=>(.loop ((bitsOf 1000 0 (hd s.ks)).map (Pp (Pq s.n H.ajx))++Pq s.n H.more) x,s1)
 | .exit id,s=>(.exit id,s)
 | .ret,s=>(.ret,s)
 |_,s=>(.skip,s)
def ajz:ResultVar->RV
 | .tmp t=> .tmp t
 | .cell t ty=> .cell t (J8 P ty)
def afP (fn:Func) (H:Hint):aL:=
 ⟨fn.params.size+fn.nfree,match fn.body with
  |some c=>(C6 P H c ⟨H.fh,0⟩).1
  |none=> .skip,fn.results.toList.map (ajz P)⟩
def ajA (ow sh fp:List Nat) (f:FuncId):CM:=bif has ow f then .own else bif has sh f then .shr else bif has fp f then .fp else .Rp
end
end Go.Vm
/- A law's row from what the logical machine answers: the result is afA, nothing that was there has turned. -/
namespace Go.Vm
open Go.ChangeShapes Go.WideShapes Go.ChangeAt Go.RowKit
section
variable {H : Type} {enc : TypeId × Value -> H} {P : Program}
theorem xS (hl:laidOutB P=afA) {W W':World} (hb:Below W.heap.size W W'): ∀{ts:List TypeId} {vs:List Value} {ds:List (DataW H)} {ps:List MemPlace},(∀t∈ts,P.readableRec t=afA/\t<P.types.size)->
 DataW.TrodAll enc P W 0 (fun _=>afA) afA ts vs ds ps->(∀x∈ps,x.block<W.heap.size)->DataW.TrodAll enc P W' 0 (fun b=>decide (b<W.heap.size)) afA ts vs ds ps
 | [],vs,ds,ps,_,h,_=>by obtain ⟨rfl,rfl,rfl⟩:=trodAll_nil h;exact trodAll_mk0
 |t::ts,vs,ds,ps,ht,h,dz=>by obtain ⟨v,JD,d,vT,p,q,rfl,rfl,rfl,h1,h2⟩:=trodAll_cons h;obtain ⟨h3,h4⟩:=ht t (by simp);exact trodAll_cons_mk (Below.trod hl h3 h4 h1 hb fun x hx=>dz x (by simp [hx])) (xS hl hb (fun t' LR=>ht t' (by simp [LR])) h2 fun x hx=>dz x (by simp [hx]))
theorem Pr (hl:laidOutB P=afA) {f:Func} {s:ChangeSpec} {W W':World} {args:Array Value} {ds:List (DataW H)} {before:List MemPlace} {bt:TypeId} (afQ:s.vars=[]) (zB:f.resultTypes= #[bt]) (hbt:P.underlying bt=afo .bool)
 (hp: ∀t∈f.params.toList,P.readableRec t=afA/\t<P.types.size) (hW:DataW.Whole enc P f.params.toList s.vars afC W args.toList ds [] before)
 (hfn:s.fn H (ds++[])={results:=[.lit (.bool afA)],args:=ds}) (hb:Below W.heap.size W W'):s.post enc P f afC afA afC afC W args (.bool afA) W':=by
 have hW':=hW;obtain ⟨p,q,hA,hV,rfl,OF,Ex⟩:=hW;have dz: ∀x∈p++q,x.block<W.heap.size:=fun x hx=>by simpa using hW'.lt x hx
 refine ⟨ds,[],p++q,[],p,[],hW',?_,?_,?_,hb.frame _,fun h=>by cases h⟩
 · rw [hfn,zB]
   exact trodAll_mk1 (shut_bool hbt afA)
 · rw [hfn]
   exact xS hl hb hp hA fun x hx=>dz x (by simp [hx])
 rw [hfn,afQ]
 rfl
end
def EJ (w:World):Im:=fun b=>w.heap[b]?
theorem Nx {w:World} {b o:Nat} {v:Value} (h:w.cell? ⟨b,o,afp⟩=afo v):mq (EJ w) b o=afo v:=by unfold afc at h;unfold mq EJ;exact h
theorem Ny {P:Program} {F:kW} {prims:FuncId->Bool} (hT:HR P prims F) (zt:w5 P F) (oL:P.follows .mixedOrders=afA) {f:FuncId} {args:List PV} {s:bY} {z:List Nat} {n:Nat} {us:List Value} {w:World}
 (h:run F n (.func f args [] [])=afo (.func (.bool afA) s z)) (xM:eh (EJ w) fB args us):Calls P f ⟨us⟩ w fun e w'=>e= .returned (.bool afA)/\Below w.heap.size w w':=by
 refine (Nq hT zt oL h (im:=EJ w) (fun b o h=>h) xM).mono fun e w' ⟨u,he,⟨dJ,bc,nb,_⟩,h1,h2,h3,h4,h5⟩=>?_
 obtain rfl:=nb.iE;exact ⟨he,⟨h1,h2.eq,h3,h4,h5⟩⟩
end Go.Vm
/- Regions of one order, step by step, for contracts. -/
namespace Go.Vm
def AR:jL->Bool
 | .call .. | .uS .. =>afA
 |_=>afC
variable {F : kW}
def WS (F:kW) (ops:List bI) (st:St) (Q:St->Prop):Prop:= ∀tr,WO F ops st tr (fun s _=>Q s)
def Gh (st:St) (o:bI):Option St:=
 match wanted o.guard st.env with
 |some afA=>match bq st.env st.aD st.fz o.op with
  |some x=>if (XR.loc x).ok st.fz then afo ((XR.loc x).next o.dst st) else afp
  |none=>afp
 |some afC=>afo {st with env:=gK o.dst .iB st.env}
 |none=>afp
theorem Gi {rec:Task->Option Out} {e:Env} {aD:bY} {fz:List Nat} {op:jL} (h:AR op=afC):
 uU F rec e aD fz op=(bq e aD fz op).map .loc:=by
 cases op<;>first|rfl|cases h
theorem WS.nil {st:St} {Q:St->Prop} (h:Q st):WS F [] st Q:=fun _=>WO.nil h
theorem WS.cons {o:bI} {r:List bI} {st jG:St} {Q:St->Prop} (h:AR o.op=afC) (hs:Gh st o=afo jG) (k:WS F r jG Q):WS F (o::r) st Q:=by
 intro tr;unfold Gh at hs;split at hs
 · rename_i hw
   split at hs
   · rename_i x hx
     split at hs
     · rename_i yg
       injection hs with hs;subst hs;exact WO.op x hw (fun rec=>by rw [Gi h,hx];rfl) yg (k _)
     cases hs
   cases hs
 · rename_i hw
   injection hs with hs;subst hs;exact WO.skip hw (k _)
 cases hs
theorem WS.one {o:bI} {r:List bI} {st:St} {Q:St->Prop} (x:mh) (hc:AR o.op=afC) (hw:wanted o.guard st.env=afo afA) (hx:bq st.env st.aD st.fz o.op=afo x) (yg:(XR.loc x).ok st.fz=afA)
 (k:WS F r ((XR.loc x).next o.dst st) Q):WS F (o::r) st Q:=fun tr=>
 WO.op x hw (fun rec=>by rw [Gi hc,hx];rfl) yg (k _)
def Ch:List bI->St->Option St
 | [],st=>afo st
 |o::r,st=>match AR o.op with
  |true=>afp
  |false=>match Gh st o with
   |some jG=>Ch r jG
   |none=>afp
theorem WS.all: ∀{ops:List bI} {st jG:St} {Q:St->Prop},Ch ops st=afo jG->Q jG->WS F ops st Q
 | [],st,jG,Q,h,hq=>by simp only [Ch,ww] at h;subst h;exact WS.nil hq
 |o::r,st,jG,Q,h,hq=>by
  simp only [Ch] at h;cases hc:AR o.op with
  |true=>rw [hc] at h;cases h
  |false=>
   rw [hc] at h;dsimp only at h;cases hs:Gh st o with
   |none=>rw [hs] at h;cases h
   |some s1=>rw [hs] at h;exact WS.cons hc hs (WS.all h hq)
theorem WS.pure {d:Option Nat} {g:Option (Nat×Bool)} {f:FuncId} {as:List eI} {r:List bI} {st:St} {Q:St->Prop}
 {args:List PV} {v:PV} (h:Pure F f args v) (hw:wanted g st.env=afo afA) (ha:As st.aD (vw st.aD deep) (Ct st.env as)=afo args)
 (k:WS F r {st with env:=gK d v st.env} Q):WS F (⟨d,.call .Rp f as,g⟩::r) st Q:=fun tr=>by
 refine WO.pure h hw ha ?_;have:=k (XR.tr (afn st.aD) (.loc {v,rd:=dd (cP st.aD deep) (Ct st.env as)})::tr);simpa [XR.next,pK,fw] using this
theorem WS.shr {d:Option Nat} {g:Option (Nat×Bool)} {f:FuncId} {as:List eI} {r:List bI} {st:St} {Q:St->Prop}
 (hw:wanted g st.env=afo afA) (h:yh F f (Ct st.env as) st.aD st.fz fun v s z=>(adT (afn st.aD) (afn s)&&st.fz.all (has z))=afA/\WS F r {st with env:=gK d v st.env,aD:=s,fz:=z} Q):
 WS F (⟨d,.call .shr f as,g⟩::r) st Q:=fun tr=>by
 obtain ⟨n,v,s,z,hr,hc,hk⟩:=h;refine WO.call (.shr v s z) hw ⟨n,?_⟩ rfl (hk _);simp only [uU,fj,hr];rw [rc hc]
end Go.Vm
/- Plain terms for what a function computes: loops, elements of lists, numbers; and the machine's loop over a plain one. -/
namespace Go.Vm
inductive Step (σ ρ:Type) where
 |next (s:σ)
 |done (r:ρ)
section
variable {σ ρ : Type}
def mB (body:σ->Option (Step σ ρ)):Nat->σ->Option ρ
 |0,_=>afp
 |n+1,x=>match body x with
  |some (.next y)=>mB body n y
  |some (.done r)=>afo r
  |none=>afp
open Classical in
noncomputable def J9 (body:σ->Option (Step σ ρ)) (x:σ):Option ρ:=
 if h: ∃n r,mB body n x=afo r then mB body h.choose x else afp
theorem yx {body:σ->Option (Step σ ρ)}: ∀{n:Nat} {x:σ} {r:ρ},mB body n x=afo r-> ∀k,mB body (n+k) x=afo r
 |0,x,r,h,_=>by cases h
 |n+1,x,r,h,k=>by
  rw [show n+1+k=(n+k)+1 by omega];simp only [mB] at h ⊢;split at h
  · exact yx h k
  · exact h
  cases h
theorem Nz {body:σ->Option (Step σ ρ)} {n m:Nat} {x:σ} {r s:ρ} (h:mB body n x=afo r) (k:mB body m x=afo s):r=s:=by have h1:=yx h m;have h2:=yx k n;rw [Nat.add_comm m n] at h2;rw [h1] at h2;exact aeE h2
theorem Bv {body:σ->Option (Step σ ρ)} {x:σ} {r:ρ}:J9 body x=afo r↔ ∃n,mB body n x=afo r:=by
 unfold J9;constructor
 · intro h
   split at h
   · exact ⟨_,h⟩
   cases h
 rintro ⟨n,hn⟩
 have hex: ∃n r,mB body n x=afo r:=⟨n,r,hn⟩;rw [dif_pos hex];obtain ⟨s,hs⟩:=hex.choose_spec;rw [hs,Nz hs hn]
end
noncomputable def LV {σ ρ:Type} (b:Option Nat) (body:σ->Option (Step σ ρ)) (x:σ):Option ρ:=
 match b with
 |none=>J9 body x
 |some N=>mB body N x
theorem HW {σ ρ:Type} {b:Option Nat} {body:σ->Option (Step σ ρ)} {x:σ} {r:ρ} (h:LV b body x=afo r): ∃n,mB body n x=afo r:=by
 cases b with
 |none=>exact Bv.1 h
 |some N=>exact ⟨_,h⟩
class LP where
 w:Option Nat
abbrev LP.of (n:Nat):LP:=⟨afo n⟩
noncomputable def aE [LP] {σ ρ:Type} (body:σ->Option (Step σ ρ)) (x:σ):Option ρ:=LV LP.w body x
def aH [LP]:Option Nat:=LP.w
theorem afS {α β:Type} {x:Option α} {f:α->Option β} {r:β} (h:x.bind f=afo r): ∃a,x=afo a/\f a=afo r:=by
 cases x with
 |none=>cases h
 |some a=>exact ⟨a,rfl,h⟩
def YF {α ρ:Type} (x:Option α) (f:α->Option ρ):Option ρ:=x.bind f
def YG {ρ:Type} (c:Bool) (a b:Option ρ):Option ρ:=cond c a b
theorem J' {α ρ:Type} {x:Option α} {f:α->Option ρ} {y:ρ} (h:YF x f=afo y): ∃a,x=afo a/\f a=afo y:=afS h
theorem Ka {ρ:Type} {c:Bool} {a b:Option ρ} {y:ρ} (h:YG c a b=afo y):(c=afA/\a=afo y)\/(c=afC/\b=afo y):=by
 cases c
 · exact .inr ⟨rfl,h⟩
 exact .inl ⟨rfl,h⟩
def aK {α:Type} (l:List α) (i:Int):Option α:=
 match i with
 | .ofNat n=>l[n]?
 | .negSucc _=>afp
def cb {α:Type} (l:List α) (i:Int) (a:α):List α:=l.set i.toNat a
theorem lM {α:Type} {l:List α} {i:Int} {a:α} (h:aK l i=afo a): ∃n:Nat,i=aeR n/\l[n]? =afo a:=by
 unfold aK at h;split at h
 · exact ⟨_,rfl,h⟩
 cases h
@[simp] theorem vU {α:Type} (l:List α) (i:Int) (a:α):(cb l i a).length=(afn l):=by simp [cb]
def bu {α:Type} (l:List α) (m:List α):Option (List α):=if (afn l)+afn m<=1048576 then afo (l++m) else afp
def HX {α:Type} (n:Int) (z:α):Option (List α):=if 0<=n/\n<=1048576 then afo (aeq n.toNat z) else afp
def hM {α:Type} (l:List α) (lo hi:Int):Option (List α):=if 0<=lo/\lo<=hi/\hi<=(afn l) then afo ((l.drop lo.toNat).take (hi.toNat-lo.toNat)) else afp
def cD {α:Type} (l:List α):Option (List α):=if (afn l)<=1048576 then afo l else afp
def ZD {α:Type} (l m:List α):Option (List α):=if 1<=afn l+afn m/\afn l+afn m<=1048576 then afo (l++m) else afp
def Gj {α:Type} (l:List α) (i:Int) (m:List α):Option (List α):=if 0<=i/\i.toNat<=afn l/\afn m=1/\afn l+1<=1048576 then afo (l.take i.toNat++m++l.drop i.toNat) else afp
def C7 {α:Type} (f:List α->Option (List α)) (l:List α):Option (List α):=
 if (afn l)<=1048576 then (match f l with
 |some m=>if (afn m)=(afn l) then afo m else afp
 |none=>afp) else afp
def Gk {α:Type} (f:List α->Option (List α)) (n:Nat) (l:List α):Option (List α):=if n<=(afn l) then (C7 f (l.take n)).map (· ++l.drop n) else afp
def Kb (a:Int):List Int->List Int
 | []=>[a]
 |b::r=>bif afF (a<=b) then a::b::r else b::Kb a r
def nj:List Int->List Int
 | []=>[]
 |a::r=>Kb a (nj r)
def ZE (l:List Int):Option (List Int):=afo (nj l)
def B0 (k:IntKind) (a b:Int):Int:=k.wrap (BitVec.ofInt k.bits a&&&BitVec.ofInt k.bits b).toNat
def bOr (k:IntKind) (a b:Int):Int:=k.wrap (BitVec.ofInt k.bits a|||BitVec.ofInt k.bits b).toNat
def ajB (k:IntKind) (a b:Int):Int:=k.wrap (BitVec.ofInt k.bits a^^^BitVec.ofInt k.bits b).toNat
def Sa (k:IntKind) (a b:Int):Int:=k.wrap (BitVec.ofInt k.bits a&&& ~~~ BitVec.ofInt k.bits b).toNat
def ajC (k:IntKind) (a b:Int):Int:=k.wrap (a*2^(min b.toNat k.bits))
def oN (k:IntKind) (a b:Int):Int:=a.fdiv (2^(min b.toNat k.bits))
def YH (s:ByteArray) (i:Int):Option Int:=
 match i with
 | .ofNat n=>s[n]?.map fun b=>(b.toNat:Int)
 | .negSucc _=>afp
def B1 (l:List (List Int)) (k:List Int):Bool:=l.any fun m=>k==m
def Kc (l:List (List Int)) (k:List Int):List (List Int):=bif B1 l k then l else l++[k]
def mC (a:List Int) (l:List (List Int)):Bool:=l.all fun b=>AC (afn b) (afn a)
def HY (l:List (List Int)) (k:List Int):Option Bool:=bif mC k l then afo (B1 l k) else afp
def HZ (l:List (List Int)) (k:List Int):Option (List (List Int)):=bif mC k l then afo (Kc l k) else afp
def Bw {α:Type} (z:α):List (Int×α)->Int->α
 | [],_=>z
 |p::r,k=>bif k==p.1 then p.2 else Bw z r k
def Bx {α:Type}:List (Int×α)->Int->α->List (Int×α)
 | [],k,a=>[(k,a)]
 |p::r,k,a=>bif k==p.1 then (k,a)::r else p::Bx r k a
section
variable {F : kW}
end
end Go.Vm
/- A logical machine over typed values: it turns a function's code into a plain term. What it computes is tied to the logical machine in SvRun. -/
namespace Go.Vm
inductive PT where
 |i (k:IntKind)
 |b
@[reducible] def PT.T : PT -> Type
  | .i _ => Int
  | .b => Bool
@[reducible] def RT : List PT -> Type
  | [] => Unit
  | [p] => p.T
  | p :: q :: r => p.T × RT (q :: r)
inductive SV where
 |ga
 |undef
 |iB
 |dw
 |int (k:IntKind) (n:Int)
 |bool (b:Bool)
 |str (s:ByteArray)
 |agg (cs:List SV)
 |cj (cs:List SV)
 |sl (r:List PT) (l:List (RT r))
 |nil (e:Nat) (c:Bool)
 |own (t:Nat) (ex:Bool)
 |pre (t len cap:Nat) (ex:Bool)
 |part (t off len cap:Nat) (ex:Bool)
 |pa (t:Nat) (r:List PT) (i:Int) (a:RT r) (off:Nat)
 |pb (t:Nat) (i:Int) (off:Nat)
 |bp (t n off:Nat)
 |bw (cs:List SV) (off:Nat)
 |ef (f:FuncId) (a b:List SV)
 |mp (t:Nat)
inductive SB where
 |arr (r:List PT) (l:List (RT r))
 |box (cs:List SV)
 |set (l:List (List Int))
 |bH (p:PT) (l:List (RT [.i .i64,p]))
 |dead
abbrev SE:=List (Nat×SV)
structure nu where
 env:SE
 aD:List SB
 fz:List Nat
 kn:Nat
structure Rows where
 r:List PT
 l:List (RT r)
def PT.same:PT->PT->Bool
 | .i k,.i l=>eE k l
 | .b,.b=>afA
 |_,_=>afC
def zD:List PT->List PT->Bool
 | [],[]=>afA
 |p::r,q::s=>p.same q&&zD r s
 |_,_=>afC
theorem PT.LW: ∀{p q:PT},p.same q=afA->p=q
 | .i k,.i l,h=>by rw [ei.1 h]
 | .b,.b,_=>rfl
 | .i _,.b,h=>by cases h
 | .b,.i _,h=>by cases h
theorem sX: ∀{r s:List PT},zD r s=afA->r=s
 | [],[],_=>rfl
 |p::r,q::s,h=>by simp only [zD,v6] at h;rw [PT.LW h.1,sX h.2]
 | [],_::_,h=>by cases h
 |_::_,[],h=>by cases h
def qp (r q:List PT) (l:List (RT r)):Option (List (RT q)):=if h:zD r q=afA then afo (sX h▸l) else afp
def PT.pv:(p:PT)->p.T->PV
 | .i k,n=> .int k n
 | .b,x=> .bool x
def RT.pv:(r:List PT)->RT r->List PV
 | [],_=>[]
 | [p],a=>[p.pv a]
 |p::q::r,a=>p.pv a.1::RT.pv (q::r) a.2
def PT.sv:(p:PT)->p.T->SV
 | .i k,n=> .int k n
 | .b,x=> .bool x
def RT.sv:(r:List PT)->RT r->List SV
 | [],_=>[]
 | [p],a=>[p.sv a]
 |p::q::r,a=>p.sv a.1::RT.sv (q::r) a.2
def PT.of:(p:PT)->SV->Option p.T
 | .i k,.int l n=>bif eE l k then afo n else afp
 | .b,.bool x=>afo x
 |_,_=>afp
def RT.of:(r:List PT)->List SV->Option (RT r)
 | [],[]=>afo ()
 | [p],[v]=>p.of v
 |p::q::r,v::vs=>match p.of v,RT.of (q::r) vs with
  |some a,afo b=>afo (a,b)
  |_,_=>afp
 |_,_=>afp
def PT.zero:(p:PT)->p.T
 | .i _=>(0:Int)
 | .b=>afC
def RT.zero:(r:List PT)->RT r
 | []=>()
 | [p]=>p.zero
 |p::q::r=>(p.zero,RT.zero (q::r))
def bS:PV->Option PT
 | .int k n=>match n with
  | .ofNat 0=>afo (.i k)
  |_=>afp
 | .bool b=>match b with
  |false=>afo .b
  |true=>afp
 |_=>afp
def C8:List PV->Option (List PT)
 | []=>afo []
 |v::vs=>match bS v,C8 vs with
  |some p,afo r=>afo (p::r)
  |_,_=>afp
def nth {α:Type}:List α->Nat->Option α
 | [],_=>afp
 |x::_,0=>afo x
 |_::r,n+1=>nth r n
theorem bU {α:Type}: ∀(l:List α) (n:Nat),nth l n=l[n]?
 | [],n=>by simp [nth]
 |x::r,0=>by simp [nth]
 |x::r,n+1=>by simp [nth,bU r n]
def By (t:Nat):SE->SV
 | []=> .undef
 |(s,v)::r=>bif AC s t then v else By t r
def yz (t:Nat) (v:SV):SE->SE
 | []=>[]
 |(s,x)::r=>bif AC s t then (s,v)::r else (s,x)::yz t v r
mutual
def Sb:PV->SV
 | .undef=> .undef
 | .iB=> .iB
 | .dw=> .dw
 | .int k n=> .int k n
 | .bool b=> .bool b
 | .str s=> .str s
 | .agg cs=> .agg (zE cs)
 | .cj cs=> .cj (zE cs)
 | .sl e c rows=>match rows with
  | []=> .nil e c
  |_=> .ga
 | .ef f a b=> .ef f (zE a) (zE b)
 |_=> .ga
def zE:List PV->List SV
 | []=>[]
 |x::xs=>Sb x::zE xs
end
def bK (e:SE):eI->SV
 | .t n=>By n e
 | .c v=>Sb v
def iH (e:SE):List eI->List SV
 | []=>[]
 |x::xs=>bK e x::iH e xs
def SV.oE:SV->Bool
 | .ga| .undef| .iB| .agg _| .cj _=>afC
 |_=>afA
def vV:List SV->Bool
 | []=>afA
 |x::xs=>x.oE&&vV xs
def SV.cells:SV->List SV
 | .agg cs=>cs
 |v=>[v]
def SV.stored (v:SV):Option (List SV):=bif vV v.cells then afo v.cells else afp
def xT (agg:Option Nat) (off:Nat) (cs:List SV):Option SV:=
 match agg with
 |some s=>bif adT (off+s) (afn cs) then afo (.agg ((cs.drop off).take s)) else afp
 |none=>nth cs off
def oc (off:Nat) (new old:List SV):List SV:=old.take off++new++old.drop (off+afn new)
def xU (s:List SB):SV->Option Rows
 | .sl r l=>afo ⟨r,l⟩
 | .own t _=>match nth s t with
  |some (.arr r l)=>afo ⟨r,l⟩
  |_=>afp
 | .pre t len _ _=>match nth s t with
  |some (.arr r l)=>afo ⟨r,l.take len⟩
  |_=>afp
 | .part t off len _ _=>match nth s t with
  |some (.arr r l)=>afo ⟨r,(l.drop off).take len⟩
  |_=>afp
 |_=>afp
def tQ:SV->List Nat
 | .own t _=>[t]
 | .pre t _ _ _=>[t]
 | .part t _ _ _ _=>[t]
 |_=>[]
structure fk where
 v:SV
 news:List SB:=[]
 wr:List (Nat×SB):=[]
 rd:List Nat:=[]
 fr:List Nat:=[]
def fG (R:Type):= ∀ρ:Type,(R->ρ)->Option ρ
section
variable {R : Type}
def Bz (b:R):fG R:=fun _ w=>afo (w b)
def aN:fG R:=fun _ _=>afp
def jQ {α:Type} (x:Option α) (f:α->fG R):fG R:=fun ρ w=>YF x fun a=>f a ρ w
def fv (c:Bool) (a b:fG R):fG R:=fun ρ w=>YG c (a ρ w) (b ρ w)
def Sc (v:SV) (k:SV->fG R):fG R:=
 match v with
 | .ga=>k .ga
 | .undef=>k .undef
 | .iB=>k .iB
 | .dw=>k .dw
 | .int a b=>k (.int a b)
 | .bool a=>k (.bool a)
 | .str a=>k (.str a)
 | .agg a=>k (.agg a)
 | .cj a=>k (.cj a)
 | .sl a b=>k (.sl a b)
 | .nil a b=>k (.nil a b)
 | .own a b=>k (.own a b)
 | .pre a b c d=>k (.pre a b c d)
 | .part a b c d x=>k (.part a b c d x)
 | .pa a b c d e=>k (.pa a b c d e)
 | .pb a b c=>k (.pb a b c)
 | .bp a b c=>k (.bp a b c)
 | .bw a b=>k (.bw a b)
 | .ef a b c=>k (.ef a b c)
 | .mp a=>k (.mp a)
theorem Gl (v:SV) (k:SV->fG R):Sc v k=k v:=by cases v<;>rfl
def Ke (op:BinOp) (k:IntKind) (a b:Int) (c:SV->fG R):fG R:=
 match op with
 | .add=>c (.int k (ai k (a+b)))
 | .sub=>c (.int k (ai k (a-b)))
 | .mul=>c (.int k (ai k (a*b)))
 | .quo=>fv (b==0) aN (c (.int k (ai k (Int.tdiv a b))))
 | .rem=>fv (b==0) aN (c (.int k (Int.tmod a b)))
 | .and=>c (.int k (B0 k a b))
 | .or=>c (.int k (bOr k a b))
 | .xor=>c (.int k (ajB k a b))
 | .andNot=>c (.int k (Sa k a b))
 | .eql=>c (.bool (a==b))
 | .neq=>c (.bool (a !=b))
 | .lss=>c (.bool (afF (a<b)))
 | .leq=>c (.bool (afF (a<=b)))
 | .gtr=>c (.bool (afF (b<a)))
 | .geq=>c (.bool (afF (b<=a)))
 | .shl| .shr=>aN
def eqS:List SV->List SV->Option Bool
 | [],[]=>afo afA
 |x::xs,y::ys=>match x,y with
  | .int k a,.int l b=>bif eE k l then (match xs with
   | []=>(match ys with| []=>afo (a==b)|_=>afp)
   |_::_=>match eqS xs ys with
    |some r=>afo (a==b&&r)
    |none=>afp) else afp
  |_,_=>afp
 |_,_=>afp
def tR:List (Nat×Nat×SV)->List SV->Option (List SV)
 | [],cs=>afo cs
 |(off,sz,v)::r,cs=>match v.stored with
  |some w=>bif AC (afn w) sz&&adT (off+sz) (afn cs) then tR r (oc off w cs) else afp
  |none=>afp
def vW (e:SE):List (Nat×Nat×eI)->List (Nat×Nat×SV)
 | []=>[]
 |p::r=>(p.1,p.2.1,bK e p.2.2)::vW e r
def LX (r:List PT) (e:SE) (n:Nat):List (Nat×eI)->Option (List (Nat×RT r))
 | []=>afo []
 |p::ps=>match RT.of r (bK e p.2).cells,LX r e n ps with
  |some a,afo l=>bif aes p.1 n then afo ((p.1,a)::l) else afp
  |_,_=>afp
def rowAt {α:Type} (i:Nat):α->List (Nat×α)->α
 |z,[]=>z
 |z,(j,a)::r=>rowAt i (bif AC j i then a else z) r
def Gm {α:Type} (f:Nat->α):Nat->Nat->List α
 |_,0=>[]
 |i,n+1=>f i::Gm f (i+1) n
def AS (e:SE) (d:Int):Option eI->Option Int
 |none=>afo d
 |some x=>match bK e x with
  | .int _ n=>afo n
  |_=>afp
def mmS (isMax:Bool) (k:IntKind):Int->List SV->Option SV
 |a,[]=>afo (.int k a)
 |a,x::r=>match x with
  | .int l b=>bif eE k l then mmS isMax k (bif isMax then (if b>a then b else a) else (if b<a then b else a)) r else afp
  |_=>afp
def LY:List SV->Option (List Int)
 | []=>afo []
 |x::xs=>match x,LY xs with
  | .int .i64 n,afo l=>afo (n::l)
  |_,_=>afp
def Sd (n:Option Nat) (v:SV):Option (List Int):=
 match n,v with
 |none,.int .i64 a=>afo [a]
 |some n,.agg cs=>bif AC (afn cs) n&&!Nat.beq n 1 then LY cs else afp
 |_,_=>afp
def H3 (n:Nat) (i:Int) (j:Nat) (f:Nat->fG R):fG R:=
 match n with
 |0=>aN
 |n+1=>fv (i==aeR j) (f j) (H3 n i (j+1) f)
def j7 {α:Type} (x:Option α) (k:α->fG R):fG R:=
 match x with
 |some a=>k a
 |none=>aN
def ZF (k:fk->fG R) (v:SV):fG R:=k {v}
def YI (s:List SB) (esz:Nat) (x:SV) (i:Int) (k:fk->fG R):fG R:=
 match x with
 | .sl r l=>bif AC (afn r) esz then jQ (aK l i) fun a=>k {v:= .bw (RT.sv r a) 0} else aN
 | .own t _=>match nth s t with
  |some (.arr r l)=>bif AC (afn r) esz then jQ (aK l i) fun a=>k {v:= .pa t r i a 0} else aN
  |_=>aN
 | .pre t len _ _=>match nth s t with
  |some (.arr r l)=>bif AC (afn r) esz then jQ (aK (l.take len) i) fun a=>k {v:= .pa t r i a 0} else aN
  |_=>aN
 | .part t off len _ _=>match nth s t with
  |some (.arr r l)=>bif AC (afn r) esz then jQ (aK ((l.drop off).take len) i) fun a=>k {v:= .pa t r (.ofNat (off+i.toNat)) a 0} else aN
  |_=>aN
 |_=>aN
def YJ (s:List SB) (agg:Option Nat) (p:SV) (k:fk->fG R):fG R:=
 match p with
 | .bp t _ off=>match nth s t with
  |some (.box cs)=>j7 (xT agg off cs) fun v=>k {v,rd:=[t]}
  |_=>aN
 | .pa t r _ a off=>match nth s t with
  |some (.arr _ _)=>j7 (xT agg off (RT.sv r a)) fun v=>k {v,rd:=[t]}
  |_=>aN
 | .pb t i off=>match nth s t with
  |some (.arr r l)=>jQ (aK l i) fun a=>j7 (xT agg off (RT.sv r a)) fun v=>k {v,rd:=[t]}
  |_=>aN
 | .bw cs off=>j7 (xT agg off cs) fun v=>k {v}
 |_=>aN
def Ps (s:List SB) (z:List Nat) (sz:Nat) (p v:SV) (k:fk->fG R):fG R:=
 match p with
 | .bp t _ off=>match nth s t with
  |some (.box cs)=>j7 v.stored fun w=>bif AC (afn w) sz&&adT (off+sz) (afn cs)&&!has z t then k {v:= .undef,wr:=[(t,.box (oc off w cs))]} else aN
  |_=>aN
 | .pa t r i a off=>match nth s t with
  |some (.arr q l)=>bif AC (afn v.cells) sz&&adT (off+sz) (afn r)&&!has z t then
   j7 (RT.of q (oc off v.cells (RT.sv r a))) fun b=>k {v:= .undef,wr:=[(t,.arr q (cb l i b))]} else aN
  |_=>aN
 | .pb t i off=>match nth s t with
  |some (.arr q l)=>bif AC (afn v.cells) sz&&adT (off+sz) (afn q)&&!has z t then
   (bif AC sz (afn q) then j7 (RT.of q v.cells) fun b=>k {v:= .undef,wr:=[(t,.arr q (cb l i b))]}
   else jQ (aK l i) fun a=>j7 (RT.of q (oc off v.cells (RT.sv q a))) fun b=>k {v:= .undef,wr:=[(t,.arr q (cb l i b))]}) else aN
  |_=>aN
 |_=>aN
def Kf (e:SE) (t off len cap:Nat) (ex:Bool) (lo hi mx:Option eI) (k:fk->fG R):fG R:=
 j7 (AS e 0 lo) fun a=>j7 (AS e (.ofNat len) hi) fun b=>match mx with
  |none=>fv (afF (0<=a)&&afF (a<=b)&&afF (b<= .ofNat cap)) (k {v:= .part t (off+a.toNat) (b.toNat-a.toNat) (cap-a.toNat) ex}) aN
  |some m=>match bK e m with
   | .int _ c=>fv (afF (0<=a)&&afF (a<=b)&&afF (b<=c)&&afF (c<= .ofNat cap)) (k {v:= .part t (off+a.toNat) (b.toNat-a.toNat) (c.toNat-a.toNat) afA}) aN
   |_=>aN
def afT (e:SE) (s:List SB) (esz:Nat) (x:SV) (lo hi mx:Option eI) (k:fk->fG R):fG R:=
 match x with
 | .sl r l=>match mx with
  |none=>bif AC (afn r) esz then j7 (AS e 0 lo) fun a=>j7 (AS e (aeR (afn l)) hi) fun b=>jQ (hM l a b) fun m=>k {v:= .sl r m} else aN
  |some _=>aN
 | .own t ex=>match nth s t with
  |some (.arr r l)=>bif AC (afn r) esz then (match lo,hi,mx with
   |none,afp,afp=>k {v:= .own t ex}
   |none,afo h,afp=>match bK e h with
    | .int _ b=>jQ (hM l 0 b) fun _=>k {v:= .pre t b.toNat (afn l) ex}
    |_=>aN
   |lo,hi,mx=>Kf e t 0 (afn l) (afn l) ex lo hi mx k) else aN
  |_=>aN
 | .pre t len cap ex=>match nth s t with
  |some (.arr r _)=>bif AC (afn r) esz then (match lo,hi,mx with
   |none,afp,afp=>fv (adT len cap) (k {v:= .pre t len cap ex}) aN
   |none,afo h,afp=>match bK e h with
    | .int _ b=>fv (afF (0<=b)&&afF (b<= .ofNat cap)) (k {v:= .pre t b.toNat cap ex}) aN
    |_=>aN
   |lo,hi,mx=>Kf e t 0 len cap ex lo hi mx k) else aN
  |_=>aN
 | .part t off len cap ex=>match nth s t with
  |some (.arr r _)=>bif AC (afn r) esz then Kf e t off len cap ex lo hi mx k else aN
  |_=>aN
 |_=>aN
def gl {α:Type} (l:List α) (n:Nat) (m:List α):List α:=l.take n++m++l.drop (n+afn m)
def SV.ZG:SV->Bool
 | .part .. =>afA
 |_=>afC
def LZ (s:List SB) (z:List Nat) (esz:Nat) (x y:SV) (k:fk->fG R):fG R:=
 match xU s y with
 |none=>aN
 |some ⟨q,m⟩=>bif AC (afn q) esz then (match x with
  | .nil _ c=>bif c then jQ (cD m) fun m'=>k {v:= .own (afn s) afC,news:=[.arr q m'],rd:=tQ y} else aN
  | .own t ex=>match nth s t with
   |some (.arr r l)=>match qp q r m with
    |none=>aN
    |some m=>match ex with
     |true=>fv l.isEmpty (jQ (cD m) fun m'=>k {v:= .own (afn s) afC,news:=[.arr r m'],rd:=t::tQ y})
      (fv m.isEmpty (k {v:= .own t afA,rd:=tQ y}) (jQ (bu l m) fun l'=>k {v:= .own (afn s) afC,news:=[.arr r l'],rd:=t::tQ y}))
     |false=>fv m.isEmpty (k {v:= .own t afC,rd:=tQ y})
      (bif has z t then aN else jQ (bu l m) fun l'=>k {v:= .own (afn s) afC,news:=[.arr r l'],wr:=[(t,.dead)],rd:=tQ y})
   |_=>aN
  | .pre t len cap ex=>match nth s t with
   |some (.arr r l)=>match qp q r m with
    |none=>aN
    |some m=>bif ex then aN else fv m.isEmpty (k {v:= .pre t len cap afC,rd:=tQ y})
     (fv (adT (len+afn m) cap) (fv (adT (len+afn m) (afn l)&&!has z t) (k {v:= .pre t (len+afn m) cap afC,wr:=[(t,.arr r (gl l len m))],rd:=tQ y}) aN)
      (bif has z t||y.ZG then aN else jQ (bu (l.take len) m) fun l'=>fv (adT len (afn l)) (k {v:= .own (afn s) afC,news:=[.arr r l'],wr:=[(t,.dead)],rd:=tQ y}) aN))
   |_=>aN
  |_=>aN) else aN
def Pu (s:List SB) (z:List Nat) (esz:Nat) (zero:Row) (x:SV) (k:fk->fG R):fG R:=
 match x with
 | .part t off len _ _=>match nth s t with
  |some (.arr r l)=>match C8 zero with
   |some q=>bif zD q r&&AC (afn r) esz then fv (AC len 0) (k {v:= .undef})
    (fv (adT (off+len) (afn l)&&!has z t) (k {v:= .undef,wr:=[(t,.arr r (gl l off (aeq len (RT.zero r))))]}) aN) else aN
   |none=>aN
  |_=>aN
 |_=>aN
def L0 (n:Option Nat) (zero:PV) (ok:Bool) (t:Nat) (l:List (List Int)) (q:SV) (k:fk->fG R):fG R:=
 match zero,ok with
 | .bool afC,afC=>j7 (Sd n q) fun a=>jQ (HY l a) fun b=>k {v:= .bool b,rd:=[t]}
 |_,_=>aN
def Pv (n:Option Nat) (t:Nat) (l:List (List Int)) (q x:SV) (k:fk->fG R):fG R:=
 match x with
 | .bool afA=>j7 (Sd n q) fun a=>jQ (HZ l a) fun m=>k {v:= .undef,wr:=[(t,.set m)]}
 |_=>aN
def PT.get:(p:PT)->p.T->List (RT [.i .i64,p])->Int->p.T
 | .i _,z,l,k=>Bw (α:=Int) z l k
 | .b,z,l,k=>Bw (α:=Bool) z l k
def PT.put:(p:PT)->List (RT [.i .i64,p])->Int->p.T->List (RT [.i .i64,p])
 | .i _,l,k,a=>Bx (α:=Int) l k a
 | .b,l,k,a=>Bx (α:=Bool) l k a
def L1 (n:Option Nat) (zero:PV) (ok:Bool) (t:Nat) (p:PT) (l:List (RT [.i .i64,p])) (q:SV) (k:fk->fG R):fG R:=
 match n with
 |none=>match ok with
  |false=>match q with
   | .int .i64 a=>j7 (p.of (Sb zero)) fun z=>k {v:=p.sv (p.get z l a),rd:=[t]}
   |_=>aN
  |true=>aN
 |some _=>aN
def Pw (n:Option Nat) (t:Nat) (p:PT) (l:List (RT [.i .i64,p])) (q x:SV) (k:fk->fG R):fG R:=
 match n with
 |none=>match q with
  | .int .i64 a=>j7 (p.of x) fun v=>k {v:= .undef,wr:=[(t,.bH p (p.put l a v))]}
  |_=>aN
 |some _=>aN
def C9 (s:List SB) (z:List Nat) (t:Nat) (r:List PT) (l:List (RT r)) (off len:Nat) (y:SV) (k:fk->fG R):fG R:=
 match xU s y with
 |none=>aN
 |some ⟨q,m⟩=>match qp q r m with
  |none=>aN
  |some m=>fv (m.take len).isEmpty (k {v:= .int .i64 0,rd:=tQ y})
   (fv (adT (off+(m.take len).length) (afn l)&&!has z t) (k {v:= .int .i64 (.ofNat (m.take len).length),wr:=[(t,.arr r (gl l off (m.take len)))],rd:=tQ y}) aN)
def YK (s:List SB) (z:List Nat) (esz:Nat) (x y:SV) (k:fk->fG R):fG R:=
 match x with
 | .own t _=>match nth s t with
  |some (.arr r l)=>bif AC (afn r) esz then C9 s z t r l 0 (afn l) y k else aN
  |_=>aN
 | .pre t len _ _=>match nth s t with
  |some (.arr r l)=>bif AC (afn r) esz then C9 s z t r l 0 len y k else aN
  |_=>aN
 | .part t off len _ _=>match nth s t with
  |some (.arr r l)=>bif AC (afn r) esz then C9 s z t r l off len y k else aN
  |_=>aN
 |_=>aN
def kT (e:SE) (s:List SB) (z:List Nat) (op:jL) (k:fk->fG R):fG R:=
 match op with
 | .Oi x=>k {v:=bK e x}
 | .pick c a b=>match bK e c with
  | .bool c=>fv c (k {v:=bK e a}) (k {v:=bK e b})
  |_=>aN
 | .bin op x y=>match bK e x with
  | .int ka a=>match bK e y with
   | .int kb b=>match op with
    | .shl=>fv (afF (b<0)) aN (k {v:= .int ka (ajC ka a b)})
    | .shr=>fv (afF (b<0)) aN (k {v:= .int ka (oN ka a b)})
    |op=>bif eE ka kb then Ke op ka a b (ZF k) else aN
   |_=>aN
  |_=>aN
 | .Hc neg x y=>match bK e x with
  | .bool a=>match bK e y with
   | .bool b=>k {v:= .bool (bif neg then !(a==b) else a==b)}
   |_=>aN
  |_=>aN
 | .Yb n neg x y=>match bK e x with
  | .agg xs=>match bK e y with
   | .agg ys=>bif AC (afn xs) n&&AC (afn ys) n then j7 (eqS xs ys) fun b=>k {v:= .bool (bif neg then !b else b)} else aN
   |_=>aN
  |_=>aN
 | .un op x=>match op with
  | .neg=>match bK e x with
   | .int a n=>k {v:= .int a (ai a (0-n))}
   |_=>aN
  | .not=>match bK e x with
   | .bool b=>k {v:= .bool !b}
   |_=>aN
  |_=>aN
 | .conv a x=>match bK e x with
  | .int _ n=>k {v:= .int a (ai a n)}
  |_=>aN
 | .len x=>match bK e x with
  | .nil _ _=>k {v:= .int .i64 0}
  | .pre _ len _ _=>k {v:= .int .i64 (.ofNat len)}
  | .part _ _ len _ _=>k {v:= .int .i64 (.ofNat len)}
  |v=>j7 (xU s v) fun c=>k {v:= .int .i64 (.ofNat (afn c.l))}
 | .JI n=>k {v:= .int .i64 (.ofNat n)}
 | .box x=>j7 (bK e x).stored fun cs=>k {v:= .bp (afn s) (afn cs) 0,news:=[.box cs]}
 | .alloc cells=>k {v:= .bp (afn s) (afn cells) 0,news:=[.box (zE cells)]}
 | .build zero parts=>j7 (tR (vW e parts) (zE zero)) fun cs=>k {v:= .agg cs}
 | .zf esz n zero parts=>j7 (C8 zero) fun r=>bif AC (afn r) esz then j7 (LX r e n parts) fun ps=>
  k {v:= .own (afn s) afA,news:=[.arr r (Gm (fun i=>rowAt i (RT.zero r) ps) 0 n)]} else aN
 | .Bm x y=>match bK e x with
  | .sl r l=>match bK e y with
   | .sl q m=>k {v:= .part (afn s) 0 2 2 afA,news:=[.box [.sl r l,.sl q m]]}
   |_=>aN
  |_=>aN
 | .load agg p=>YJ s agg (bK e p) k
 | .store sz p v=>Ps s z sz (bK e p) (bK e v) k
 | .Hd x=>match bK e x with
  | .pa t r i a o=>k {v:= .pa t r i a o}
  | .pb t i o=>k {v:= .pb t i o}
  | .bp t n o=>k {v:= .bp t n o}
  | .bw c o=>k {v:= .bw c o}
  | .ef f a b=>k {v:= .ef f a b}
  |_=>aN
 | .He off p=>match bK e p with
  | .pa t r i a o=>k {v:= .pa t r i a (o+off)}
  | .pb t i o=>k {v:= .pb t i (o+off)}
  | .bp t n o=>k {v:= .bp t n (o+off)}
  | .bw c o=>k {v:= .bw c (o+off)}
  |_=>aN
 | .jT agg off x=>match bK e x with
  | .agg cs=>j7 (xT agg off cs) (ZF k)
  |_=>aN
 | .Hf esz x i=>match bK e i with
  | .int _ n=>YI s esz (bK e x) n k
  |_=>aN
 | .Bn n esz p i=>match bK e i with
  | .int _ j=>match bK e p with
   | .bp t m o=>H3 n j 0 fun j=>k {v:= .bp t m (o+j*esz)}
   | .bw c o=>H3 n j 0 fun j=>k {v:= .bw c (o+j*esz)}
   |_=>aN
  |_=>aN
 | .idx n esz agg x i=>match bK e i with
  | .int _ j=>match bK e x with
   | .agg cs=>H3 n j 0 fun j=>j7 (xT agg (j*esz) cs) (ZF k)
   |_=>aN
  |_=>aN
 | .Hg x i=>match bK e i with
  | .int _ j=>match bK e x with
   | .str t=>jQ (YH t j) fun b=>k {v:= .int .u8 b}
   |_=>aN
  |_=>aN
 | .MT esz x lo hi mx=>afT e s esz (bK e x) lo hi mx k
 | .clear esz zero x=>Pu s z esz zero (bK e x) k
 | .copy esz x y=>YK s z esz (bK e x) (bK e y) k
 | .Yc esz zero l c=>match bK e l with
  | .int _ n=>match bK e c with
   | .int _ m=>fv (n==m) (j7 (C8 zero) fun r=>bif AC (afn r) esz then jQ (HX n (RT.zero r)) fun x=>k {v:= .own (afn s) afA,news:=[.arr r x]} else aN) aN
   |_=>aN
  |_=>aN
 | .Yd fn a b=>k {v:= .ef fn (iH e a) (iH e b)}
 | .Ye z=>match z with
  |none=>k {v:= .mp (afn s),news:=[.set []]}
  |some z=>j7 (bS z) fun p=>k {v:= .mp (afn s),news:=[.bH p []]}
 | .lookup n zero ok m q=>match bK e m with
  | .mp t=>match nth s t with
   |some (.set l)=>L0 n zero ok t l (bK e q) k
   |some (.bH p l)=>L1 n zero ok t p l (bK e q) k
   |_=>aN
  |_=>aN
 | .FT n m q x=>match bK e m with
  | .mp t=>match nth s t with
   |some (.set l)=>bif has z t then aN else Pv n t l (bK e q) (bK e x) k
   |some (.bH p l)=>bif has z t then aN else Pw n t p l (bK e q) (bK e x) k
   |_=>aN
  |_=>aN
 | .ext i x=>match bK e x with
  | .cj vs=>j7 (nth vs i) (ZF k)
  |_=>aN
 | .append esz x y=>LZ s z esz (bK e x) (bK e y) k
 | .mm isMax x xs=>match bK e x with
  | .int a n=>j7 (mmS isMax a n (iH e xs)) (ZF k)
  |_=>aN
 |_=>aN
end
mutual
def E9 (s:List SB) (bx:Nat->Option (List SV)):SV->Option SV
 | .int k n=>afo (.int k n)
 | .bool b=>afo (.bool b)
 | .str x=>afo (.str x)
 | .dw=>afo .dw
 | .agg cs=>match qq s bx cs with|some l=>afo (.agg l)|none=>afp
 | .cj cs=>match qq s bx cs with|some l=>afo (.cj l)|none=>afp
 | .sl r l=>afo (.sl r l)
 | .nil e _=>afo (.nil e afC)
 | .own t _=>match nth s t with
  |some (.arr r l)=>afo (.sl r l)
  |_=>afp
 | .pre t len _ _=>match nth s t with
  |some (.arr r l)=>afo (.sl r (l.take len))
  |_=>afp
 | .part t off len _ _=>match nth s t with
  |some (.arr r l)=>afo (.sl r ((l.drop off).take len))
  |_=>afp
 | .pa t r _ a off=>match nth s t with
  |some (.arr _ _)=>afo (.bw (RT.sv r a) off)
  |_=>afp
 | .bp t _ off=>match nth s t with
  |some (.box _)=>match bx t with|some l=>afo (.bw l off)|none=>afp
  |_=>afp
 | .bw cs off=>match qq s bx cs with|some l=>afo (.bw l off)|none=>afp
 | .ef f a b=>match qq s bx a,qq s bx b with
  |some x,afo y=>afo (.ef f x y)
  |_,_=>afp
 |_=>afp
def qq (s:List SB) (bx:Nat->Option (List SV)):List SV->Option (List SV)
 | []=>afo []
 |x::xs=>match E9 s bx x,qq s bx xs with
  |some y,afo ys=>afo (y::ys)
  |_,_=>afp
end
def Kg (s:List SB) (bx:Nat->Option (List SV)):List SV->Bool
 | []=>afA
 |x::xs=>match x with
  | .mp _=>Kg s bx xs
  |x=>match E9 s bx x with
   |some _=>Kg s bx xs
   |none=>afC
def jC (s:List SB):Nat->Nat->Option (List SV)
 |0,_=>afp
 |n+1,t=>match nth s t with
  |some (.box cs)=>qq s (jC s n) cs
  |_=>afp
mutual
def Kh (bx:Nat->List Nat):SV->List Nat
 | .agg cs=>pQ bx cs
 | .cj cs=>pQ bx cs
 | .own t _=>[t]
 | .pre t _ _ _=>[t]
 | .part t _ _ _ _=>[t]
 | .pa t _ _ _ _=>t::bx t
 | .pb t _ _=>t::bx t
 | .bp t _ _=>t::bx t
 | .bw cs _=>pQ bx cs
 | .mp t=>[t]
 | .ef _ a b=>pQ bx a++pQ bx b
 |_=>[]
def pQ (bx:Nat->List Nat):List SV->List Nat
 | []=>[]
 |x::xs=>Kh bx x++pQ bx xs
end
def vo (s:List SB):Nat->Nat->List Nat
 |0,_=>[]
 |n+1,t=>match nth s t with
  |some (.box cs)=>pQ (vo s n) cs
  |_=>[]
mutual
def SV.sure:SV->Bool
 | .ga=>afC
 | .agg cs=>kS cs
 | .cj cs=>kS cs
 | .bw cs _=>kS cs
 | .ef _ a b=>kS a&&kS b
 |_=>afA
def kS:List SV->Bool
 | []=>afA
 |x::xs=>x.sure&&kS xs
end
mutual
def yA:SV->Bool
 | .int _ _| .bool _| .str _=>afA
 | .agg cs=>pR cs
 | .cj cs=>pR cs
 |_=>afC
def pR:List SV->Bool
 | []=>afA
 |x::xs=>yA x&&pR xs
end
mutual
def Px (s:List SB):SV->Option SV
 | .int k n=>afo (.int k n)
 | .bool b=>afo (.bool b)
 | .str x=>afo (.str x)
 | .agg cs=>match Ki s cs with|some l=>afo (.agg l)|none=>afp
 | .cj cs=>match Ki s cs with|some l=>afo (.cj l)|none=>afp
 | .sl r l=>afo (.sl r l)
 | .nil e _=>afo (.nil e afC)
 | .own t _=>match nth s t with
  |some (.arr r l)=>afo (.sl r l)
  |_=>afp
 | .pre t len _ _=>match nth s t with
  |some (.arr r l)=>afo (.sl r (l.take len))
  |_=>afp
 | .part t off len _ _=>match nth s t with
  |some (.arr r l)=>afo (.sl r ((l.drop off).take len))
  |_=>afp
 |_=>afp
def Ki (s:List SB):List SV->Option (List SV)
 | []=>afo []
 |x::xs=>match Px s x,Ki s xs with
  |some y,afo ys=>afo (y::ys)
  |_,_=>afp
end
mutual
def NA (s:List SB) (z:List Nat):List Nat->SV->Option (SV×List Nat)
 |seen,.int k n=>afo (.int k n,seen)
 |seen,.bool b=>afo (.bool b,seen)
 |seen,.agg cs=>match H4 s z seen cs with|some p=>afo (.agg p.1,p.2)|none=>afp
 |seen,.cj cs=>match H4 s z seen cs with|some p=>afo (.cj p.1,p.2)|none=>afp
 |seen,.nil e c=>bif c then afo (.nil e afC,seen) else afp
 |seen,.own t _=>match nth s t with
  |some (.arr r l)=>bif has seen t||has z t then afp else afo (.sl r l,t::seen)
  |_=>afp
 |_,_=>afp
def H4 (s:List SB) (z:List Nat):List Nat->List SV->Option (List SV×List Nat)
 |seen,[]=>afo ([],seen)
 |seen,x::xs=>match NA s z seen x with
  |some p=>match H4 s z p.2 xs with
   |some q=>afo (p.1::q.1,q.2)
   |none=>afp
  |none=>afp
end
mutual
def vX:Nat->SV->SV×List SB
 |nx,.sl r l=>(.own nx afC,[.arr r l])
 |nx,.nil e _=>(.own nx afC,[.arr (aeq e (.i .i64)) []])
 |nx,.agg cs=>(.agg (rZ nx cs).1,(rZ nx cs).2)
 |nx,.cj cs=>(.cj (rZ nx cs).1,(rZ nx cs).2)
 |_,v=>(v,[])
def rZ:Nat->List SV->List SV×List SB
 |_,[]=>([],[])
 |nx,x::xs=>((vX nx x).1::(rZ (nx+(vX nx x).2.length) xs).1,(vX nx x).2++(rZ (nx+(vX nx x).2.length) xs).2)
end
def C':SB->List Nat
 | .box cs=>pQ qO cs
 |_=>[]
def xd:SB->Bool
 | .box cs=>kS cs
 |_=>afA
def AT (s:List SB):Nat->List Nat->List Nat->Option (List Nat)
 |_,[],seen=>afo seen
 |0,_::_,_=>afp
 |n+1,t::ts,seen=>
  bif has seen t then AT s n ts seen
  else match nth s t with
   |some b=>bif xd b then AT s n (C' b++ts) (seen++[t]) else afp
   |none=>afp
mutual
def oO (m:List Nat):SV->Option SV
 | .agg cs=>match ri m cs with|some l=>afo (.agg l)|none=>afp
 | .cj cs=>match ri m cs with|some l=>afo (.cj l)|none=>afp
 | .own t ex=>match oG t m with|some u=>afo (.own u ex)|none=>afp
 | .pre t len cap ex=>match oG t m with|some u=>afo (.pre u len cap ex)|none=>afp
 | .part t off len cap ex=>match oG t m with|some u=>afo (.part u off len cap ex)|none=>afp
 | .pa t _ i _ off=>match oG t m with|some u=>afo (.pb u i off)|none=>afp
 | .pb t i off=>match oG t m with|some u=>afo (.pb u i off)|none=>afp
 | .bp t n off=>match oG t m with|some u=>afo (.bp u n off)|none=>afp
 | .bw cs off=>match ri m cs with|some l=>afo (.bw l off)|none=>afp
 | .mp t=>match oG t m with|some u=>afo (.mp u)|none=>afp
 | .ef f a b=>match ri m a,ri m b with
  |some x,afo y=>afo (.ef f x y)
  |_,_=>afp
 | .ga=>afp
 |v=>afo v
def ri (m:List Nat):List SV->Option (List SV)
 | []=>afo []
 |x::xs=>match oO m x,ri m xs with
  |some y,afo ys=>afo (y::ys)
  |_,_=>afp
end
def Kj (m:List Nat):SB->Option SB
 | .box cs=>match ri m cs with|some l=>afo (.box l)|none=>afp
 |b=>afo b
def EK (s:List SB) (m:List Nat):List Nat->Option (List SB)
 | []=>afo []
 |t::ts=>match nth s t with
  |some b=>match Kj m b,EK s m ts with
   |some b',afo r=>afo (b'::r)
   |_,_=>afp
  |none=>afp
def rowOf (rk:List (Nat×List PT)) (esz:Nat):List PT:=
 match rk with
 | []=>aeq esz (.i .i64)
 |(n,r)::q=>bif AC n esz&&AC (afn r) esz then r else rowOf q esz
def Gn:Option Nat->SV->SV
 |some _,.own t _=> .own t afC
 |some _,.pre t l c _=> .pre t l c afC
 |some _,.part t o l c _=> .part t o l c afC
 |_,v=>v
def u5 (rk:List (Nat×List PT)) (e:SE) (m:List Nat):Nat->List (Nat×Option Nat)->Option (SE×List SB)
 |_,[]=>afo ([],[])
 |nx,(s,k)::r=>
  match k,By s e with
  |some esz,.nil _ afA=>match u5 rk e m (nx+1) r with
   |some p=>afo ((s,.own nx afC)::p.1,.arr (rowOf rk esz) []::p.2)
   |none=>afp
  |_,v=>match oO m v,u5 rk e m nx r with
   |some v',afo p=>afo ((s,Gn k v')::p.1,p.2)
   |_,_=>afp
def Da (rk:List (Nat×List PT)) (st:nu) (t c esz:Nat):nu:=
 match nth st.aD t with
 |some (.box cs)=>match nth cs c with
  |some (.nil _ afA)=>{st with aD:=st.aD.set t (.box (cs.set c (.own (afn st.aD) afC)))++[.arr (rowOf rk esz) []]}
  |_=>st
 |_=>st
def Py:SV->Option Nat
 | .bp t _ 0=>afo t
 |_=>afp
def Se:SV->Option Nat
 | .ef _ _ (x::_)=>Py x
 |x=>Py x
def kE (rk:List (Nat×List PT)):List (Nat×Option Nat)->nu->nu
 | [],st=>st
 |(s,k)::r,st=>match k with
  |some n=>bif adT 1000 n then (match Se (By s st.env) with
   |some t=>kE rk r (Da rk st t (n / 1000-1) (n%1000))
   |none=>kE rk r st) else kE rk r st
  |none=>kE rk r st
def E' (s:List SB) (v:SV):SV:=
 match v with
 | .own t ex=>match nth s t with
  |some (.arr _ l)=> .pre t (afn l) (afn l) ex
  |_=>v
 |_=>v
def L2 (s:List SB) (c:Nat):SE->SE
 | []=>[]
 |(t,v)::r=>bif AC t c then (t,E' s v)::r else (t,v)::L2 s c r
def zF:List (Nat×Option Nat)->nu->nu
 | [],st=>st
 |(t,_)::r,st=>bif adT 1000000 t then zF r {st with env:=L2 st.aD (t-1000000) st.env} else zF r st
def zG (e:SE):List (Nat×Option Nat)->Bool
 | []=>afA
 |(s,_)::r=>(By s e).sure&&zG e r
def Db (e:SE):List (Nat×Option Nat)->List Nat
 | []=>[]
 |(s,_)::r=>Kh qO (By s e)++Db e r
def Kk:List SB->Nat->List Nat
 |b::r,n+1=>C' b++Kk r n
 |_,_=>[]
def Dc:List SB->Nat->Bool
 |b::r,n+1=>xd b&&Dc r n
 |_,_=>afA
def Dd (rk:List (Nat×List PT)) (live:List (Nat×Option Nat)) (st:nu):Option nu:=
 bif zG st.env live&&Dc st.aD st.kn then
  match AT st.aD 4096 (Kk st.aD st.kn++Db st.env live) (sH st.kn) with
  |none=>afp
  |some m=>match EK st.aD m m,u5 rk st.env m (afn m) live with
   |some s1,afo (e1,s2)=>afo (zF live (kE rk live {env:=e1,aD:=s1++s2,fz:=vA st.fz 0 m,kn:=st.kn}))
   |_,_=>afp
 else afp
def De (rk:List (Nat×List PT)) (live:List (Nat×Option Nat)) (st:nu):Option nu:=
 match Dd rk live st with
 |some s=>bif live.any fun p=>p.2.isSome then Dd rk live s else afo s
 |none=>afp
inductive AK where
 |i
 |b
 |n
 |l (r:List PT)
 |s
@[reducible] def AK.T : AK -> Type
  | .i => Int
  | .b => Bool
  | .n => Nat
  | .l r => List (RT r)
  | .s => List (List Int)
@[reducible] def gd : List AK -> Type
  | [] => Unit
  | [a] => a.T
  | a :: q :: r => a.T × gd (q :: r)
inductive vt where
 |i (n:Int)
 |b (x:Bool)
 |n (x:Nat)
 |l (r:List PT) (x:List (RT r))
 |s (x:List (List Int))
def vt.k:vt->AK
 | .i _=> .i
 | .b _=> .b
 | .n _=> .n
 | .l r _=> .l r
 | .s _=> .s
def AK.at:(a:AK)->a.T->vt
 | .i,x=> .i x
 | .b,x=> .b x
 | .n,x=> .n x
 | .l r,x=> .l r x
 | .s,x=> .s x
def AK.of:(a:AK)->vt->Option a.T
 | .i,.i x=>afo x
 | .b,.b x=>afo x
 | .n,.n x=>afo x
 | .l r,.l q x=>qp q r x
 | .s,.s x=>afo x
 |_,_=>afp
def jR:(ks:List AK)->gd ks->List vt
 | [],_=>[]
 | [a],x=>[a.at x]
 |a::q::r,x=>a.at x.1::jR (q::r) x.2
def j8:(ks:List AK)->List vt->Option (gd ks)
 | [],[]=>afo ()
 | [a],[x]=>a.of x
 |a::q::r,x::xs=>match a.of x,j8 (q::r) xs with
  |some y,afo ys=>afo (y,ys)
  |_,_=>afp
 |_,_=>afp
mutual
def AU:SV->List vt
 | .int _ n=>[.i n]
 | .bool b=>[.b b]
 | .agg cs=>AV cs
 | .cj cs=>AV cs
 | .sl r l=>[.l r l]
 | .pre _ len cap _=>[.n len,.n cap]
 | .part _ off len cap _=>[.n off,.n len,.n cap]
 | .pb _ i _=>[.i i]
 | .bw cs _=>AV cs
 | .ef _ a b=>AV a++AV b
 |_=>[]
def AV:List SV->List vt
 | []=>[]
 |x::xs=>AU x++AV xs
end
def Pz:SB->List vt
 | .arr r l=>[.l r l]
 | .box cs=>AV cs
 | .set l=>[.s l]
 | .bH p l=>[.l [.i .i64,p] l]
 | .dead=>[]
def Gp:List SB->List vt
 | []=>[]
 |b::r=>Pz b++Gp r
def NB:SE->List vt
 | []=>[]
 |(_,v)::r=>AU v++NB r
def mD (st:nu):List vt:=NB st.env++Gp st.aD
mutual
def u6:SV->SV->Bool
 | .undef,.undef=>afA
 | .iB,.iB=>afA
 | .dw,.dw=>afA
 | .int k _,.int l _=>eE k l
 | .bool _,.bool _=>afA
 | .agg a,.agg b=>vY a b
 | .cj a,.cj b=>vY a b
 | .sl r _,.sl q _=>zD r q
 | .nil e c,.nil f d=>AC e f&&c==d
 | .own t x,.own u y=>AC t u&&x==y
 | .pre t _ _ x,.pre u _ _ y=>AC t u&&x==y
 | .part t _ _ _ x,.part u _ _ _ y=>AC t u&&x==y
 | .pb t _ o,.pb u _ p=>AC t u&&AC o p
 | .bp t n o,.bp u m p=>AC t u&&AC n m&&AC o p
 | .bw a o,.bw b p=>vY a b&&AC o p
 | .ef f a b,.ef g c d=>AC f g&&vY a c&&vY b d
 | .mp t,.mp u=>AC t u
 | .ga,.ga=>afA
 |_,_=>afC
def vY:List SV->List SV->Bool
 | [],[]=>afA
 |x::xs,y::ys=>u6 x y&&vY xs ys
 |_,_=>afC
end
def YL:SB->SB->Bool
 | .arr r _,.arr q _=>zD r q
 | .box a,.box b=>vY a b
 | .set _,.set _=>afA
 | .bH p _,.bH q _=>p.same q
 | .dead,.dead=>afA
 |_,_=>afC
def Df:List SB->List SB->Bool
 | [],[]=>afA
 |x::xs,y::ys=>YL x y&&Df xs ys
 |_,_=>afC
def L3:SE->SE->Bool
 | [],[]=>afA
 |(t,x)::xs,(u,y)::ys=>AC t u&&u6 x y&&L3 xs ys
 |_,_=>afC
def L4:List Nat->List Nat->Bool
 | [],[]=>afA
 |x::xs,y::ys=>AC x y&&L4 xs ys
 |_,_=>afC
def yB (a b:nu):Bool:=L3 a.env b.env&&Df a.aD b.aD&&L4 a.fz b.fz&&AC a.kn b.kn
mutual
def qS:SV->List vt->SV×List vt
 | .int k _,.i n::q=>(.int k n,q)
 | .bool _,.b x::q=>(.bool x,q)
 | .agg cs,q=>(.agg (pS cs q).1,(pS cs q).2)
 | .cj cs,q=>(.cj (pS cs q).1,(pS cs q).2)
 | .sl _ _,.l r l::q=>(.sl r l,q)
 | .pre t _ _ x,.n len:: .n cap::q=>(.pre t len cap x,q)
 | .part t _ _ _ x,.n off:: .n len:: .n cap::q=>(.part t off len cap x,q)
 | .pb t _ o,.i i::q=>(.pb t i o,q)
 | .bw cs o,q=>(.bw (pS cs q).1 o,(pS cs q).2)
 | .ef f a b,q=>(.ef f (pS a q).1 (pS b (pS a q).2).1,(pS b (pS a q).2).2)
 |v,q=>(v,q)
def pS:List SV->List vt->List SV×List vt
 | [],q=>([],q)
 |x::xs,q=>((qS x q).1::(pS xs (qS x q).2).1,(pS xs (qS x q).2).2)
end
def Kl:SB->List vt->SB×List vt
 | .arr _ _,.l r l::q=>(.arr r l,q)
 | .box cs,q=>(.box (pS cs q).1,(pS cs q).2)
 | .set _,.s l::q=>(.set l,q)
 | .bH _ _,.l [.i .i64,p] l::q=>(.bH p l,q)
 |b,q=>(b,q)
def yC:List SB->List vt->List SB×List vt
 | [],q=>([],q)
 |b::r,q=>((Kl b q).1::(yC r (Kl b q).2).1,(yC r (Kl b q).2).2)
def H5:SE->List vt->SE×List vt
 | [],q=>([],q)
 |(t,v)::r,q=>((t,(qS v q).1)::(H5 r (qS v q).2).1,(H5 r (qS v q).2).2)
def sY (st:nu) (q:List vt):nu:={st with env:=(H5 st.env q).1,aD:=(yC st.aD (H5 st.env q).2).1}
def PA:List vt->List AK
 | []=>[]
 |a::r=>a.k::PA r
def ptK {β:Type 1} (p:PT) (c:PT->β):β:=
 match p with
 | .i k=>c (.i k)
 | .b=>c .b
def rK {β:Type 1}:List PT->(List PT->β)->β
 | [],c=>c []
 |p::r,c=>ptK p fun p=>rK r fun r=>c (p::r)
def Sf {β:Type 1}:List AK->(List AK->β)->β
 | [],c=>c []
 | .i::r,c=>Sf r fun r=>c (.i::r)
 | .b::r,c=>Sf r fun r=>c (.b::r)
 | .n::r,c=>Sf r fun r=>c (.n::r)
 | .l q::r,c=>rK q fun q=>Sf r fun r=>c (.l q::r)
 | .s::r,c=>Sf r fun r=>c (.s::r)
mutual
def qt:SV->Option PV
 | .int k n=>afo (.int k n)
 | .bool b=>afo (.bool b)
 | .str x=>afo (.str x)
 | .dw=>afo .dw
 | .agg cs=>match pq cs with|some l=>afo (.agg l)|none=>afp
 | .cj cs=>match pq cs with|some l=>afo (.cj l)|none=>afp
 | .sl r l=>afo (.sl (afn r) afC (l.map (RT.pv r)))
 | .nil e c=>afo (.sl e c [])
 | .bw cs off=>match pq cs with|some l=>afo (.bw l off)|none=>afp
 | .ef f a b=>match pq a,pq b with
  |some x,afo y=>afo (.ef f x y)
  |_,_=>afp
 |_=>afp
def pq:List SV->Option (List PV)
 | []=>afo []
 |x::xs=>match qt x,pq xs with
  |some y,afo ys=>afo (y::ys)
  |_,_=>afp
end
structure bT (α:Type) where
 enc:α->List SV
 dec:List SV->Option (α×List SV)
 law: ∀{vs:List SV} {a:α} {rest:List SV} {ps:List PV},dec vs=afo (a,rest)->pq vs=afo ps-> ∃p q,ps=p++q/\pq (enc a)=afo p/\pq rest=afo q
structure Arg (α:Type) where
 enc:α->SV
 dec:SV->Option α
 law: ∀{v:SV} {a:α} {p:PV},dec v=afo a->qt v=afo p->qt (enc a)=afo p
structure aC (α:Type) where
 enc:α->List SV
 dec:List SV->Option α
 law: ∀{vs:List SV} {a:α} {ps:List PV},dec vs=afo a->pq vs=afo ps->pq (enc a)=afo ps
inductive Kd where
 |pure
 |vp
 |own
structure sZ where
 {α β:Type}
 args:aC α
 res:Arg β
 fn:α->Option β
 kd:Kd
 ow:Bool
structure eO where
 ka:List AK
 ta:List SV
 tb:List SB
 ko:List AK
 tv:SV
 to:List SB
 fn:gd ka->Option (gd ko)
def zH:(p:PT)->PV->Option p.T
 | .i k,.int l n=>bif eE l k then afo n else afp
 | .b,.bool x=>afo x
 |_,_=>afp
def EL:(r:List PT)->List PV->Option (RT r)
 | [],[]=>afo ()
 | [p],[v]=>zH p v
 |p::q::r,v::vs=>match zH p v,EL (q::r) vs with
  |some a,afo b=>afo (a,b)
  |_,_=>afp
 |_,_=>afp
def BA (r:List PT):List (List PV)->Option (List (RT r))
 | []=>afo []
 |x::xs=>match EL r x,BA r xs with
  |some a,afo l=>afo (a::l)
  |_,_=>afp
structure ZH where
 r:List PT
 g:Option FuncId
 fn:List (RT r)->Option (List (RT r))
def ajD:ZH:=⟨[.i .i64],afp,ZE⟩
def Sg:Option FuncId->List PV->Bool
 |none,[]=>afA
 |some g,[.ef h [] []]=>AC h g
 |_,_=>afC
def PB (q:ZH) (args:List PV) (aD:bY) (fz:List Nat):Option (PV×bY×List Nat):=
 match args with
 | .own t e off len _ _::r=>match aD[t]? with
  |some (.arr e1 rows)=>if AC e (afn q.r)&&AC off 0&&adT len (afn rows)&&adT len jU&&!has fz t&&Sg q.g r then
   (match BA q.r (rows.take len) with
   |some l=>match q.fn l with
    |some m=>if AC (afn m) (afn l) then afo (.cj [],aD.set t (.arr e1 (m.map (RT.pv q.r)++rows.drop len)),fz) else afp
    |none=>afp
   |none=>afp) else afp
  |_=>afp
 |_=>afp
inductive Cd where
 |code (x:aL)
 |ins (esz:Nat)
 |srt (q:ZH)
 |cat
instance:Coe aL Cd:=⟨.code⟩
def Cd.ent:Cd->Yf
 | .code x=> .code x
 | .ins n=> .MU (Oy n)
 | .srt q=> .MU (PB q)
 | .cat=> .MU Y8
structure Ctx where
 lp:Option Nat
 YM:FuncId->List sZ
 fpc:FuncId->List eO
 code:FuncId->Option Cd
 rk:List (Nat×List PT)
 jn:Bool
inductive XRS where
 |loc (r:fk)
 |shr (v:SV) (s:List SB) (z:List Nat)
def SV.ZI:SV->Bool
 | .own .. | .pre .. | .part .. | .pa .. | .pb .. | .bp .. | .mp .. =>afA
 |_=>afC
def yD:List SV->Bool
 | []=>afC
 |x::xs=>x.ZI||yD xs
mutual
def Rz (ts:List Nat):SV->SV
 | .pa t r i a off=>bif has ts t then .pb t i off else .pa t r i a off
 | .agg cs=> .agg (PC ts cs)
 | .cj cs=> .cj (PC ts cs)
 | .bw cs off=> .bw (PC ts cs) off
 | .ef f a b=> .ef f (PC ts a) (PC ts b)
 |v=>v
def PC (ts:List Nat):List SV->List SV
 | []=>[]
 |x::xs=>Rz ts x::PC ts xs
end
def dgE (ts:List Nat):SE->SE
 | []=>[]
 |(t,v)::r=>(t,Rz ts v)::dgE ts r
def Sh (ts:List Nat):SB->SB
 | .box cs=> .box (PC ts cs)
 |b=>b
def Ao (ts:List Nat):List SB->List SB
 | []=>[]
 |b::r=>Sh ts b::Ao ts r
def PD:List SB->Nat->SB->List SB
 | [],_,_=>[]
 |_::r,0,b=>b::r
 |x::r,n+1,b=>x::PD r n b
def px:List (Nat×SB)->List SB->List SB
 | [],s=>s
 |(t,b)::r,s=>px r (PD s t b)
def vZ:List (Nat×SB)->List Nat
 | []=>[]
 |(t,_)::r=>t::vZ r
def Gq (d:Option Nat) (v:SV) (e:SE):SE:=
 match d with
 |some t=>(t,v)::e
 |none=>e
def ZJ:List SB->List SB->List SB
 | [],l=>l
 |b::r,l=>b::ZJ r l
def fk.next (d:Option Nat) (st:nu) (r:fk):nu:=
 match r.wr with
 | []=>{env:=Gq d r.v st.env,aD:=ZJ st.aD r.news,fz:=r.fr++st.fz,kn:=st.kn}
 |w=>{env:=Gq d r.v (dgE (vZ w) st.env),aD:=ZJ (Ao (vZ w) (px w st.aD)) r.news,fz:=r.fr++st.fz,kn:=st.kn}
def fk.ok (z:List Nat) (r:fk):Bool:=(vZ r.wr).all fun t=>!has z t
def fk.tr (nx:Nat) (r:fk):Tr:=
 ⟨r.rd++r.fr,vZ r.wr,!r.news.isEmpty,afC,(r.rd++r.fr).all (aes · nx)&&(vZ r.wr).all (aes · nx),nx,nx+afn r.news⟩
def PE:Tr:=⟨[],[],afA,afA,afA,0,0⟩
def od {R:Type}:List SB->List SB->fG R->fG R
 | [],_,k=>k
 |x::xs,y::ys,k=>match x with
  | .arr r l=>match y with
   | .arr q m=>bif zD r q then fv (afn m==afn l) (od xs ys k) aN else aN
   | .dead=>od xs ys k
   |_=>aN
  | .dead=>match y with
   | .dead=>od xs ys k
   |_=>aN
  | .box _=>match y with
   | .box _=>od xs ys k
   | .dead=>od xs ys k
   |_=>aN
  |_=>od xs ys k
 |_,_,_=>aN
abbrev Si:=FuncId->List SV->List SB->List Nat-> ∀R:Type,(SV->List SB->List Nat->fG R)->fG R
section
variable {R : Type}
def afU (_:FuncId) (_:List SV):fG R:=aN
def ajF (_:FuncId) (_:List SV) (_:List SB):fG R:=aN
def Km (f:FuncId) (m:Bool) (s:List SB) (tk:List Nat) (vs:List SV) (k:XRS->fG R):List sZ->fG R
 | []=>afU f vs
 |c::r=>match c.args.dec vs with
  |some a=>bif m==c.ow then jQ (c.fn a) fun b=>match c.kd with
   | .pure=>k (.loc {v:=c.res.enc b,rd:=tk})
   | .vp=>k (.loc {v:=c.res.enc b,rd:=tk,fr:=tk})
   | .own=>k (.loc {v:=(vX (afn s) (c.res.enc b)).1,news:=(vX (afn s) (c.res.enc b)).2,rd:=tk}) else Km f m s tk vs k r
  |none=>Km f m s tk vs k r
mutual
def H6 (g:Nat->Nat):SV->SV
 | .agg cs=> .agg (BB g cs)
 | .cj cs=> .cj (BB g cs)
 | .own t ex=> .own (g t) ex
 | .pre t len cap ex=> .pre (g t) len cap ex
 | .part t off len cap ex=> .part (g t) off len cap ex
 | .pa t _ i _ off=> .pb (g t) i off
 | .pb t i off=> .pb (g t) i off
 | .bp t n off=> .bp (g t) n off
 | .bw cs off=> .bw (BB g cs) off
 | .mp t=> .mp (g t)
 | .ef f a b=> .ef f (BB g a) (BB g b)
 |v=>v
def BB (g:Nat->Nat):List SV->List SV
 | []=>[]
 |x::xs=>H6 g x::BB g xs
end
def PF (g:Nat->Nat):SB->SB
 | .box cs=> .box (BB g cs)
 |b=>b
def xV (g:Nat->Nat):List Nat->List SB->List (Nat×SB)
 |t::r,b::s=>(t,PF g b)::xV g r s
 |_,_=>[]
def YN (k:Nat) (v:SV) (s:List SB):Bool:=(Kh qO v++s.flatMap C').all fun t=>aes t k
def fpS (f : FuncId) (n : Nat) (tk : List Nat) (vs : List SV) (s0 : List SB) (k : XRS -> fG R) : List eO -> fG R
  | [] => ajF f vs s0
  | c :: r => bif vY c.ta vs && Df c.tb s0 then (match j8 c.ka (AV vs ++ Gp s0) with
      | some a => jQ (c.fn a) fun b =>
          k (.loc { v := H6 (jg tk n) (qS c.tv (jR c.ko b)).1, wr := xV (jg tk n) tk (yC c.to (qS c.tv (jR c.ko b)).2).1 })
      | none => fpS f n tk vs s0 k r) else fpS f n tk vs s0 k r
def Fa (cx:Ctx) (inl:Si) (e:SE) (s:List SB) (z:List Nat) (op:jL) (k:XRS->fG R):fG R:=
 match op with
 | .call m f args=>match m with
  | .Rp=>match qq s (jC s deep) (iH e args) with
   |some vs=>Km f afC s (pQ (vo s deep) (iH e args)) vs k (cx.YM f)
   |none=>aN
  | .own=>match qq s (jC s deep) (iH e args) with
   |some vs=>Km f afA s (pQ (vo s deep) (iH e args)) vs k (cx.YM f)
   |none=>aN
  | .shr=>inl f (iH e args) s z R fun v s' z'=>k (.shr v s' z')
  | .fp=>match Kg s (jC s deep) (iH e args) with
   |false=>aN
   |true=>let tk:=ni (pQ (vo s deep) (iH e args))
    bif tk.all (fun t=>!has z t) then (match ri tk (iH e args),EK s tk tk with
     |some vs,afo s0=>fpS f (afn s) tk vs s0 k (cx.fpc f)
     |_,_=>aN) else aN
 | .uS x args=>match bK e x with
  | .ef f a b=>bif yD (iH e args++b) then inl f (a++iH e args++b) s z R fun v s' z'=>k (.shr v s' z')
   else match qq s (jC s deep) (a++iH e args++b) with
   |some vs=>Km f afC s (pQ (vo s deep) (a++iH e args++b)) vs k (cx.YM f)
   |none=>aN
  |_=>aN
 |op=>kT e s z op fun r=>k (.loc r)
def L5 (d:Option Nat) (st:nu) (tr:List Tr) (k:nu->List Tr->fG R) (x:XRS):fG R:=
 match x with
 | .loc r=>bif r.ok st.fz then Sc r.v fun v=>k ({r with v}.next d st) (r.tr (afn st.aD)::tr) else aN
 | .shr v s z=>Sc v fun v=>od st.aD s (bif st.fz.all (has z) then k {env:=Gq d v (dgE (sH (afn st.aD)) st.env),aD:=s,fz:=z,kn:=st.kn} (PE::tr) else aN)
def nv (cx:Ctx) (inl:Si):List bI->nu->List Tr->(nu->List Tr->fG R)->fG R
 | [],st,tr,k=>k st tr
 |o::r,st,tr,k=>
  let run:=fun st:nu=>match o.op with
   | .pick (.t c) a b=>match By c st.env with
    | .bool x=>fv x (L5 o.dst {st with env:=yz c (.bool afA) st.env} tr (nv cx inl r · · k) (.loc {v:=bK st.env a}))
     (L5 o.dst {st with env:=yz c (.bool afC) st.env} tr (nv cx inl r · · k) (.loc {v:=bK st.env b}))
    |_=>aN
   |op=>Fa cx inl st.env st.aD st.fz op (L5 o.dst st tr (nv cx inl r · · k))
  let skip:=fun st:nu=>nv cx inl r {st with env:=Gq o.dst .iB st.env} (Tr.idle::tr) k
  match o.guard with
  |none=>run st
  |some (s,want)=>match By s st.env with
   | .bool x=>bif want then fv x (run {st with env:=yz s (.bool afA) st.env}) (skip {st with env:=yz s (.bool afC) st.env})
    else fv x (skip {st with env:=yz s (.bool afA) st.env}) (run {st with env:=yz s (.bool afC) st.env})
   | .iB=>skip st
   |_=>aN
def H7 (e:SE):List Nat->(SE->fG R)->fG R
 | [],k=>k []
 |s::r,k=>Sc (By s e) fun v=>H7 e r fun e'=>k ((s,v)::e')
def jnV:SV->SV->SV
 | .undef,_=> .ga
 |_,v=>v
def ZK (o:SE):SE->SE
 | []=>[]
 |(t,v)::r=>(t,jnV (By t o) v)::ZK o r
def jnL (o:SE):List Nat->SE
 | []=>[]
 |t::r=>(t,jnV (By t o) (By t o))::jnL o r
def NC (o:SE) (fh:List Nat) (st:nu):nu:={st with env:=jnL o fh}
def guards:List bI->Nat
 | []=>0
 |o::r=>match o.guard with
  |none=>guards r
  |some _=>guards r+1
def jnC:ij->Bool
 | .seq (.region _ ops _) (.cond _ _ _)=>adT 8 (guards ops)
 |_=>afC
def jnK:ij->List Nat
 | .seq (.region _ _ fh) _=>fh
 |_=>[]
noncomputable def v5 (cx:Ctx) (inl:Si):(c:ij)->(R:Type)->nu->(gb->nu->fG R)->fG R
 | .skip,_,st,k=>k .normal st
 | .region d ops fh,_,st,k=>nv cx inl ops st [] fun jG tr=>
  let fin:=H7 jG.env fh fun e=>k .normal {jG with env:=e}
  match d with
  |none=>fin
  |some bf=>match pL 0 (tr.reverse.zip bf) with
   |true=>fin
   |false=>aN
 | .seq a b,R,st,k=>match cx.jn&&jnC a with
  |false=>v5 cx inl a R st fun e jG=>match e with
   | .normal=>v5 cx inl b R jG k
   |e=>k e jG
  |true=>Sf (PA (mD (NC st.env (jnK a) st))) fun ks=>match j8 ks (mD (NC st.env (jnK a) st)) with
   |none=>aN
   |some y0=>fun ρ w=>LV cx.lp (fun y:Bool×gd ks=>fv y.1
    (v5 cx inl a (Step (Bool×gd ks) ρ) st fun e tz=>match e with
     | .normal=>bif yB (NC st.env (jnK a) st) {tz with env:=ZK st.env tz.env} then (match j8 ks (mD {tz with env:=ZK st.env tz.env}) with
      |some y'=>Bz (.next (afC,y'))
      |none=>aN) else aN
     |e=>fun vu w'=>k e tz vu fun r=>w' (.done (w r)))
    (fun vu w'=>v5 cx inl b R (sY (NC st.env (jnK a) st) (jR ks y.2)) k vu fun r=>w' (.done (w r))) (Step (Bool×gd ks) ρ) fun z=>z) (afA,y0)
 | .cond c a b,R,st,k=>match bK st.env c with
  | .bool x=>fv x (v5 cx inl a R st k) (v5 cx inl b R st k)
  |_=>aN
 | .block id b,R,st,k=>v5 cx inl b R st fun e jG=>match e with
  | .exit j=>bif AC j id then k .normal jG else k (.exit j) jG
  |e=>k e jG
 | .loop live b,_,st,k=>match De cx.rk live st with
  |none=>aN
  |some mn=>Sf (PA (mD mn)) fun ks=>match j8 ks (mD mn) with
   |none=>aN
   |some y0=>fun ρ w=>LV cx.lp (fun y:gd ks=>v5 cx inl b (Step (gd ks) ρ) (sY mn (jR ks y)) (fun e tz=>match e with
    | .normal=>match De cx.rk live tz with
     |some Kn=>bif yB mn Kn then (match j8 ks (mD Kn) with
      |some y'=>Bz (.next y')
      |none=>aN) else aN
     |none=>aN
    |e=>fun vu w'=>k e tz vu fun r=>w' (.done (w r))) (Step (gd ks) ρ) fun z=>z) y0
 | .exit id,_,st,k=>k (.exit id) st
 | .ret,_,st,k=>k .ret st
def Ko (st:nu):RV->Option SV
 | .tmp t=>afo (By t st.env)
 | .cell t agg=>match By t st.env with
  | .bp t _ off=>match nth st.aD t with
   |some (.box cs)=>xT agg off cs
   |_=>afp
  | .bw cs off=>xT agg off cs
  |_=>afp
def xf (st:nu):List RV->Option (List SV)
 | []=>afo []
 |r::rs=>match Ko st r,xf st rs with
  |some v,afo vs=>afo (v::vs)
  |_,_=>afp
def AW:List SV->SV
 | [v]=>v
 |vs=> .cj vs
def Kp:Nat->List SV->SE
 |_,[]=>[]
 |i,v::r=>(i,v)::Kp (i+1) r
noncomputable def H8 (cx:Ctx) (inl:Si) (x:aL) (R:Type) (args:List SV) (s:List SB) (z:List Nat) (k:SV->List SB->List Nat->fG R):fG R:=
 bif AC (afn args) x.Bo then v5 cx inl x.code R {env:=Kp 0 args,aD:=s,fz:=z,kn:=afn s} fun e st=>match e with
  | .exit _=>aN
  |_=>match xf st x.res with
   |some vs=>k (AW vs) st.aD st.fz
   |none=>aN
 else aN
def fk.lN (s:List SB) (r:fk):List SB:=
 match r.wr with
 | []=>ZJ s r.news
 |w=>ZJ (Ao (vZ w) (px w s)) r.news
def BC:Option FuncId->List SV->Bool
 |none,[]=>afA
 |some g,[.ef h [] []]=>AC h g
 |_,_=>afC
structure afV where
 t:Nat
 r:List PT
 l:List (RT r)
 i:Int
 m:List (RT r)
def Sj (esz:Nat) (args:List SV) (s:List SB) (z:List Nat):Option afV:=
 match args with
 | [.own t _,.int .i64 i,.own u _]=>match nth s t with
  |some (.arr r l)=>match nth s u with
   |some (.arr q m)=>match qp q r m with
    |some m=>bif AC (afn r) esz&&!Nat.beq t u&&!has z t then afo ⟨t,r,l,i,m⟩ else afp
    |none=>afp
   |_=>afp
  |_=>afp
 |_=>afp
def ZL (esz:Nat) (args:List SV) (s:List SB) (z:List Nat) (k:SV->List SB->List Nat->fG R):fG R:=
 match Sj esz args s z with
 |some a=>jQ (Gj a.l a.i a.m) fun l'=>k (.own (afn s) afC) (fk.lN s {v:= .own (afn s) afC,news:=[.arr a.r l'],wr:=[(a.t,.dead)]}) z
 |none=>aN
structure afW where
 t:Nat
 r:List PT
 l:List (RT r)
 m:List (RT r)
def Sk (args:List SV) (s:List SB) (z:List Nat):Option afW:=
 match args with
 | [.part t off len _ _]=>match nth s t with
  |some (.box [.sl r l,.sl q m])=>match qp q r m with
   |some m=>bif AC (afn r) 1&&AC off 0&&AC len 2&&!has z t then afo ⟨t,r,l,m⟩ else afp
   |none=>afp
  |_=>afp
 |_=>afp
def ZM (args:List SV) (s:List SB) (z:List Nat) (k:SV->List SB->List Nat->fG R):fG R:=
 match Sk args s z with
 |some a=>jQ (ZD a.l a.m) fun l'=>k (.own (afn s) afC) (fk.lN s {v:= .own (afn s) afC,news:=[.arr a.r l'],wr:=[(a.t,.dead)]}) z
 |none=>aN
def Sl (r:List PT) (g:Option FuncId) (args:List SV) (s:List SB) (z:List Nat):Option (Nat×Option Nat×List (RT r)):=
 match args with
 | .own t _::a=>match nth s t with
  |some (.arr q l)=>match qp q r l with
   |some l=>bif !has z t&&BC g a then afo (t,afp,l) else afp
   |none=>afp
  |_=>afp
 | .pre t len _ _::a=>match nth s t with
  |some (.arr q l)=>match qp q r l with
   |some l=>bif !has z t&&BC g a then afo (t,afo len,l) else afp
   |none=>afp
  |_=>afp
 |_=>afp
def ZN (q:ZH) (args:List SV) (s:List SB) (z:List Nat) (k:SV->List SB->List Nat->fG R):fG R:=
 match Sl q.r q.g args s z with
 |some (t,afp,l)=>jQ (C7 q.fn l) fun m=>k (.cj []) (fk.lN s {v:= .cj [],wr:=[(t,.arr q.r m)]}) z
 |some (t,afo len,l)=>jQ (Gk q.fn len l) fun m=>k (.cj []) (fk.lN s {v:= .cj [],wr:=[(t,.arr q.r m)]}) z
 |none=>aN
noncomputable def PG (cx:Ctx):Nat->Si
 |0=>fun _ _ _ _ _ _=>aN
 |n+1=>fun f args s z R k=>match cx.code f with
  |some (.code x)=>H8 cx (PG cx n) x R args s z k
  |some (.ins e)=>ZL e args s z k
  |some (.srt q)=>ZN q args s z k
  |some .cat=>ZM args s z k
  |none=>aN
def PH (kd:Kd) {β:Type} (res:Arg β) (v:SV) (s:List SB) (z:List Nat):fG β:=
 match kd with
 | .pure=>bif yA v then j7 (res.dec v) Bz else aN
 | .vp=>bif yA v then aN else j7 (Px s v) fun u=>j7 (res.dec u) Bz
 | .own=>j7 (NA s z [] v) fun u=>j7 (res.dec u.1) Bz
noncomputable def YO (cx:Ctx) (x:aL) {α β:Type} (args:aC α) (res:Arg β) (kd:Kd) (a:α):Option β:=
 H8 cx (PG cx 8) x β (args.enc a) [] [] (PH kd res) β fun b=>b
def Dg:List SB->Bool
 | []=>afA
 |b::r=>xd b&&Dg r
def zI {R:Type}:List SB->List SB->fG R->fG R
 | [],[],k=>k
 |x::xs,y::ys,k=>match x with
  | .arr r l=>match y with
   | .arr q m=>bif zD r q then fv (afn m==afn l) (zI xs ys k) aN else aN
   |_=>aN
  | .dead=>match y with
   | .dead=>zI xs ys k
   |_=>aN
  | .box _=>match y with
   | .box _=>zI xs ys k
   |_=>aN
  | .set _=>match y with
   | .set _=>zI xs ys k
   |_=>aN
  | .bH _ _=>match y with
   | .bH _ _=>zI xs ys k
   |_=>aN
 |_,_,_=>aN
noncomputable def ajG (wd:Bool) (cx:Ctx) (x:aL) (ka:List AK) (ta:List SV) (tb:List SB) (ko:List AK) (tv:SV) (to:List SB) (a:gd ka):Option (gd ko):=
 H8 cx (PG cx 8) x (gd ko) (pS ta (jR ka a)).1 (yC tb (pS ta (jR ka a)).2).1 [] (fun v s z=>match z with
  | []=>let u:=bif wd then E' s v else v
   let s1:=s.take (afn tb)
   bif u6 tv u&&Df to s1&&YN (afn tb) u s1&&u.sure&&Dg s1 then zI (yC tb (pS ta (jR ka a)).2).1 s1 (j7 (j8 ko (AU u++Gp s1)) Bz) else aN
  |_=>aN) (gd ko) fun b=>b
end
end Go.Vm
