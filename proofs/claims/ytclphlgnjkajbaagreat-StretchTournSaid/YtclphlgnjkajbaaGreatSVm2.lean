/- The logical machine, part 2: VmCall3, VmFp, VmRun, VmInv, VmStep, VmShr, VmOp, VmReg, VmReg2, VmNorm, VmNorm2, VmCode, VmSound, VmPrim, VmIns, VmCat, VmTab, VmComp, VmLaw, VmSym, SvBase, SvDef. -/
import Derived.Test.YtclphlgnjkajbaaGreatSVm1
import Derived.Orders
import Derived.Laws.Sem
import Derived.Laws.Externs
import Derived.Lib.SliceRun
import Derived.Laws.CopyRow
import Derived.ProofKit
import Derived.Carry
import Derived.OpenShut
import Derived.Deep.Slices
import Derived.Deep.Grids
open Bool renaming and_eq_true->v6,false_eq_true->WF,not_eq_true'->aah,or_eq_true->aeB,true->afc,false->afd
open List renaming getElem?_eq_getElem->ww,getElem?_eq_some_iff->EQ,getElem?_append_left->If,getElem?_append_right->PP,mem_append->aax,all_eq_true->aaG,mem_singleton->ac1,length_append->ac2,take_of_length_le->acl,append_assoc->adc,replicate->ae1,mem_cons->ae7,mem_cons_of_mem->aeb,flatMap_append->aeh,getD_eq_getElem?_getD->aer,pairwise_iff_getElem->aes,flatMap_cons->aev,getElem?_take_of_lt->aew,length_drop->aex,length_take->aey,drop_of_length_le->aez,mem_append_right->aeC,getElem?_set_ne->aeD,mem_append_left->aeE,mem_of_mem_take->aeH,mem_of_mem_drop->aeI,nodup_append->aeO,getElem?_set->aeP,any_eq_true->aeR,length_set->aeT,drop_zero->aeY,length->af6
open Option.some renaming injEq->AC,inj->aeA
open Nat renaming beq->Do,le_refl->M2,lt_trichotomy->aal,lt_or_ge->aau,le_trans->aav,ble->aaB,zero_le->aaS,eq_or_lt_of_le->ac0,lt_of_lt_of_le->ad8,ble_eq->ae6,blt->ae8,le_of_lt->aep,add_mul->aeG,mul_le_mul_right->aeJ,lt_or_gt_of_ne->aeL,beq_eq->aeM,le_total->aeN,zero_add->af5
open Option renaming map_eq_some_iff->IR,some->afa,none->afb
open Prod.mk renaming injEq->NE
open Array renaming getElem?_eq_some_iff->UV,getElem?_setIfInBounds->aaz,getD_eq_getD_getElem?->aaC,getElem?_setIfInBounds_self_of_lt->acZ,replicate->ad2,getElem?_eq_getElem->aet,size_replicate->aeF,size_append->aeQ,ext'->aeX
open Int renaming ofNat_eq_natCast->aeg,ofNat->aeK
open Go.Sem renaming run_bind->aeq,run_pure->aeZ
open Go.Result renaming andThen_ok->aeu
open Go.World renaming cell?->aeS
open Decidable renaming decide->afe
/- A pure call, whole. -/
namespace Go.Vm
structure tV (im:Im) (loc:Loc) (ax:cw) (w:World) (v:PV) (tX:cw) (HU:List Nat) (dX:Im) (bj:Loc) (w':World) (u:Value):Prop where
 gn:mY im dX
 dI:lH loc bj
 vr:VR dX bj v u
 sr:SR dX bj tX HU w'
 os:w'.os=w.os
 tape:Tape w w'
 output:w'.output=w.output
 size:w.heap.size<=w'.heap.size
 frame: ∀b,b<w.heap.size->(∀t li k,loc t=afa li->ax[t]? =afa k->k.bH=afc->li.c6≠b)->w'.heap[b]? =w.heap[b]?
 dM: ∀b o,dX b=afa o->im b=afa o\/w.heap.size<=b\/ ∃t li k,loc t=afa li/\ax[t]? =afa k/\k.bH=afc/\li.c6=b
 mP: ∀t li,bj t=afa li->loc t=afa li\/af6 ax<=t
 own: ∀t li k,bj t=afa li->tX[t]? =afa k->k.bH=afc->(w.heap.size<=li.c6\/ ∃u lu ku,loc u=afa lu/\ax[u]? =afa ku/\ku.bH=afc/\lu.c6=li.c6)
def sU (P:Program) (f:FuncId) (us:Array Value) (w:World) (R:Value->World->Prop):Prop:=
 (∃v w',(callFunc f us).run P w= .ok (.value v) w'/\R v w')\/
 ((callFunc f us).run P w= .ok (.enter f us) w/\Calls P f us w fun e w'=> ∃v,e= .returned v/\R v w')
theorem sU.mono {P:Program} {f:FuncId} {us:Array Value} {w:World} {R R':Value->World->Prop} (h:sU P f us w R) (hr: ∀v w',R v w'->R' v w'):sU P f us w R':=by
 rcases h with ⟨v,w',h1,h2⟩|⟨h1,h2⟩
 · exact .inl ⟨v,w',h1,hr _ _ h2⟩
 exact .inr ⟨h1,h2.mono fun e w' ⟨v,he,hv⟩=>⟨v,he,hr _ _ hv⟩⟩
def BJ (P : Program) (rec : Task -> Option Out) : Prop :=
  ∀ (f : FuncId) (args : List PV) (ax : cw) (fz : List Nat) (v : PV) (tX : cw) (HU : List Nat), rec (.func f args ax fz) = afa (.func v tX HU) ->
    ∀ (im : Im) (loc : Loc) (w : World) (us : List Value), SR im loc ax fz w -> eI im loc args us ->
      sU P f ⟨us⟩ w fun u w' => ∃ dX bj, tV im loc ax w v tX HU dX bj w' u
def HV (P : Program) (f : FuncId) (p : List PV -> Option (PV × cw)) : Prop :=
  ∀ (args : List PV) (v : PV) (news : cw), p args = afa (v, news) -> ∀ (im : Im) (w : World) (us : List Value), SR im fX [] [] w -> eI im fX args us ->
    sU P f ⟨us⟩ w fun u w' => ∃ dX bj, tV im fX [] w v news [] dX bj w' u
def AA (P : Program) (f : FuncId) (p : List PV -> cw -> List Nat -> Option (PV × cw × List Nat)) : Prop :=
  ∃ fn c, P.funcs[f]? = afa fn /\ (fn.name == "runtime.NumGoroutine") = afd /\ fn.body = afa c /\
    ∀ (args : List PV) (ax : cw) (fz : List Nat) (v : PV) (tX : cw) (HU : List Nat), p args ax fz = afa (v, tX, HU) ->
      ∀ (im : Im) (loc : Loc) (w : World) (us : List Value), SR im loc ax fz w -> eI im loc args us ->
        sU P f ⟨us⟩ w fun u w' => ∃ dX bj, tV im loc ax w v tX HU dX bj w' u
def yd (P:Program) (F:lM):Prop:=(∀f k p,F f=afa (.jD k p)->k=afd/\HV P f p)/\ ∀f p,F f=afa (.FW p)->AA P f p
section
variable {P : Program} {F : lM} {rec : Task -> Option Out} {im : Im} {loc : Loc} {ax : cw} {w : World}
theorem SR.empty (h: ∀b o,im b=afa o->w.heap[b]? =afa o):SR im fX [] [] w where
 bB:=h
 c6:=fun t li h=>by cases h
 iq:=fun t u li lj k k' h=>by cases h
 free:=fun t li k h=>by cases h
theorem O2 {r:mT} {v:PV} {u:Value} {na:cw} {FX:List Nat} {im0 Dr:Im} {db:Loc} {w1:World} (hk:iR im loc ax w r) (hr:r.v=v) (hn:r.news=[]) (hw:r.wr=[]) (hno:v.jP=afc)
 (hp:tV im0 fX [] w v na FX Dr db w1 u): ∃dX bj,VR dX bj r.v u/\rT im loc ax w r dX bj w1:=by
 refine ⟨im,loc,by rw [hr];exact JH hno hp.vr,?_⟩;have qG: ∀b,b<w.heap.size->w1.heap[b]? =w.heap[b]?:=fun b hb=>hp.frame b hb fun t li k h=>by cases h
 exact {
  gn:= .refl _,dI:= .refl _
  bB:=fun b o h=>by have h1:=hk.bB b o h;have dz:b<w.heap.size:=(UV.1 h1).1;rw [qG b dz];exact h1
  dM:=fun _ _ h=> .inl h
  os:=hp.os,tape:=hp.tape,output:=hp.output,size:=hp.size
  frame:=fun b hb _=>qG b hb
  OP:=fun t k h=>by rw [hw] at h;cases h
  wr:=fun t k li h=>by rw [hw] at h;cases h
  ky:=fun _ _ h=> .inl h
  news:=fun j k li h=>by rw [hn] at h;simp at h
  distinct:=fun i j ki kj li lj h=>by rw [hn] at h;simp at h}
theorem QS {r:mT} {v v':PV} {u:Value} {na:cw} {FX tk:List Nat} {Dr:Im} {db:Loc} {w1:World} (hr:r.v=v') (hn:r.news=[]) (hw:r.wr=[]) (hf:r.fr=tk)
 (hp:tV (grow im w (zz loc ax tk)) fX [] w v na FX Dr db w1 u) (hi:x5 na v=afa v'): ∃dX bj,VR dX bj r.v u/\rT im loc ax w r dX bj w1:=by
 have qG: ∀b,b<w.heap.size->w1.heap[b]? =w.heap[b]?:=fun b hb=>hp.frame b hb fun t li k h=>by cases h
 let Ds:Im:=fun b=>match Dr b with
  |some o=>afa o
  |none=>if (zz db na (iH rJ v)).contains b&&aaB w.heap.size b then w1.heap[b]? else afb
 have kI:mY Dr Ds:=fun b o h=>by simp only [Ds,h]
 have zo: ∀b o,Ds b=afa o->w1.heap[b]? =afa o:=by
  intro b o h;simp only [Ds] at h;split at h
  · rename_i o' ho;injection h with h;subst h;exact hp.sr.bB b _ ho
  split at h
  · exact h
  cases h
 have aff: ∀t,t∈iH rJ v->Over Dr Ds db na w1 t:=by
  intro t ht li hl;obtain ⟨k,gC,qH⟩:=hp.sr.c6 t li hl;refine ⟨k,gC,qH,fun hs=>?_⟩;have TR:w.heap.size<=li.c6:=by
   rcases hp.own t li k hl gC hs with h|⟨u,lu,ku,h,_⟩
   · exact h
   cases h
  simp only [Ds];split
  · rename_i o ho;exact (hp.sr.bB _ _ ho).symm
  rw [rc]
  simp only [v6,ae6];exact ⟨by simpa using zA.2 ⟨t,li,k,ht,hl,gC,hs,rfl⟩,TR⟩
 refine ⟨Ds,loc,by rw [hr];exact QP kI aff hp.vr hi,?_⟩;exact {
  gn:=(HQ im w _).trans (hp.gn.trans kI),dI:= .refl _
  bB:=zo
  dM:=fun b o h=>by
   simp only [Ds] at h;split at h
   · rename_i o' ho
     injection h with h;subst h;rcases hp.dM b _ ho with h1|h1|⟨t,li,k,h1,_⟩
     · rcases QN h1 with h2|h2
       · exact .inl h2
       obtain ⟨t,li,k,ht,hl,tQ,hs,hb⟩:=zA.1 h2
       exact .inr (.inr ⟨t,li,k,by rw [hf];exact oK.2 ht,hl,tQ,hs,hb⟩)
     · exact .inr (.inl h1)
     cases h1
   split at h
   · rename_i hc
     simp only [v6,ae6] at hc;exact .inr (.inl hc.2)
   cases h
  os:=hp.os,tape:=hp.tape,output:=hp.output,size:=hp.size
  frame:=fun b hb _=>qG b hb
  OP:=fun t k h=>by rw [hw] at h;cases h
  wr:=fun t k li h=>by rw [hw] at h;cases h
  ky:=fun _ _ h=> .inl h
  news:=fun j k li h=>by rw [hn] at h;simp at h
  distinct:=fun i j ki kj li lj h=>by rw [hn] at h;simp at h}
theorem NB {r:mT} {v v':PV} {u:Value} {na:cw} {FX seen':List Nat} {im0 Dr:Im} {db:Loc} {w1:World} {news:cw} (hk:iR im loc ax w r) (hr:r.v=v') (hn:r.news=news) (hw:r.wr=[])
 (hp:tV im0 fX [] w v na FX Dr db w1 u) (hi:yO na FX (af6 ax) [] v=afa (v',news,seen')): ∃dX bj,VR dX bj r.v u/\rT im loc ax w r dX bj w1:=by
 have qG: ∀b,b<w.heap.size->w1.heap[b]? =w.heap[b]?:=fun b hb=>hp.frame b hb fun t li k h=>by cases h
 obtain ⟨JI,ts,h1,h2⟩:=QR (fun t li hl=>hp.sr.c6 t li hl) hp.vr hi
 let pR:Loc:=fun t=>if t<(af6 ax) then loc t else match JI[t-(af6 ax)]? with
  |some li=>afa li
  |none=>loc t
 have Au: ∀(j:Nat) (li:LI),JI[j]? =afa li->pR (af6 ax+j)=afa li:=by intro j li hj;simp only [pR];rw [ut (by omega),show (af6 ax)+j-(af6 ax)=j by omega,hj]
 have kI:lH loc pR:=by
  intro t li hl;simp only [pR];split
  · exact hl
  rename_i dz
  split
  · rename_i l2 Jt
    have hj:=(EQ.1 Jt).1;have:=hk.fresh (t-(af6 ax)) (by rw [hn,<- h1.HS];exact hj);rw [show (af6 ax)+(t-(af6 ax))=t by omega,hl] at this;cases this
  exact hl
 have hli: ∀(j:Nat) (k:jx),news[j]? =afa k-> ∃li,JI[j]? =afa li:=by intro j k hj;have:=(EQ.1 hj).1;exact ⟨_,ww (by rw [h1.HS];exact this)⟩
 have hts: ∀(j:Nat) (k:jx),news[j]? =afa k->k.bH=afc-> ∃t,ts[j]? =afa (afa t):=by
  intro j k hj hs;have dz:=(EQ.1 hj).1;cases hg:ts[j]? with
  |none=>have:=List.getElem?_eq_none_iff.1 hg;have:=h1.Jl;omega
  |some x=>
   cases x with
   |some t=>exact ⟨t,rfl⟩
   |none=>rw [h1.dum j k hj hg] at hs;cases hs
 refine ⟨im,pR,by rw [hr];exact h2 im pR Au,?_⟩;exact {
  gn:= .refl _,dI:=kI
  bB:=fun b o h=>by have h1:=hk.bB b o h;have dz:b<w.heap.size:=(UV.1 h1).1;rw [qG b dz];exact h1
  dM:=fun _ _ h=> .inl h
  os:=hp.os,tape:=hp.tape,output:=hp.output,size:=hp.size
  frame:=fun b hb _=>qG b hb
  OP:=fun t k h=>by rw [hw] at h;cases h
  wr:=fun t k li h=>by rw [hw] at h;cases h
  ky:=fun t li h=>by
   simp only [pR] at h;split at h
   · exact .inl h
   rename_i dz
   split at h
   · rename_i l2 Jt
     have hj:=(EQ.1 Jt).1;exact .inr ⟨by omega,by rw [hn,<- h1.HS];omega⟩
   exact .inl h
  news:=BB fun j k hj=>by
   rw [hn] at hj;obtain ⟨li,hl⟩:=hli j k hj;obtain ⟨⟨e,rows,rfl⟩,qH⟩:=h1.br j k li hj hl;refine ⟨li,Au j li hl,qH,fun hs=>?_⟩;obtain ⟨t,ht⟩:=hts j _ hj hs;obtain ⟨a1,a2,a3,_,_⟩:=h1.own j _ li t hj hl ht;have TR:w.heap.size<=li.c6:=by
    rcases hp.own t li _ a1 a2 hs with h|⟨u,lu,ku,h,_⟩
    · exact h
    cases h
   refine ⟨?_,.inl TR⟩;cases hb:im li.c6 with
   |none=>rfl
   |some o=>have:=(UV.1 (hk.bB _ _ hb)).1;omega
  distinct:=fun i j ki kj li lj tY hj' Uj O3 aiH aiI Qp=>by rw [hn] at tY hj';obtain ⟨l1,Gw⟩:=hli i ki tY;obtain ⟨l2,Jt⟩:=hli j kj hj';have e1:=Au i l1 Gw;have e2:=Au j l2 Jt;rw [aiH] at e1;rw [aiI] at e2;injection e1 with e1;injection e2 with e2;subst e1 e2;obtain ⟨t1,ht1⟩:=hts i ki tY Uj;obtain ⟨t2,ht2⟩:=hts j kj hj' O3;obtain ⟨a1,a2,_⟩:=h1.own i ki li t1 tY Gw ht1;obtain ⟨b1,b2,_⟩:=h1.own j kj lj t2 hj' Jt ht2;have:=hp.sr.iq t1 t2 li lj ki kj a1 b1 a2 b2 Uj O3 Qp;subst this;exact h1.inj i j t1 ht1 ht2}
theorem zB {own:Bool} {f:FuncId} {mB:List PV} {tk:List Nat} {r:mT}
 (h:(match rec (.func f mB [] []) with
  |some (.func v s1 z1)=>
   if own then match yO s1 z1 (af6 ax) [] v with
    |some (v',n2,_)=>afa {v:=v',news:=n2,rd:=tk}
    |none=>afb
   else if v.jP then afa {v,rd:=tk}
   else match x5 s1 v with
    |some v'=>afa {v:=v',rd:=tk,fr:=tk}
    |none=>afb
  |_=>afb)=afa r):r.rd=tk:=by
 split at h
 · split at h
   · split at h
     · injection h with h;subst h;rfl
     cases h
   split at h
   · injection h with h;subst h;rfl
   split at h
   · injection h with h;subst h;rfl
   cases h
 cases h
theorem w5 (DY:BJ P rec) {own:Bool} {f:FuncId} {mB:List PV} {tk:List Nat} {r:mT} {us:List Value}
 (h:(match rec (.func f mB [] []) with
  |some (.func v s1 z1)=>
   if own then match yO s1 z1 (af6 ax) [] v with
    |some (v',n2,_)=>afa {v:=v',news:=n2,rd:=tk}
    |none=>afb
   else if v.jP then afa {v,rd:=tk}
   else match x5 s1 v with
    |some v'=>afa {v:=v',rd:=tk,fr:=tk}
    |none=>afb
  |_=>afb)=afa r) (ha:eI (grow im w (zz loc ax tk)) fX mB us) (hk:iR im loc ax w r):
 sU P f ⟨us⟩ w fun u w'=> ∃dX bj,VR dX bj r.v u/\rT im loc ax w r dX bj w':=by
 cases hr:rec (.func f mB [] []) with
 |none=>rw [hr] at h;cases h
 |some o=>
  rw [hr] at h;cases o with
  |code e st=>cases h
  |func v s1 z1=>
   dsimp only at h;refine (DY f mB [] [] v s1 z1 hr _ fX w us (SR.empty (Ny hk.bB)) ha).mono fun u w' hq=>?_
   obtain ⟨Dr,db,hp⟩:=hq;split at h
   · cases Z9:yO s1 z1 (af6 ax) [] v with
     |none=>rw [Z9] at h;cases h
     |some q2=>obtain ⟨v',n2,s2⟩:=q2;rw [Z9] at h;simp only [AC] at h;subst h;exact NB hk rfl rfl rfl hp Z9
   split at h
   · rename_i hno
     simp only [AC] at h;subst h;exact O2 hk rfl rfl rfl hno hp
   cases hif:x5 s1 v with
   |none=>rw [hif] at h;cases h
   |some v'=>rw [hif] at h;simp only [AC] at h;subst h;exact QS rfl rfl rfl rfl hp hif
theorem HW (DY:BJ P rec) (AB:yd P F) {own:Bool} {f:FuncId} {args:List PV} {fz:List Nat} {r:mT} {us:List Value}
 (h:dh F rec own f args ax fz=afa r) (ha:eI im loc args us) (hk:iR im loc ax w r):
 sU P f ⟨us⟩ w fun u w'=> ∃dX bj,VR dX bj r.v u/\rT im loc ax w r dX bj w':=by
 have aiK: ∀(rd:List Nat),(∀b o,im b=afa o->w.heap[b]? =afa o)-> ∀b o,grow im w (zz loc ax rd) b=afa o->w.heap[b]? =afa o:=fun rd h=>Ny h
 have LL: ∀(mB:List PV),Bw ax (wN ax deep) args=afa mB->(∀t,t∈dm (c7 ax deep) args-> ∀li,loc t=afa li-> ∃k,ax[t]? =afa k/\BR im loc w li k)->(∀b o,im b=afa o->w.heap[b]? =afa o)->
  eI (grow im w (zz loc ax (dm (c7 ax deep) args))) fX mB us:=by
  intro mB hx aiL zo;refine w3 (w:=w) (HQ _ _ _) (fun t=>Nz (HQ _ _ _) deep t) (fun t ht li hl=>?_) ha hx;obtain ⟨k,gC,qH⟩:=aiL t ht li hl;exact ⟨k,gC,qH,fun hs=>Uh zo (zA.2 ⟨t,li,k,ht,hl,gC,hs,rfl⟩)⟩
 unfold dh at h;cases hx:Bw ax (wN ax deep) args with
 |none=>rw [hx] at h;cases h
 |some mB=>
  rw [hx] at h;dsimp only at h;cases hF:F f with
  |none=>rw [hF] at h;dsimp only at h;have F3:r.rd=dm (c7 ax deep) args:=zB h;exact w5 DY h (LL mB hx (fun t ht=>hk.tok t (.inl (by rw [F3];exact ht))) hk.bB) hk
  |some en=>
   rw [hF] at h;cases en with
   |jD Np p=>
    dsimp only at h;obtain ⟨rfl,hpo⟩:=AB.1 f Np p hF;cases QT:p mB with
    |none=>rw [QT] at h;cases h
    |some q=>
     obtain ⟨v,news⟩:=q;rw [QT] at h;dsimp only at h;cases Z9:yO news [] (af6 ax) [] v with
     |none=>rw [Z9] at h;cases h
     |some q2=>
      obtain ⟨v',n2,s2⟩:=q2;rw [Z9] at h;simp only [WF,if_false,AC] at h;subst h;refine (hpo mB v news QT _ w us (SR.empty (aiK _ hk.bB)) (LL mB hx (fun t ht=>hk.tok t (.inl ht)) hk.bB)).mono fun u w' hq=>?_
      obtain ⟨Dr,db,hp⟩:=hq;exact NB hk rfl rfl rfl hp Z9
   |code x=>dsimp only at h;have F3:r.rd=dm (c7 ax deep) args:=zB h;exact w5 DY h (LL mB hx (fun t ht=>hk.tok t (.inl (by rw [F3];exact ht))) hk.bB) hk
   |FW x=>dsimp only at h;have F3:r.rd=dm (c7 ax deep) args:=zB h;exact w5 DY h (LL mB hx (fun t ht=>hk.tok t (.inl (by rw [F3];exact ht))) hk.bB) hk
end
end Go.Vm
/- A call that works on the blocks that its arguments lead to, numbered anew: what it does to the memory. -/
namespace Go.Vm
theorem gp {α:Type} {l:List α} {i:Nat} {x:α} (h:l[i]? =afa x):i<(af6 l):=(EQ.1 h).1
theorem BK: ∀{l:List Nat} {t:Nat},t∈nT l↔t∈l
 | [],t=>by simp [nT]
 |a::r,t=>by
  rw [nT];split
  · rename_i h
    rw [BK];have:=oK.1 h;constructor
    · exact fun h=>by simp [h]
    intro h
    rcases ae7.1 h with h|h
    · subst h;exact this
    exact h
  simp [BK]
theorem rY: ∀{l:List Nat},(nT l).Nodup
 | []=>by simp [nT]
 |a::r=>by
  rw [nT];split
  · exact rY
  rename_i h
  rw [List.nodup_cons];exact ⟨fun hm=>h (oK.2 (BK.1 hm)),rY⟩
theorem D3: ∀{a b:cw},uM a b=afc-> ∀(i:Nat) (x:jx),a[i]? =afa x-> ∃y,b[i]? =afa y/\x.bH=y.bH
 | [],_,_,i,x,h=>by simp at h
 |c::r,d::q,hf,i,x,h=>by
  simp only [uM,v6] at hf;cases i with
  |zero=>simp at h;subst h;refine ⟨d,rfl,?_⟩;have:=hf.1;split at this<;>first|(rename_i h1 h2;rw [h1,h2])|cases this
  |succ i=>simpa using D3 hf.2 i x (by simpa using h)
 |_::_,[],hf,_,_,_=>by cases hf
theorem D4 {g:Nat->Nat}: ∀{tk:List Nat} {s:cw} {t:Nat} {k:jx},(t,k)∈nX g tk s↔ ∃(i:Nat) (b:jx),tk[i]? =afa t/\s[i]? =afa b/\k=yQ g b
 | [],s,t,k=>by simp [nX]
 |a::r,[],t,k=>by simp [nX]
 |a::r,b::s,t,k=>by
  simp only [nX,ae7,NE,D4];constructor
  · rintro (⟨rfl,rfl⟩|⟨i,c,h1,h2,h3⟩)
    · exact ⟨0,b,rfl,rfl,rfl⟩
    exact ⟨i+1,c,by simpa using h1,by simpa using h2,h3⟩
  rintro ⟨i,c,h1,h2,h3⟩
  cases i with
  |zero=>simp at h1 h2;subst h1;subst h2;exact .inl ⟨rfl,h3⟩
  |succ i=>exact .inr ⟨i,c,by simpa using h1,by simpa using h2,h3⟩
theorem Gz {g:Nat->Nat}: ∀(s:cw) (i:Nat),(Ao g s)[i]? =(s[i]?).map (yQ g)
 | [],i=>by simp [Ao]
 |b::r,0=>by simp [Ao]
 |b::r,i+1=>by simpa [Ao] using Gz r i
theorem AD {g:Nat->Nat}: ∀(s:cw),(Ao g s).length=af6 s
 | []=>rfl
 |b::r=>by simp [Ao,AD r]
section
variable {P : Program} {F : lM} {rec : Task -> Option Out} {im : Im} {loc : Loc} {ax : cw} {w : World} {tk : List Nat} {g : Nat -> Nat} {l1 l2 : Loc}
mutual
theorem VR.yS: ∀{x:PV} {v:Value},VR im l1 x v->(∀u,u∈iH rJ x-> ∀li,l1 u=afa li->l2 (g u)=afa li)->VR im l2 (Bx g x) v
 |_,_,.undef v,_=> .undef v
 |_,_,.jd,_=> .jd
 |_,_,.int k n,_=> .int k n
 |_,_,.bool b,_=> .bool b
 |_,_,.str s,_=> .str s
 |_,_,.agg cs vs h,hg=> .agg _ vs (eI.yS h (fun u hu=>hg u (by simpa [iH] using hu)))
 |_,_,.cy cs vs h,hg=> .cy _ vs (eI.yS h (fun u hu=>hg u (by simpa [iH] using hu)))
 |_,_,.sl esz pM rows a cap hc hk h,_=> .sl esz pM rows a cap hc hk h
 |_,_,.own t esz off len cap ex li a cP h1 h2 h3 h4 h5 h6 h7,hg=> .own _ esz off len cap ex li a cP (hg _ (by simp [iH]) _ h1) h2 h3 h4 h5 h6 h7
 |_,_,.ptr t esz row off li h1 h2 h3,hg=> .ptr _ esz row off li (hg _ (by simp [iH]) _ h1) h2 h3
 |_,_,.bD cs off b o vs h hv,hg=> .bD _ off b o vs (eI.yS h (fun u hu=>hg u (by simpa [iH] using hu))) hv
 |_,_,.mp t li h,hg=> .mp _ li (hg _ (by simp [iH]) _ h)
 |_,_,.ez fn a b as bs ha hb,hg=> .ez fn _ _ as bs (eI.yS ha (fun u hu=>hg u (by simp [iH,hu]))) (eI.yS hb (fun u hu=>hg u (by simp [iH,hu])))
 |_,_,.dH,_=> .dH
theorem eI.yS: ∀{x:List PV} {v:List Value},eI im l1 x v->(∀u,u∈dm rJ x-> ∀li,l1 u=afa li->l2 (g u)=afa li)->eI im l2 (vZ g x) v
 |_,_,.nil,_=> .nil
 |_,_,.cons x v xs vs h hs,hg=> .cons _ v _ vs (VR.yS h (fun u hu=>hg u (by simp [dm,hu]))) (eI.yS hs (fun u hu=>hg u (by simp [dm,hu])))
end
theorem VR.Bx {x:PV} {v:Value} (hg: ∀u,u∈iH rJ x-> ∀li,l1 u=afa li->l2 (g u)=afa li) (h:VR im l1 x v):VR im l2 (Vm.Bx g x) v:=h.yS hg
theorem eI.Bx {x:List PV} {v:List Value} (hg: ∀u,u∈dm rJ x-> ∀li,l1 u=afa li->l2 (g u)=afa li) (h:eI im l1 x v):eI im l2 (vZ g x) v:=h.yS hg
theorem AE: ∀(x:List PV),(vZ g x).length=af6 x
 | []=>rfl
 |x::xs=>by simp [vZ,AE xs]
theorem BR.Bx {li:LI} {k:jx} (hg: ∀u,u∈p6 k-> ∀li,l1 u=afa li->l2 (g u)=afa li) (h:BR im l1 w li k):BR im l2 w li (yQ g k):=by
 cases k with
 |arr e rows=>exact h
 |box cs=>obtain ⟨a1,a2,a3,vs,el,a4,a5,a6⟩:=h;exact ⟨by rw [AE];exact a1,a2,a3,vs,el,a4,a5,a6.Bx hg⟩
 |map es=>exact h
 |dead=>trivial
theorem w8 (k:jx):(yQ g k).bH=k.bH:=by cases k<;>rfl
theorem LS (DY:BJ P rec) {f:FuncId} {args:List PV} {fz:List Nat} {r:mT} {us:List Value}
 (h:sM rec f args ax fz=afa r) (ha:eI im loc args us) (hk:iR im loc ax w r):
 sU P f ⟨us⟩ w fun u w'=> ∃dX bj,VR dX bj r.v u/\rT im loc ax w r dX bj w':=by
 unfold sM at h;have FY:(nT (dm (c7 ax deep) args)).Nodup:=rY;generalize BH:nT (dm (c7 ax deep) args)=tk at h FY;split at h
 · cases h
 rename_i a s0 D5;unfold T5 at D5;split at D5
 case isFalse=>cases D5
 rename_i aiM;simp only [aaG,aah] at aiM;split at D5
 case h_2=>cases D5
 rename_i a' s0' hra Ub;simp only [AC,NE] at D5;obtain ⟨rfl,rfl⟩:=D5;split at h
 case h_2=>cases h
 rename_i v s hr;unfold DM at h;split at h
 case isFalse=>cases h
 rename_i QU;injection h with h;obtain ⟨I9,C7⟩:=By Ub;have hf0:=D3 QU;have kI:(af6 tk)<=(af6 s):=by
  rcases Nat.eq_zero_or_pos (af6 tk) with h0|h0
  · omega
  obtain ⟨y,hy,_⟩:=hf0 (af6 tk-1) (s0'[af6 tk-1]'(by omega)) (ww _)
  have:=gp hy;omega
 let LU:Loc:=fun u=>match tk[u]? with|some t=>loc t|none=>afb
 have D6:Ren tk loc LU:=fun u t hu=>by simp only [LU,hu]
 have hC: ∀u li,LU u=afa li-> ∃t,tk[u]? =afa t/\loc t=afa li:=by
  intro u li hl;simp only [LU] at hl;split at hl
  · rename_i t ht;exact ⟨t,ht,hl⟩
  cases hl
 have QV: ∀t k,(t,k)∈r.wr↔ ∃(i:Nat) (b:jx),tk[i]? =afa t/\s[i]? =afa b/\k=yQ (jE tk (af6 ax)) b:=fun t k=>by rw [<- h];exact D4
 have Z': ∀u t,tk[u]? =afa t->(t∈r.rd\/ ∃b,(t,b)∈r.wr):=fun u t ht=>by have:=gp ht;exact .inr ⟨_,(QV t _).2 ⟨u,_,ht,ww (by omega),rfl⟩⟩
 have sR: ∀(u t:Nat) (k:jx),tk[u]? =afa t->s0'[u]? =afa k-> ∃k0:jx,ax[t]? =afa k0/\k.bH=k0.bH:=fun u t k ht hs=>by obtain ⟨k0,k',g1,g2,g3⟩:=C7 u t ht;rw [hs] at g3;injection g3 with g3;subst g3;exact ⟨k0,g1,Aq g2⟩
 have hSR:SR im LU s0' [] w:={
  bB:=hk.bB
  c6:=fun u li hl=>by obtain ⟨t,h1,h2⟩:=hC u li hl;obtain ⟨k,gC,qH⟩:=hk.tok t (Z' u t h1) li h2;obtain ⟨k0,k',g1,g2,g3⟩:=C7 u t h1;rw [gC] at g1;injection g1 with g1;subst g1;exact ⟨k',g3,Gu D6 g2 qH⟩
  iq:=fun t u li lj k k' hl lL hs tR C8 aiO hb=>by
   obtain ⟨a1,h1,h2⟩:=hC t li hl;obtain ⟨a2,h3,h4⟩:=hC u lj lL;obtain ⟨k0,g1,g2⟩:=sR t a1 k h1 hs;obtain ⟨k0',g1',Ze⟩:=sR u a2 k' h3 tR;have:=hk.iq a1 a2 li lj k0 k0' (Z' t a1 h1) (Z' u a2 h3) h2 h4 g1 g1' (by rw [<- g2];exact C8) (by rw [<- Ze];exact aiO) hb;subst this;have pw:=aes.1 FY;obtain ⟨l1,e1⟩:=EQ.1 h1;obtain ⟨l2,e2⟩:=EQ.1 h3;rcases aal t u with h|h|h
   · exact absurd (e1.trans e2.symm) (pw t u l1 l2 h)
   · exact h
   exact absurd (e2.trans e1.symm) (pw u t l2 l1 h)
  free:=fun t li k hl hs C8 _=>by obtain ⟨a1,h1,h2⟩:=hC t li hl;obtain ⟨k0,g1,g2⟩:=sR t a1 k h1 hs;have dz:=gp h1;exact hk.free a1 _ ((QV a1 _).2 ⟨t,_,h1,ww (by omega),rfl⟩) li k0 h2 g1 (by rw [<- g2];exact C8)}
 refine (DY f a' s0' [] v s [] hr im LU w us hSR (rS D6 ha hra)).mono fun u w' ⟨dX,JJ,hf⟩=>?_
 let bj:Loc:=fun t=>match loc t with
  |some li=>afa li
  |none=>if (af6 ax)<=t/\t-(af6 ax)<(af6 r.news) then JJ (t-(af6 ax)+af6 tk) else afb
 have afl:lH loc bj:=fun t li hl=>by simp only [bj,hl]
 have F5:(gW (af6 tk) v s=afc/\r.news=[])\/(gW (af6 tk) v s=afd/\r.news=Ao (jE tk (af6 ax)) (s.drop (af6 tk))):=by
  rw [<- h];cases OZ:gW (af6 tk) v s with
  |true=>exact .inl ⟨rfl,by simp⟩
  |false=>exact .inr ⟨rfl,by simp⟩
 have afm:gW (af6 tk) v s=afd->af6 r.news=af6 s-(af6 tk):=fun h1=>by
  rcases F5 with ⟨h2,_⟩|⟨_,h2⟩
  · rw [h1] at h2;cases h2
  rw [h2];simp [AD]
 have aiP: ∀u li,JJ u=afa li->u<(af6 s):=fun u li hl=>let ⟨k,gC,_⟩:=hf.sr.c6 u li hl;gp gC
 have QW: ∀j li,bj (af6 ax+j)=afa li->j<af6 r.news->JJ (af6 tk+j)=afa li:=fun j li hl hj=>by simp only [bj,hk.fresh j hj] at hl;rw [rc ⟨by omega,by omega⟩] at hl;rw [show (af6 ax)+j-(af6 ax)+af6 tk=af6 tk+j by omega] at hl;exact hl
 have hg: ∀u,(u<af6 tk\/gW (af6 tk) v s=afd)-> ∀li,JJ u=afa li->bj (jE tk (af6 ax) u)=afa li:=by
  intro u Uk li hl;unfold jE;split
  · rename_i t ht
    rcases hf.mP u li hl with h1|h1
    · obtain ⟨t',h2,h3⟩:=hC u li h1
      rw [ht] at h2;injection h2 with h2;subst h2;exact afl _ _ h3
    have:=gp ht;omega
  rename_i hn
  have hu:(af6 tk)<=u:=by simpa using hn
  rcases Uk with Uk|Uk
  · omega
  have dz:=aiP u li hl;have F5:=afm Uk;simp only [bj,hk.fresh (u-(af6 tk)) (by omega)];rw [rc ⟨by omega,by omega⟩,show (af6 ax)+(u-(af6 tk)) -(af6 ax)+af6 tk=u by omega];exact hl
 have OZ: ∀u,gW (af6 tk) v s=afc->(u∈iH rJ v\/ ∃i b,i<af6 tk/\s[i]? =afa b/\u∈p6 b)->u<(af6 tk):=fun u h1 h2=>by
  unfold gW at h1;have h3:=aaG.1 h1 u (by
   rcases h2 with h2|⟨i,b,g1,g2,g3⟩
   · simp [h2]
   refine aax.2 (.inr (List.mem_flatMap.2 ⟨b,?_,g3⟩))
   exact List.mem_of_getElem? (i:=i) (by rw [List.getElem?_take];simp [g1,g2]))
  simpa using h3
 have Zi: ∀u,u∈iH rJ v-> ∀li,JJ u=afa li->bj (jE tk (af6 ax) u)=afa li:=fun u hu=>hg u (by
  cases hq:gW (af6 tk) v s with
  |true=>exact .inl (OZ u hq (.inl hu))
  |false=>exact .inr rfl)
 have hgb: ∀i b,i<af6 tk->s[i]? =afa b-> ∀u,u∈p6 b-> ∀li,JJ u=afa li->bj (jE tk (af6 ax) u)=afa li:=fun i b hi hb u hu=>hg u (by
  cases hq:gW (af6 tk) v s with
  |true=>exact .inl (OZ u hq (.inr ⟨i,b,hi,hb,hu⟩))
  |false=>exact .inr rfl)
 have hMC: ∀u t li,tk[u]? =afa t->loc t=afa li->JJ u=afa li:=fun u t li ht hl=>hf.dI u li (by simp only [LU,ht];exact hl)
 refine ⟨dX,bj,by rw [<- h];exact hf.vr.Bx Zi,?_⟩;have QX: ∀(j:Nat) (k:jx),r.news[j]? =afa k-> ∃b,s[af6 tk+j]? =afa b/\k=yQ (jE tk (af6 ax)) b:=fun j k hj=>by
  rcases F5 with ⟨_,h0⟩|⟨_,h0⟩
  · rw [h0] at hj;simp at hj
  rw [h0] at hj;simp only [Gz,List.getElem?_drop,IR] at hj;obtain ⟨b,h1,h2⟩:=hj;exact ⟨b,h1,h2.symm⟩
 have Ul: ∀t li,JJ t=afa li->af6 tk<=t-> ∀k,s[t]? =afa k->k.bH=afc->w.heap.size<=li.c6:=by
  intro t li hl ht k hs C8;rcases hf.own t li k hl hs C8 with h1|⟨u,lu,ku,h1,h2,h3,h4⟩
  · exact h1
  exfalso
  obtain ⟨a1,g1,g2⟩:=hC u lu h1;obtain ⟨y,y1,y2⟩:=hf0 u ku h2;have:=hf.sr.iq u t lu li y k (hMC u a1 lu g1 g2) hl y1 hs (by rw [<- y2];exact h3) C8 h4;subst this;have:=gp g1;omega
 exact {
  gn:=hf.gn,dI:=afl
  bB:=hf.sr.bB
  dM:=fun b o hb=>by
   rcases hf.dM b o hb with h1|h1|⟨t,li,k,h1,h2,h3,h4⟩
   · exact .inl h1
   · exact .inr (.inl h1)
   exfalso
   obtain ⟨a1,g1,g2⟩:=hC t li h1;obtain ⟨y,y1,y2⟩:=hf0 t k h2;have:=hf.sr.free t li y (hMC t a1 li g1 g2) y1 (by rw [<- y2];exact h3) rfl;rw [h4,hb] at this;cases this
  os:=hf.os,tape:=hf.tape,output:=hf.output,size:=hf.size
  frame:=fun b hb hh=>hf.frame b hb fun t li k hl hs C8=>by obtain ⟨a1,g1,g2⟩:=hC t li hl;obtain ⟨k0,e1,e2⟩:=sR t a1 k g1 hs;have dz:=gp g1;exact hh a1 _ li k0 ((QV a1 _).2 ⟨t,_,g1,ww (by omega),rfl⟩) g2 e1 (by rw [<- e2];exact C8)
  OP:=fun t k hm C8=>by obtain ⟨i,b,g1,g2,rfl⟩:=(QV t k).1 hm;rw [w8] at C8;have dz:=gp g1;have e:=ww (l:=s0') (i:=i) (by omega);obtain ⟨y,y1,y2⟩:=hf0 i _ e;rw [g2] at y1;injection y1 with y1;subst y1;obtain ⟨k0,e1,e2⟩:=sR i t _ g1 e;exact ⟨k0,e1,by rw [<- e2,y2];exact C8⟩
  wr:=fun t k li hm hl=>by obtain ⟨i,b,g1,g2,rfl⟩:=(QV t k).1 hm;obtain ⟨k',gC,qH⟩:=hf.sr.c6 i li (hMC i t li g1 hl);rw [g2] at gC;injection gC with gC;subst gC;exact qH.Bx (hgb i b (gp g1) g2)
  ky:=fun t li hl=>by
   simp only [bj] at hl;cases I9:loc t with
   |some lj=>rw [I9] at hl;exact .inl hl
   |none=>
    rw [I9] at hl;dsimp only at hl;split at hl
    · rename_i hn
      exact .inr ⟨hn.1,by omega⟩
    cases hl
  news:=fun j k li hj hl=>by
   have LH:j<(af6 r.news):=gp hj;obtain ⟨b,hb,rfl⟩:=QX j k hj;have I9:=QW j li hl LH;obtain ⟨k',gC,qH⟩:=hf.sr.c6 _ li I9;rw [hb] at gC;injection gC with gC;subst gC;have hq:gW (af6 tk) v s=afd:=by
    rcases F5 with ⟨_,h0⟩|⟨h0,_⟩
    · rw [h0] at LH;simp at LH
    exact h0
   refine ⟨qH.Bx (fun u _=>hg u (.inr hq)),fun C8=>?_⟩;rw [w8] at C8;exact ⟨hf.sr.free _ li b I9 hb C8 rfl,.inl (Ul _ li I9 (by omega) b hb C8)⟩
  distinct:=fun i j ki kj li lj hi hj Uj O3 hli hlj hb=>by obtain ⟨b1,e1,rfl⟩:=QX i ki hi;obtain ⟨b2,e2,rfl⟩:=QX j kj hj;rw [w8] at Uj O3;have h1:=QW i li hli (gp hi);have h2:=QW j lj hlj (gp hj);have:=hf.sr.iq _ _ li lj b1 b2 h1 h2 e1 e2 Uj O3 hb;omega}
end
end Go.Vm
/- A region's run in the order of the text, step by step; what a block holds when afa of its operations are done. -/
namespace Go.Vm
structure w9 (F:lM) (rec:Task->Option Out) (ops:List bM) (S:Nat->St) (X:Nat->Option XR):Prop where
 steps: ∀(i:Nat) (o:bM),ops[i]? =afa o->
  (wanted o.guard (S i).env=afa afc/\ ∃x,v7 F rec (S i).env (S i).ax (S i).fz o.op=afa x/\x.ok (S i).fz=afc/\X i=afa x/\S (i+1)=x.next o.dst (S i))\/
  (wanted o.guard (S i).env=afa afd/\X i=afb/\S (i+1)={S i with env:=ik o.dst .jd (S i).env})
def yN (x:Option XR) (s:St):Tr:=
 match x with
 |some x=>x.tr (af6 s.ax)
 |none=>Tr.idle
def yT (S:Nat->St) (X:Nat->Option XR) (n:Nat):List Tr:=(List.range n).map fun i=>yN (X i) (S i)
theorem LV (S:Nat->St) (X:Nat->Option XR) (n:Nat):yT S X (n+1)=yN (X 0) (S 0)::yT (fun i=>S (i+1)) (fun i=>X (i+1)) n:=by unfold yT;rw [List.range_succ_eq_map];simp [List.map_map,Function.comp_def]
theorem BL {F:lM} {rec:Task->Option Out}: ∀(ops:List bM) (st:St) (tr:List Tr) (j7:St) (O4:List Tr),lN F rec ops st tr=afa (j7,O4)->
 ∃S X,S 0=st/\S (af6 ops)=j7/\w9 F rec ops S X/\O4=(yT S X (af6 ops)).reverse++tr
 | [],st,tr,j7,O4,h=>by simp only [lN,AC,NE] at h;obtain ⟨rfl,rfl⟩:=h;exact ⟨fun _=>st,fun _=>afb,rfl,rfl,⟨fun i o h=>by simp at h⟩,by simp [yT]⟩
 |o::l,st,tr,j7,O4,h=>by
  simp only [lN] at h;have mk: ∀(s1:St) (x:Option XR) (t1:Tr),yN x st=t1->lN F rec l s1 (t1::tr)=afa (j7,O4)->
   ((wanted o.guard st.env=afa afc/\ ∃y,v7 F rec st.env st.ax st.fz o.op=afa y/\y.ok st.fz=afc/\x=afa y/\s1=y.next o.dst st)\/
    (wanted o.guard st.env=afa afd/\x=afb/\s1={st with env:=ik o.dst .jd st.env}))->
   ∃S X,S 0=st/\S (o::l).length=j7/\w9 F rec (o::l) S X/\O4=(yT S X (o::l).length).reverse++tr:=by
   intro s1 x t1 ht he hs;obtain ⟨S,X,h0,hn,bT,htr⟩:=BL l s1 (t1::tr) j7 O4 he;refine ⟨fun i=>match i with|0=>st|i+1=>S i,fun i=>match i with|0=>x|i+1=>X i,rfl,hn,⟨fun i o' ho=>?_⟩,?_⟩
   · cases i with
     |zero=>
      simp at ho;subst ho;rcases hs with ⟨a,y,b,c,d,e⟩|⟨a,b,c⟩
      · exact .inl ⟨a,y,b,c,d,by rw [<- e];exact h0⟩
      exact .inr ⟨a,b,by rw [<- c];exact h0⟩
     |succ i=>exact bT.steps i o' (by simpa using ho)
   rw [List.length_cons,LV,htr]
   simp [ht]
  cases hw:wanted o.guard st.env with
  |none=>rw [hw] at h;cases h
  |some b=>
   rw [hw] at h;cases b with
   |false=>exact mk _ afb _ rfl h (.inr ⟨hw,rfl,rfl⟩)
   |true=>
    dsimp only at h;cases hx:v7 F rec st.env st.ax st.fz o.op with
    |none=>rw [hx] at h;cases h
    |some x=>
     rw [hx] at h;dsimp only at h;split at h
     · rename_i zo
       exact mk _ (afa x) _ rfl h (.inl ⟨hw,x,hx,zo,rfl,rfl⟩)
     cases h
theorem fA: ∀(wr:List (Nat×jx)) (s:cw),(fU wr s).length=af6 s
 | [],s=>rfl
 |(t,b)::r,s=>by rw [fU,fA r];simp
theorem sV: ∀(wr:List (Nat×jx)) (s:cw) (t:Nat),(∀k,(t,k)∉wr)->(fU wr s)[t]? =s[t]?
 | [],s,t,_=>rfl
 |(u,b)::r,s,t,h=>by
  rw [fU,sV r _ t (fun k hk=>h k (by simp [hk]))];have:u≠t:=fun e=>h b (by rw [e];simp)
  rw [aeD this]
theorem D7: ∀(wr:List (Nat×jx)) (s:cw),uN wr=afc-> ∀{t:Nat} {k:jx},(t,k)∈wr->t<af6 s->(fU wr s)[t]? =afa k
 |(u,b)::r,s,hn,t,k,hm,dz=>by
  simp only [uN,v6,aaG,aah] at hn;rw [fU];rcases ae7.1 hm with h|h
  · injection h with h1 h2
    subst h1 h2;rw [sV r _ t fun k' hk=>by simpa using hn.1 (t,k') hk];simp [dz]
  exact D7 r _ hn.2 h (by simpa using dz)
section
variable {F : lM} {rec : Task -> Option Out} {ops : List bM} {S : Nat -> St} {X : Nat -> Option XR}
def W (X:Nat->Option XR) (i t:Nat):Prop:=
 match X i with
 |some (.loc r)=> ∃k,(t,k)∈r.wr
 |some (.shr ..)=>True
 |none=>False
def FR (X:Nat->Option XR) (i t:Nat):Prop:=
 match X i with
 |some (.loc r)=>t∈r.fr
 |some (.shr _ _ z)=>t∈z
 |none=>False
def AF (S:Nat->St) (X:Nat->Option XR) (n:Nat) (done:Nat->Prop) (t:Nat) (k:jx):Prop:=
 ∃m,m<=n/\(∀i,i<n->W X i t->(done i↔i<m))/\(∀c,c<n->(S c).ax.length<=t->t<(S (c+1)).ax.length->c<m)/\(S m).ax[t]? =afa k
theorem NC {e:Env} {ax:cw} {fz:List Nat} {op:kv} {v:PV} {s:cw} {z:List Nat} (h:v7 F rec e ax fz op=afa (.shr v s z)):(af6 ax)<=af6 s/\ ∀t,t∈fz->t∈z:=by
 have key: ∀{f:FuncId} {args:List PV},fK rec f args ax fz=afa (.shr v s z)->af6 ax<=af6 s/\ ∀t,t∈fz->t∈z:=by
  intro f args h;unfold fK at h;split at h
  · split at h
    · rename_i hc
      simp only [v6,ae6,aaG] at hc;simp only [AC,XR.shr.injEq] at h;obtain ⟨rfl,rfl,rfl⟩:=h;exact ⟨hc.1,fun t ht=>oK.1 (hc.2 t ht)⟩
    cases h
  cases h
 cases op with
 |call m f args=>
  cases m with
  |TO=>simp [v7] at h
  |own=>simp [v7] at h
  |shr=>exact key h
  |fp=>simp [v7] at h
 |vY x args=>
  simp only [v7] at h;split at h
  · split at h
    · exact key h
    simp at h
  cases h
 |_=>simp [v7] at h
theorem w9.aaa (hr:w9 F rec ops S X) {i:Nat} (hi:i<af6 ops):(S i).ax.length<=(S (i+1)).ax.length:=by
 rcases hr.steps i _ (ww hi) with ⟨_,x,hx,_,_,hn⟩|⟨_,_,hn⟩
 · rw [hn]
   cases x with
   |loc r=>simp [XR.next,p9,fA]
   |shr v s z=>exact (NC hx).1
 rw [hn];exact M2 _
theorem w9.gY (hr : w9 F rec ops S X) {i j : Nat} (kL : i <= j) (hj : j <= (af6 ops)) : (S i).ax.length <= (S j).ax.length := by
  induction j with
  | zero => have : i = 0 := by omega
            subst this; exact M2 _
  | succ j ih =>
    rcases ac0 kL with h | h
    · subst h; exact M2 _
    exact aav (ih (by omega) (by omega)) (hr.aaa (by omega))
theorem w9.same (hr:w9 F rec ops S X) {i t:Nat} (hi:i<af6 ops) (hw: ¬W X i t) (ht:t<(S i).ax.length):(S (i+1)).ax[t]? =(S i).ax[t]?:=by
 rcases hr.steps i _ (ww hi) with ⟨_,x,hx,_,hX,hn⟩|⟨_,_,hn⟩
 · rw [hn]
   cases x with
   |loc r=>simp only [XR.next,p9];rw [If (by rw [fA];exact ht)];exact sV _ _ _ fun k hk=>hw (by unfold W;rw [hX];exact ⟨k,hk⟩)
   |shr v s z=>exact absurd (by unfold W;rw [hX];trivial) hw
 rw [hn]
theorem w9.ye (hr : w9 F rec ops S X) {m m' t : Nat} (hm : m <= m') (BM : m' <= (af6 ops)) (hw : ∀ i, m <= i -> i < m' -> ¬ W X i t) (ht : t < (S m).ax.length) : (S m').ax[t]? = (S m).ax[t]? := by
  induction m' with
  | zero => have : m = 0 := by omega
            subst this; rfl
  | succ j ih =>
    rcases ac0 hm with h | h
    · subst h; rfl
    rw [hr.same (by omega) (hw j (by omega) (by omega)) (ad8 ht (hr.gY (by omega) (by omega)))]
    exact ih (by omega) (by omega) fun i h1 h2 => hw i h1 (by omega)
theorem cD {α:Type} {l:List α} {i:Nat} {x:α} (h:l[i]? =afa x):i<(af6 l):=(EQ.1 h).1
theorem AF.unique (hr:w9 F rec ops S X) {done:Nat->Prop} {t:Nat} {k k':jx} (h:AF S X (af6 ops) done t k) (h':AF S X (af6 ops) done t k'):k=k':=by
 obtain ⟨m,hm,hw,hc,hs⟩:=h;obtain ⟨m',BM,Zj,BE,tR⟩:=h';rcases aeN m m' with h|h
 · have:=hr.ye h BM (fun i h1 h2 hW=>by
    have a:=hw i (by omega) hW;have b:=Zj i (by omega) hW;have:=a.1 (b.2 h2);omega) (cD hs)
   rw [hs,tR] at this;exact (aeA this).symm
 have:=hr.ye h hm (fun i h1 h2 hW=>by
  have a:=hw i (by omega) hW;have b:=Zj i (by omega) hW;have:=b.1 (a.2 h2);omega) (cD tR)
 rw [hs,tR] at this;exact aeA this
theorem w9.QY (hr:w9 F rec ops S X) {i t:Nat} (hi:i<af6 ops) (hd:(ops[i]).dst≠afa t):lk t (S (i+1)).env=lk t (S i).env:=by
 have key: ∀(d:Option Nat) (v:PV) (e:Env),d≠afa t->lk t (ik d v e)=lk t e:=by
  intro d v e h;cases d with
  |none=>rfl
  |some s=>simp only [ik];rw [qd,ut (fun e=>h (by rw [e]))]
 rcases hr.steps i _ (ww hi) with ⟨_,x,hx,_,hX,hn⟩|⟨_,_,hn⟩
 · rw [hn]
   cases x with
   |loc r=>exact key _ _ _ hd
   |shr v s z=>exact key _ _ _ hd
 rw [hn];exact key _ _ _ hd
theorem w9.LW (hr : w9 F rec ops S X) {m m' t : Nat} (hm : m <= m') (BM : m' <= (af6 ops)) (hd : ∀ i (hi : i < (af6 ops)), m <= i -> i < m' -> (ops[i]).dst ≠ afa t) : lk t (S m').env = lk t (S m).env := by
  induction m' with
  | zero => have : m = 0 := by omega
            subst this; rfl
  | succ j ih =>
    rcases ac0 hm with h | h
    · subst h; rfl
    rw [hr.QY (by omega) (hd j (by omega) (by omega) (by omega))]
    exact ih (by omega) (by omega) fun i hi h1 h2 => hd i hi h1 (by omega)
end
end Go.Vm
/- A region: what holds while afa of its operations are done, and that one more keeps it. -/
namespace Go.Vm
def aD (x:bM):List Nat:=(x.op.fa.filterMap fun| .t n=>afa n| .c _=>afb)++(match x.guard with|some (s,_)=>[s]|none=>[])
def tZ (ops:Array Oper):Option (Nat×Bool)->Option (Nat×Bool)->Bool
 |none,afb=>afc
 |some (s,b),afa (j,c)=>b==c&&((ops[j]?).bind (·.dst))==afa s
 |_,_=>afd
def qf (P:Program) (prims:FuncId->Bool) (nt:Nat) (ops:Array Oper) (x:bM) (o:Oper):Bool:=
 x.dst==o.dst&&(match x.dst with|some d=>ae8 d nt|none=>afc)&&tZ ops x.guard o.guard&&wa P prims o.type x.op o.op
def p5 (X:Nat->Option XR) (i:Nat):Prop:= ∃v s z,X i=afa (.shr v s z)
def gD (X:Nat->Option XR) (i:Nat):Prop:=
 match X i with
 |some (.loc r)=>r.rd≠[]\/r.fr≠[]\/r.wr≠[]\/r.news≠[]
 |some (.shr ..)=>True
 |none=>False
def A (X:Nat->Option XR) (i t:Nat):Prop:=
 match X i with
 |some (.loc r)=>t∈r.rd\/t∈r.fr
 |_=>False
structure Ord (ops:List bM) (S:Nat->St) (X:Nat->Option XR) (wD:Nat->Nat->Prop):Prop where
 D8: ∀(i j t:Nat) (x y:bM),i<j->ops[i]? =afa x->ops[j]? =afa y->x.dst=afa t->(t∈aD y\/y.dst=afa t)->wD i j
 QZ: ∀(i j t:Nat) (x y:bM),i<j->ops[i]? =afa x->ops[j]? =afa y->y.dst=afa t->t∈aD x->wD i j
 LX: ∀i j t,i<j->j<af6 ops->W X i t->(A X j t\/W X j t)->wD i j
 aab: ∀i j t,i<j->j<af6 ops->A X i t->W X j t->wD i j
 aac: ∀i j t,i<j->j<af6 ops-> ¬p5 X i->(S i).ax.length<=t->t<(S (i+1)).ax.length-> ¬p5 X j->W X j t->wD i j
 Jj: ∀i j,i<j->j<af6 ops->(p5 X i/\gD X j\/gD X i/\p5 X j)->wD i j
 cl: ∀i t,i<af6 ops-> ¬p5 X i->(A X i t\/W X i t)->t<(S i).ax.length\/ ∀c,i<c->c<af6 ops->wD i c
structure Inv (ops:List bM) (S:Nat->St) (X:Nat->Option XR) (im0:Im) (loc0:Loc) (w0:World) (nt:Nat) (done:Nat->Prop) (im:Im) (loc:Loc) (a:Act) (w:World):Prop where
 tm: ∀t,∃m,m<=af6 ops/\(∀i x,ops[i]? =afa x->x.dst=afa t->(done i↔i<m))/\VR im loc (lk t (S m).env) (a.tmps.getD t Go.undef)
 bB: ∀b o,im b=afa o->w.heap[b]? =afa o
 tok: ∀t li,loc t=afa li-> ∃k,AF S X (af6 ops) done t k/\BR im loc w li k
 iq: ∀t u li lj k k',loc t=afa li->loc u=afa lj->AF S X (af6 ops) done t k->AF S X (af6 ops) done u k'->k.bH=afc->k'.bH=afc->li.c6=lj.c6->t=u
 free: ∀t li k,loc t=afa li->AF S X (af6 ops) done t k->k.bH=afc->t∉(S 0).fz->(∀i,i<af6 ops->done i-> ¬FR X i t)->im li.c6=afb
 fresh: ∀i,i<af6 ops-> ¬done i-> ∀t,(S i).ax.length<=t->t<(S (i+1)).ax.length->loc t=afb
 gn:mY im0 im
 dI:lH loc0 loc
 os:w.os=w0.os
 tape:Tape w0 w
 output:w.output=w0.output
 size:w0.heap.size<=w.heap.size
 frame: ∀b,b<w0.heap.size->(∀t li k,loc0 t=afa li->(S 0).ax[t]? =afa k->k.bH=afc->li.c6≠b)->w.heap[b]? =w0.heap[b]?
 dM: ∀b o,im b=afa o->im0 b=afa o\/w0.heap.size<=b\/ ∃t li k,loc0 t=afa li/\(S 0).ax[t]? =afa k/\k.bH=afc/\li.c6=b
 mP: ∀t li,loc t=afa li->loc0 t=afa li\/(S 0).ax.length<=t
 own: ∀t li k,loc t=afa li->AF S X (af6 ops) done t k->k.bH=afc->(w0.heap.size<=li.c6\/ ∃u lu ku,loc0 u=afa lu/\(S 0).ax[u]? =afa ku/\ku.bH=afc/\lu.c6=li.c6)
 defers:a.defers=[]
 Lw:a.tmps.size=nt
def plus (done:Nat->Prop) (i:Nat):Nat->Prop:=fun j=>done j\/j=i
section
variable {F : lM} {rec : Task -> Option Out} {ops : List bM} {S : Nat -> St} {X : Nat -> Option XR} {wD : Nat -> Nat -> Prop} {im0 : Im} {loc0 : Loc} {w0 : World} {nt : Nat}
  {done : Nat -> Prop} {im : Im} {loc : Loc} {a : Act} {w : World} {i : Nat}
structure Place (ops:List bM) (wD:Nat->Nat->Prop) (done:Nat->Prop) (i:Nat):Prop where
 lt:i<af6 ops
 nd: ¬done i
 pre: ∀j,j<af6 ops->wD j i->done j
 ez: ∀k,k<af6 ops->done k-> ∀j,j<af6 ops->wD j k->done j
theorem Place.xa (hp:Place ops wD done i) {k:Nat} (hk:k<af6 ops) (h:wD i k): ¬done k:=fun hd=>hp.nd (hp.ez k hk hd i hp.lt h)
theorem Inv.slot (hr:w9 F rec ops S X) (ho:Ord ops S X wD) (hv:Inv ops S X im0 loc0 w0 nt done im loc a w) (hp:Place ops wD done i) {x:bM} (hx:ops[i]? =afa x) {t:Nat} (ht:t∈aD x):
 VR im loc (lk t (S i).env) (a.tmps.getD t Go.undef):=by
 obtain ⟨m,hm,hd,nO⟩:=hv.tm t;have Z4: ∀j y,ops[j]? =afa y->y.dst=afa t->(done j↔j<i):=by
  intro j y hy ND;rcases aal j i with h|h|h
  · exact ⟨fun _=>h,fun _=>hp.pre j (cD hy) (ho.D8 j i t y x h hy hx ND (.inl ht))⟩
  · subst h;exact ⟨fun hd=>absurd hd hp.nd,fun h=>by omega⟩
  exact ⟨fun JK=>absurd JK (hp.xa (cD hy) (ho.QZ i j t x y h hx hy ND ht)),fun h'=>by omega⟩
 have same:lk t (S i).env=lk t (S m).env:=by
  rcases aeN m i with h|h
  · refine hr.LW h (aep hp.lt) fun j hj h1 h2 rM=>?_
    have a1:=hd j _ (ww hj) rM;have a2:=Z4 j _ (ww hj) rM;have:=a1.1 (a2.2 h2);omega
  refine (hr.LW h hm fun j hj h1 h2 rM=>?_).symm
  have a1:=hd j _ (ww hj) rM;have a2:=Z4 j _ (ww hj) rM;have:=a2.1 (a1.2 h2);omega
 rw [same];exact nO
theorem Inv.cur (hr:w9 F rec ops S X) (ho:Ord ops S X wD) (hv:Inv ops S X im0 loc0 w0 nt done im loc a w) (hp:Place ops wD done i) {t:Nat} {li:LI} (hl:loc t=afa li)
 (ht:(A X i t\/W X i t)) {k:jx} (hc:AF S X (af6 ops) done t k):(S i).ax[t]? =afa k:=by
 obtain ⟨m,hm,hw,hcr,hs⟩:=hc;have cO:t<(S i).ax.length:=by
  rcases aau t (S i).ax.length with h|h
  · exact h
  exfalso
  have hmi:i<m:=by
   rcases aau i m with h'|h'
   · exact h'
   have:=hr.gY h' (aep hp.lt);have:=cD hs;omega
  have: ∃c,i<=c/\c<m/\(S c).ax.length<=t/\t<(S (c+1)).ax.length:=by
   have hex: ∀d,i+d<=m->t<(S (i+d)).ax.length-> ∃c,i<=c/\c<i+d/\(S c).ax.length<=t/\t<(S (c+1)).ax.length:=by
    intro d
    induction d with
    |zero=>intro _ h2;exact absurd h2 (by simpa using h)
    |succ d ih=>
     intro h1 h2;rcases aau t (S (i+d)).ax.length with h3|h3
     · obtain ⟨c,c1,c2,c3,c4⟩:=ih (by omega) h3
       exact ⟨c,c1,by omega,c3,c4⟩
     exact ⟨i+d,by omega,by omega,h3,h2⟩
   obtain ⟨c,c1,c2,c3,c4⟩:=hex (m-i) (by omega) (by rw [show i+(m-i)=m by omega];exact cD hs);exact ⟨c,c1,by omega,c3,c4⟩
  obtain ⟨c,c1,c2,c3,c4⟩:=this;have hcn:c<(af6 ops):=by omega
  have aiS: ¬done c:=by
   intro hdc;rcases ac0 c1 with e|e
   · subst e;exact hp.nd hdc
   by_cases hsh:p5 X i
   · refine hp.xa hcn (ho.Jj i c e hcn (.inl ⟨hsh,?_⟩)) hdc
     rcases hr.steps c _ (ww hcn) with ⟨_,x,hx,_,hX,hn⟩|⟨_,_,hn⟩
     · unfold gD;rw [hX]
       cases x with
       |loc r=>refine .inr (.inr (.inr fun F8=>?_));rw [hn] at c4;simp [XR.next,p9,fA,F8] at c4;omega
       |shr v s z=>trivial
     rw [hn] at c4;simp at c4;omega
   rcases ho.cl i t hp.lt hsh ht with h'|h'
   · omega
   exact hp.xa hcn (h' c e hcn) hdc
  have:=hv.fresh c hcn aiS t c3 c4;rw [hl] at this;cases this
 have Z4: ∀j,j<af6 ops->W X j t->(done j↔j<i):=by
  intro j hj hW;rcases aal j i with h|h|h
  · exact ⟨fun _=>h,fun _=>hp.pre j hj (ho.LX j i t h hp.lt hW ht)⟩
  · subst h;exact ⟨fun hd=>absurd hd hp.nd,fun h=>by omega⟩
  refine ⟨fun JK=>absurd JK (hp.xa hj ?_),fun h'=>by omega⟩
  rcases ht with ht|ht
  · exact ho.aab i j t h hj ht hW
  exact ho.LX i j t h hj ht (.inr hW)
 rcases aeN m i with h|h
 · rw [hr.ye h (aep hp.lt) (fun j h1 h2 hW=>by
    have a1:=hw j (by have:=hp.lt;omega) hW;have a2:=Z4 j (by have:=hp.lt;omega) hW;have:=a1.1 (a2.2 h2);omega) (cD hs)]
   exact hs
 rw [<- hr.ye h hm (fun j h1 h2 hW=>by
  have a1:=hw j (by omega) hW;have a2:=Z4 j (by omega) hW;have:=a2.1 (a1.2 h2);omega) cO]
 exact hs
end
end Go.Vm
/- A region: one more operation keeps what holds. -/
namespace Go.Vm
theorem BR.afn {im dX:Im} {loc bj:Loc} {w w':World} {li:LI} {k:jx} (h:BR im loc w li k) (hi:mY im dX) (hl:lH loc bj)
 (hw:k.bH=afc->w'.heap[li.c6]? =w.heap[li.c6]?):BR dX bj w' li k:=by
 cases hs:k.bH with
 |true=>exact h.mono hi hl (hw hs)
 |false=>
  cases k with
  |arr e rows=>
   cases rows with
   |nil=>exact ⟨h.1,h.2.1,fun dK=>absurd rfl dK⟩
   |cons _ _=>cases hs
  |box _=>cases hs
  |map _=>cases hs
  |dead=>trivial
section
variable {F : lM} {rec : Task -> Option Out} {ops : List bM} {S : Nat -> St} {X : Nat -> Option XR} {wD : Nat -> Nat -> Prop} {im0 : Im} {loc0 : Loc} {w0 : World} {nt : Nat}
  {done : Nat -> Prop} {im : Im} {loc : Loc} {a : Act} {w : World} {i : Nat}
theorem w9.afo (hr:w9 F rec ops S X) {j:Nat} (hj:j<af6 ops): ∀t,t∈(S j).fz->t∈(S (j+1)).fz:=by
 intro t ht;rcases hr.steps j _ (ww hj) with ⟨_,x,hx,_,_,hn⟩|⟨_,_,hn⟩
 · rw [hn]
   cases x with
   |loc r=>simp only [XR.next];exact aeC _ ht
   |shr v s z=>exact (NC hx).2 t ht
 rw [hn];exact ht
theorem w9.Dt (hr : w9 F rec ops S X) {m m' : Nat} (h : m <= m') (hm : m' <= (af6 ops)) : ∀ t, t ∈ (S m).fz -> t ∈ (S m').fz := by
  induction m' with
  | zero => have : m = 0 := by omega
            subst this; exact fun _ h => h
  | succ j ih =>
    rcases ac0 h with e | e
    · subst e; exact fun _ h => h
    exact fun t ht => hr.afo (by omega) t (ih (by omega) (by omega) t ht)
theorem w9.Zk (hr:w9 F rec ops S X) {j:Nat} (hj:j<af6 ops) {t:Nat} (h:FR X j t):t∈(S (j+1)).fz:=by
 rcases hr.steps j _ (ww hj) with ⟨_,x,hx,_,hX,hn⟩|⟨_,hX,_⟩
 · rw [hn]
   unfold FR at h;rw [hX] at h;cases x with
   |loc r=>exact aeE _ h
   |shr v s z=>exact h
 unfold FR at h;rw [hX] at h;exact h.elim
theorem afp {j t:Nat} (h:FR X j t):A X j t\/W X j t:=by
 unfold FR at h;unfold A W;cases hX:X j with
 |none=>rw [hX] at h;exact h.elim
 |some x=>
  rw [hX] at h;cases x with
  |loc r=>exact .inl (.inr h)
  |shr v s z=>exact .inr trivial
theorem Inv.D9 (hr:w9 F rec ops S X) (ho:Ord ops S X wD) (hp:Place ops wD done i) {t:Nat} (hW:W X i t) (hz:t∉(S i).fz):
 t∉(S 0).fz/\ ∀j,j<af6 ops->done j-> ¬FR X j t:=by
 refine ⟨fun h=>hz (hr.Dt (aaS _) (aep hp.lt) t h),fun j hj hd hf=>?_⟩;rcases aal j i with h|h|h
 · exact hz (hr.Dt h (aep hp.lt) t (hr.Zk hj hf))
 · subst h;exact hp.nd hd
 exact hp.xa hj (ho.LX i j t h hj hW (afp hf)) hd
theorem Inv.known (hr:w9 F rec ops S X) (ho:Ord ops S X wD) (hv:Inv ops S X im0 loc0 w0 nt done im loc a w) (hp:Place ops wD done i) {r:mT} (hX:X i=afa (.loc r)) (zo:(XR.loc r).ok (S i).fz=afc)
 (hn:(S (i+1)).ax.length=(S i).ax.length+af6 r.news):iR im loc (S i).ax w r where
 bB:=hv.bB
 tok:=fun t ht li hl=>by
  obtain ⟨k,hc,qH⟩:=hv.tok t li hl;refine ⟨k,hv.cur hr ho hp hl ?_ hc,qH⟩;rcases ht with ht|ht
  · exact .inl (by unfold A;rw [hX];exact .inl ht)
  exact .inr (by unfold W;rw [hX];exact ht)
 free:=fun t k hm li k' hl hs lr=>by
  have hW:W X i t:=by unfold W;rw [hX];exact ⟨k,hm⟩
  simp only [XR.ok,v6,aaG,aah] at zo;have hz:t∉(S i).fz:=jh.1 (zo.1 (t,k) hm);obtain ⟨h0,h1⟩:=Inv.D9 hr ho hp hW hz;obtain ⟨k2,hc,_⟩:=hv.tok t li hl;have:=hv.cur hr ho hp hl (.inr hW) hc;rw [hs] at this;injection this with this;subst this;exact hv.free t li k' hl hc lr h0 h1
 fresh:=fun j hj=>hv.fresh i hp.lt hp.nd _ (by omega) (by omega)
 iq:=fun t u li lj k k' ht hu hl lL hs tR lr GA hb=>by
  have aw: ∀t,(t∈r.rd\/ ∃b,(t,b)∈r.wr)->A X i t\/W X i t:=fun t h=>by
   rcases h with h|h
   · exact .inl (by unfold A;rw [hX];exact .inl h)
   exact .inr (by unfold W;rw [hX];exact h)
  obtain ⟨k1,CF,_⟩:=hv.tok t li hl;obtain ⟨k2,I',_⟩:=hv.tok u lj lL;have e1:=hv.cur hr ho hp hl (aw t ht) CF;have e2:=hv.cur hr ho hp lL (aw u hu) I';rw [hs] at e1;injection e1 with e1;subst e1;rw [tR] at e2;injection e2 with e2;subst e2;exact hv.iq t u li lj _ _ hl lL CF I' lr GA hb
theorem Inv.AG (hr:w9 F rec ops S X) (ho:Ord ops S X wD) (hv:Inv ops S X im0 loc0 w0 nt done im loc a w) (hp:Place ops wD done i) {x:bM} (hx:ops[i]? =afa x) {r:mT} (hX:X i=afa (.loc r))
 (zo:(XR.loc r).ok (S i).fz=afc) (hS:S (i+1)=(XR.loc r).next x.dst (S i)) {v':Value} {dX:Im} {bj:Loc} {w':World} (nO:VR dX bj r.v v') (he:rT im loc (S i).ax w r dX bj w')
 (rM: ∀d,x.dst=afa d->d<nt):Inv ops S X im0 loc0 w0 nt (plus done i) dX bj (a.put x.dst v') w':=by
 have cO:(S (i+1)).ax.length=(S i).ax.length+(af6 r.news):=by rw [hS];simp [XR.next,p9,fA]
 have qI:=hp.lt;have As:uN r.wr=afc:=by simp only [XR.ok,v6] at zo;exact zo.2
 have pj:(S (i+1)).ax=fU r.wr (S i).ax++r.news:=by rw [hS];exact p9 _ _
 have afq: ∀t k,(t,k)∈r.wr->t<(S i).ax.length->(S (i+1)).ax[t]? =afa k:=by intro t k hm dz;rw [pj,If (by rw [fA];exact dz)];exact D7 _ _ As hm dz
 have aad: ∀j k,r.news[j]? =afa k->(S (i+1)).ax[(S i).ax.length+j]? =afa k:=by intro j k hj;rw [pj,PP (by rw [fA];omega),fA,show (S i).ax.length+j- (S i).ax.length=j by omega];exact hj
 have wlt: ∀t li,loc t=afa li->W X i t->t<(S i).ax.length:=by intro t li hl hW;obtain ⟨k,hc,_⟩:=hv.tok t li hl;exact cD (hv.cur hr ho hp hl (.inr hW) hc)
 have HX: ∀t k li,(t,k)∈r.wr->loc t=afa li->AF S X (af6 ops) (plus done i) t k:=by
  intro t k li hm hl;have hW:W X i t:=by unfold W;rw [hX];exact ⟨k,hm⟩
  have dz:=wlt t li hl hW;refine ⟨i+1,qI,fun j hj NF=>?_,fun c hc h1 h2=>?_,afq t k hm dz⟩
  · rcases aal j i with h|h|h
    · exact ⟨fun _=>by omega,fun _=> .inl (hp.pre j hj (ho.LX j i t h qI NF (.inr hW)))⟩
    · subst h;exact ⟨fun _=>by omega,fun _=> .inr rfl⟩
    refine ⟨fun hd=>?_,fun h'=>by omega⟩
    rcases hd with hd|hd
    · exact absurd hd (hp.xa hj (ho.LX i j t h hj hW (.inr NF)))
    omega
  rcases aau c (i+1) with h|h
  · exact h
  have:=hr.gY (show i<=c by omega) (by omega);omega
 have yf: ∀j k,r.news[j]? =afa k->AF S X (af6 ops) (plus done i) ((S i).ax.length+j) k:=by
  intro j k hj;have LH:=cD hj;refine ⟨i+1,qI,fun q hq hWq=>?_,fun c hc h1 h2=>?_,aad j k hj⟩
  · rcases aal q i with h|h|h
    · refine ⟨fun _=>by omega,fun _=> .inl ?_⟩
      by_cases hs:p5 X q
      ·
       refine hp.pre q hq (ho.Jj q i h qI (.inl ⟨hs,?_⟩));unfold gD;rw [hX];exact .inr (.inr (.inr (by intro e;rw [e] at hj;simp at hj)))
      rcases ho.cl q _ hq hs (.inr hWq) with h'|h'
      · have:=hr.gY (show q<=i by omega) (by omega);omega
      exact hp.pre q hq (h' i h qI)
    · subst h;exact ⟨fun _=>by omega,fun _=> .inr rfl⟩
    refine ⟨fun hd=>?_,fun h'=>by omega⟩
    rcases hd with hd|hd
    · exfalso
      by_cases hs:p5 X q
      · refine hp.xa hq (ho.Jj i q h hq (.inr ⟨?_,hs⟩)) hd
        unfold gD;rw [hX];exact .inr (.inr (.inr (by intro e;rw [e] at hj;simp at hj)))
      exact hp.xa hq (ho.aac i q _ h hq (by rintro ⟨v,s,z,e⟩;rw [hX] at e;cases e) (by omega) (by omega) hs hWq) hd
    omega
  rcases aau c (i+1) with h|h
  · exact h
  have:=hr.gY (show i+1<=c by omega) (by omega);omega
 have NG: ∀t k,¬W X i t->AF S X (af6 ops) done t k->AF S X (af6 ops) (plus done i) t k:=by
  intro t k hW hc;obtain ⟨m,hm,h1,h2,h3⟩:=hc;refine ⟨m,hm,fun j hj NF=>?_,h2,h3⟩;have dK:j≠i:=fun e=>hW (e▸NF)
  have:=h1 j hj NF;exact ⟨fun hd=>this.1 (hd.resolve_right dK),fun h=> .inl (this.2 h)⟩
 have ahQ: ¬p5 X i:=by rintro ⟨v,s,z,e⟩;rw [hX] at e;cases e
 have yg: ∀t li,bj t=afa li->(∃j k,t=(S i).ax.length+j/\r.news[j]? =afa k/\loc t=afb)\/loc t=afa li:=by
  intro t li hl;rcases he.ky t li hl with h|⟨h1,h2⟩
  · exact .inr h
  refine .inl ⟨t- (S i).ax.length,r.news[t- (S i).ax.length],by omega,ww (by omega),?_⟩
  exact hv.fresh i qI hp.nd t h1 (by omega)
 have old: ∀t li k,loc t=afa li->AF S X (af6 ops) (plus done i) t k->k.bH=afc-> ∃k0,AF S X (af6 ops) done t k0/\k0.bH=afc/\BR im loc w li k0/\(¬W X i t->k0=k)/\(W X i t->(t,k)∈r.wr):=by
  intro t li k hl hc hs;obtain ⟨k0,D',qH⟩:=hv.tok t li hl
  by_cases hW:W X i t
  · have HY:=hW
    unfold W at HY;rw [hX] at HY;obtain ⟨k2,hm⟩:=HY;have e:=(HX t k2 li hm hl).unique hr hc;subst e;obtain ⟨k3,h3,h4⟩:=he.OP t k2 hm hs;have:=hv.cur hr ho hp hl (.inr hW) D';rw [h3] at this;injection this with this;subst this;exact ⟨k3,D',h4,qH,fun h=>absurd hW h,fun _=>hm⟩
  have e:=(NG t k0 hW D').unique hr hc
  subst e;exact ⟨k0,D',hs,qH,fun _=>rfl,fun h=>absurd h hW⟩
 have HZ: ∀t k li k0,(t,k)∈r.wr->loc t=afa li->(S i).ax[t]? =afa k0->AF S X (af6 ops) done t k0:=by intro t k li k0 hm hl hs;obtain ⟨k1,CF,_⟩:=hv.tok t li hl;have:=hv.cur hr ho hp hl (.inr (by unfold W;rw [hX];exact ⟨k,hm⟩)) CF;rw [hs] at this;injection this with this;subst this;exact CF
 have Q0: ∀t li k0,t∈r.fr->loc t=afa li->(S i).ax[t]? =afa k0->AF S X (af6 ops) done t k0:=by intro t li k0 hm hl hs;obtain ⟨k1,CF,_⟩:=hv.tok t li hl;have:=hv.cur hr ho hp hl (.inl (by unfold A;rw [hX];exact .inr hm)) CF;rw [hs] at this;injection this with this;subst this;exact CF
 refine {
  tm:=fun t=>?_
  bB:=he.bB
  tok:=fun t li hl=>?_
  iq:=fun t u li lj k k' hl lL hc BE hs tR hb=>?_
  free:=fun t li k hl hc hs h0 hf=>?_
  fresh:=fun j hj FY t h1 h2=>?_
  gn:=hv.gn.trans he.gn
  dI:=hv.dI.trans he.dI
  os:=he.os.trans hv.os
  tape:=he.tape.trans hv.tape
  output:=he.output.trans hv.output
  size:=aav hv.size he.size
  frame:=fun b hb hh=>?_
  dM:=fun b o hb=>?_
  mP:=fun t li hl=>?_
  own:=fun t li k hl hc hs=>?_
  defers:=by cases hd:x.dst<;>simp [Act.put,hv.defers]
  Lw:=by cases hd:x.dst<;>simp [Act.put,hv.Lw]}
 ·
  by_cases hd:x.dst=afa t
  · refine ⟨i+1,qI,fun j y hy ND=>?_,?_⟩
    · rcases aal j i with h|h|h
      · exact ⟨fun _=>by omega,fun _=> .inl (hp.pre j (cD hy) (ho.D8 j i t y x h hy hx ND (.inr hd)))⟩
      · subst h;exact ⟨fun _=>by omega,fun _=> .inr rfl⟩
      refine ⟨fun JK=>?_,fun h'=>by omega⟩
      rcases JK with JK|JK
      · exact absurd JK (hp.xa (cD hy) (ho.D8 i j t x y h hx hy hd (.inr ND)))
      omega
    rw [hS]
    simp only [XR.next,hd,ik,qd,if_true,Act.put];have:=rM t hd;simp [hv.Lw,this,nO]
  obtain ⟨m,hm,h1,h2⟩:=hv.tm t
  refine ⟨m,hm,fun j y hy ND=>?_,?_⟩
  · have dK:j≠i:=by intro e;subst e;rw [hx] at hy;injection hy with hy;subst hy;exact hd ND
    have:=h1 j y hy ND;exact ⟨fun JK=>this.1 (JK.resolve_right dK),fun h=> .inl (this.2 h)⟩
  have:=h2.mono he.gn he.dI
  cases hxd:x.dst with
  |none=>simpa [Act.put] using this
  |some d=>
   have dK:d≠t:=fun e=>hd (by rw [hxd,e])
   simpa [Act.put,aaz,dK] using this
 ·
  rcases yg t li hl with ⟨j,k,rfl,hj,_⟩|O0
  · obtain ⟨h2,_⟩:=he.news j k li hj hl
    exact ⟨k,yf j k hj,h2⟩
  obtain ⟨k0,D',qH⟩:=hv.tok t li O0
  by_cases hW:W X i t
  · have HY:=hW
    unfold W at HY;rw [hX] at HY;obtain ⟨k2,hm⟩:=HY;exact ⟨k2,HX t k2 li hm O0,he.wr t k2 li hm O0⟩
  refine ⟨k0,NG t k0 hW D',qH.afn he.gn he.dI fun hs=>?_⟩
  refine he.frame _ (qH.lt hs) fun t2 k2 l2 k3 hm Jt hs3 lr Qp=>?_
  have:=hv.iq t2 t l2 li k3 k0 Jt O0 (HZ t2 k2 l2 k3 hm Jt hs3) D' lr hs Qp;subst this;exact hW (by unfold W;rw [hX];exact ⟨k2,hm⟩)
 ·
  have Q1: ∀t u li lj k k',(∃j k,t=(S i).ax.length+j/\r.news[j]? =afa k/\loc t=afb)->loc u=afa lj->bj t=afa li->AF S X (af6 ops) (plus done i) t k->AF S X (af6 ops) (plus done i) u k'->
   k.bH=afc->k'.bH=afc->li.c6=lj.c6->False:=by
   intro t u li lj k k' hj hlu hl hc BE hs tR hb;obtain ⟨j,k1,rfl,hj,_⟩:=hj;have e:=(yf j k1 hj).unique hr hc;subst e;obtain ⟨h2,h3⟩:=he.news j k1 li hj hl;obtain ⟨k0,D',H3,aae,hk0,hw0⟩:=old u lj k' hlu BE tR;have dz:=aae.lt H3;rcases (h3 hs).2 with h|⟨td,lt,kd,hm,hld,hsd,Q2,hbd⟩
   · omega
   have:=hv.iq td u lt lj kd k0 hld hlu (HZ td _ lt kd hm hld hsd) D' Q2 H3 (by rw [hbd,hb])
   subst this;have LQ:=hw0 (by unfold W;rw [hX];exact ⟨_,hm⟩);have e2:=(HX td _ lj hm hlu).unique hr (HX td _ lj LQ hlu);subst e2;cases tR
  rcases yg t li hl with h1|h1
  · rcases yg u lj lL with h2|h2
    · obtain ⟨j1,k1,rfl,hj1,_⟩:=h1
      obtain ⟨j2,k2,rfl,hj2,_⟩:=h2;have e1:=(yf j1 k1 hj1).unique hr hc;have e2:=(yf j2 k2 hj2).unique hr BE;subst e1 e2;rw [he.distinct j1 j2 k1 k2 li lj hj1 hj2 hs tR hl lL hb]
    exact (Q1 t u li lj k k' h1 h2 hl hc BE hs tR hb).elim
  rcases yg u lj lL with h2|h2
  · exact (Q1 u t lj li k' k h2 h1 lL BE hc tR hs hb.symm).elim
  obtain ⟨k0,D',H3,_⟩:=old t li k h1 hc hs
  obtain ⟨k1,CF,hs1,_⟩:=old u lj k' h2 BE tR;exact hv.iq t u li lj k0 k1 h1 h2 D' CF H3 hs1 hb
 ·
  rcases yg t li hl with ⟨j,k1,rfl,hj,_⟩|O0
  · have e:=(yf j k1 hj).unique hr hc
    subst e;obtain ⟨h2,h3⟩:=he.news j k1 li hj hl;exact (h3 hs).1
  obtain ⟨k0,D',H3,aae,_,_⟩:=old t li k O0 hc hs
  have hn:=hv.free t li k0 O0 D' H3 h0 (fun j hj hd=>hf j hj (.inl hd));cases hb:dX li.c6 with
  |none=>rfl
  |some o=>
   rcases he.dM _ _ hb with h|h|⟨t2,l2,k2,h1,h2,h3,h4,h5⟩
   · rw [hn] at h;cases h
   · have:=aae.lt H3;omega
   have hm:=oK.1 h1
   have:=hv.iq t2 t l2 li k2 k0 h2 O0 (Q0 t2 l2 k2 hm h2 h3) D' h4 H3 h5;subst this;exact absurd (by unfold FR;rw [hX];exact hm) (hf i qI (.inr rfl))
 ·
  have Um:j≠i:=fun e=>FY (.inr e)
  have aaf: ¬done j:=fun h=>FY (.inl h)
  cases hl:bj t with
  |none=>rfl
  |some li=>
   exfalso;rcases he.ky t li hl with h|⟨h3,h4⟩
   · rw [hv.fresh j hj aaf t h1 h2] at h;cases h
   rcases aeL Um with h|h
   · have:=hr.gY (show j+1<=i by omega) (by omega);omega
   have:=hr.gY (show i+1<=j by omega) (by omega);omega
 ·
  have Q3:b<w.heap.size:=ad8 hb hv.size;rw [he.frame b Q3 (fun t k li k0 hm hl hs lr Qp=>?_)]
  · exact hv.frame b hb hh
  rcases hv.own t li k0 hl (HZ t k li k0 hm hl hs) lr with h|⟨u,lu,ku,h1,h2,h3,h4⟩
  · omega
  exact hh u lu ku h1 h2 h3 (by omega)
 · rcases he.dM b o hb with h|h|⟨t,li,k,h1,h2,h3,h4,h5⟩
   · exact hv.dM b o h
   · exact .inr (.inl (aav hv.size h))
   rcases hv.own t li k h2 (Q0 t li k (oK.1 h1) h2 h3) h4 with h|⟨u,lu,ku,g1,g2,g3,g4⟩
   · exact .inr (.inl (by omega))
   exact .inr (.inr ⟨u,lu,ku,g1,g2,g3,by omega⟩)
 · rcases he.ky t li hl with h|⟨h,_⟩
   · exact hv.mP t li h
   exact .inr (aav (hr.gY (aaS _) (by omega)) h)
 rcases yg t li hl with ⟨j,k1,rfl,hj,_⟩|O0
 · have e:=(yf j k1 hj).unique hr hc
   subst e;obtain ⟨h2,h3⟩:=he.news j k1 li hj hl;rcases (h3 hs).2 with h|⟨td,lt,kd,hm,hld,hsd,Q2,hbd⟩
   · exact .inl (aav hv.size h)
   rcases hv.own td lt kd hld (HZ td _ lt kd hm hld hsd) Q2 with h|⟨u,lu,ku,g1,g2,g3,g4⟩
   · exact .inl (by omega)
   exact .inr ⟨u,lu,ku,g1,g2,g3,by omega⟩
 obtain ⟨k0,D',H3,_⟩:=old t li k O0 hc hs
 exact hv.own t li k0 O0 D' H3
end
end Go.Vm
/- A region: a call that works on the blocks themselves, and a skipped operation. -/
namespace Go.Vm
section
variable {F : lM} {rec : Task -> Option Out} {ops : List bM} {S : Nat -> St} {X : Nat -> Option XR} {wD : Nat -> Nat -> Prop} {im0 : Im} {loc0 : Loc} {w0 : World} {nt : Nat}
  {done : Nat -> Prop} {im : Im} {loc : Loc} {a : Act} {w : World} {i : Nat}
theorem GB {v:PV} {s:cw} {z:List Nat} (hX:X i=afa (.shr v s z)) (t:Nat):W X i t:=by unfold W;rw [hX];trivial
theorem uW {j t:Nat} (h:W X j t):gD X j:=by
 unfold W at h;unfold gD;cases hX:X j with
 |none=>rw [hX] at h;exact h.elim
 |some x=>
  rw [hX] at h;cases x with
  |loc r=>obtain ⟨k,hk⟩:=h;exact .inr (.inr (.inl (by intro e;rw [e] at hk;cases hk)))
  |shr v s z=>trivial
theorem Inv.sr (hr:w9 F rec ops S X) (ho:Ord ops S X wD) (hv:Inv ops S X im0 loc0 w0 nt done im loc a w) (hp:Place ops wD done i) {v:PV} {s:cw} {z:List Nat} (hX:X i=afa (.shr v s z)):
 SR im loc (S i).ax (S i).fz w where
 bB:=hv.bB
 c6:=fun t li hl=>by obtain ⟨k,hc,hb⟩:=hv.tok t li hl;exact ⟨k,hv.cur hr ho hp hl (.inr (GB hX t)) hc,hb⟩
 iq:=fun t u li lj k k' hl lL hs tR h h' hb=>by obtain ⟨k1,CF,_⟩:=hv.tok t li hl;obtain ⟨k2,I',_⟩:=hv.tok u lj lL;have e1:=hv.cur hr ho hp hl (.inr (GB hX t)) CF;have e2:=hv.cur hr ho hp lL (.inr (GB hX u)) I';rw [hs] at e1;injection e1 with e1;subst e1;rw [tR] at e2;injection e2 with e2;subst e2;exact hv.iq t u li lj _ _ hl lL CF I' h h' hb
 free:=fun t li k hl hs h hz=>by obtain ⟨k1,CF,_⟩:=hv.tok t li hl;have e1:=hv.cur hr ho hp hl (.inr (GB hX t)) CF;rw [hs] at e1;injection e1 with e1;subst e1;obtain ⟨h0,h1⟩:=Inv.D9 hr ho hp (GB hX t) (jh.1 hz);exact hv.free t li _ hl CF h h0 h1
theorem Inv.Q4 {S:Nat->St} (ho:Ord ops S X wD) (hp:Place ops wD done i) {x:bM} (hx:ops[i]? =afa x) {v:PV} {v':Value} {dX:Im} {bj:Loc}
 (hv:Inv ops S X im0 loc0 w0 nt done im loc a w) (hi:mY im dX) (hl:lH loc bj) (hS:(S (i+1)).env=ik x.dst v (S i).env) (nO:VR dX bj v v') (rM: ∀d,x.dst=afa d->d<nt):
 ∀t,∃m,m<=af6 ops/\(∀j y,ops[j]? =afa y->y.dst=afa t->(plus done i j↔j<m))/\VR dX bj (lk t (S m).env) ((a.put x.dst v').tmps.getD t Go.undef):=by
 intro t;have qI:=hp.lt
 by_cases hd:x.dst=afa t
 · refine ⟨i+1,qI,fun j y hy ND=>?_,?_⟩
   · rcases aal j i with h|h|h
     · exact ⟨fun _=>by omega,fun _=> .inl (hp.pre j (cD hy) (ho.D8 j i t y x h hy hx ND (.inr hd)))⟩
     · subst h;exact ⟨fun _=>by omega,fun _=> .inr rfl⟩
     refine ⟨fun JK=>?_,fun h'=>by omega⟩
     rcases JK with JK|JK
     · exact absurd JK (hp.xa (cD hy) (ho.D8 i j t x y h hx hy hd (.inr ND)))
     omega
   rw [hS]
   simp only [hd,ik,qd,if_true,Act.put];have:=rM t hd;simp [hv.Lw,this,nO]
 obtain ⟨m,hm,h1,h2⟩:=hv.tm t
 refine ⟨m,hm,fun j y hy ND=>?_,?_⟩
 · have dK:j≠i:=by intro e;subst e;rw [hx] at hy;injection hy with hy;subst hy;exact hd ND
   have:=h1 j y hy ND;exact ⟨fun JK=>this.1 (JK.resolve_right dK),fun h=> .inl (this.2 h)⟩
 have:=h2.mono hi hl
 cases hxd:x.dst with
 |none=>simpa [Act.put] using this
 |some d=>
  have dK:d≠t:=fun e=>hd (by rw [hxd,e])
  simpa [Act.put,aaz,dK] using this
theorem put_defers (a:Act) (d:Option Nat) (v:Value):(a.put d v).defers=a.defers:=by cases d<;>rfl
theorem JL (a:Act) (d:Option Nat) (v:Value):(a.put d v).tmps.size=a.tmps.size:=by cases d<;>simp [Act.put]
theorem Inv.Q5 (hr:w9 F rec ops S X) (ho:Ord ops S X wD) (hv:Inv ops S X im0 loc0 w0 nt done im loc a w) (hp:Place ops wD done i) {x:bM} (hx:ops[i]? =afa x) {v:PV} {s:cw} {z:List Nat}
 (hX:X i=afa (.shr v s z)) (hS:S (i+1)=(XR.shr v s z).next x.dst (S i)) {v':Value} {dX:Im} {bj:Loc} {w':World} (hf:tV im loc (S i).ax w v s z dX bj w' v')
 (rM: ∀d,x.dst=afa d->d<nt):Inv ops S X im0 loc0 w0 nt (plus done i) dX bj (a.put x.dst v') w':=by
 have qI:=hp.lt;have pj:(S (i+1)).ax=s:=by rw [hS];rfl
 have aag: ∀t li,loc t=afa li-> ∀k,(S i).ax[t]? =afa k->AF S X (af6 ops) done t k:=by intro t li hl k hs;obtain ⟨k1,CF,_⟩:=hv.tok t li hl;have e1:=hv.cur hr ho hp hl (.inr (GB hX t)) CF;rw [hs] at e1;injection e1 with e1;subst e1;exact CF
 have Un: ∀t k,s[t]? =afa k->AF S X (af6 ops) (plus done i) t k:=by
  intro t k hs;refine ⟨i+1,qI,fun j hj NF=>?_,fun c hc h1 h2=>?_,by rw [pj];exact hs⟩
  · rcases aal j i with h|h|h
    · exact ⟨fun _=>by omega,fun _=> .inl (hp.pre j hj (ho.Jj j i h qI (.inr ⟨uW NF,⟨v,s,z,hX⟩⟩)))⟩
    · subst h;exact ⟨fun _=>by omega,fun _=> .inr rfl⟩
    refine ⟨fun hd=>?_,fun h'=>by omega⟩
    rcases hd with hd|hd
    · exact absurd hd (hp.xa hj (ho.Jj i j h hj (.inl ⟨⟨v,s,z,hX⟩,uW NF⟩)))
    omega
  rcases aau c (i+1) with h|h
  · exact h
  have:=hr.gY (show i+1<=c by omega) (by omega)
  have:=cD hs;rw [pj] at*;omega
 have H4: ∀t li,bj t=afa li-> ∀k,AF S X (af6 ops) (plus done i) t k->s[t]? =afa k:=by intro t li hl k hc;obtain ⟨k1,h1,_⟩:=hf.sr.c6 t li hl;have:=hc.unique hr (Un t k1 h1);subst this;exact h1
 refine {
  tm:=Inv.Q4 ho hp hx hv hf.gn hf.dI (by rw [hS];rfl) hf.vr rM
  bB:=hf.sr.bB
  tok:=fun t li hl=>by obtain ⟨k,h1,h2⟩:=hf.sr.c6 t li hl;exact ⟨k,Un t k h1,h2⟩
  iq:=fun t u li lj k k' hl lL hc BE hs tR hb=>hf.sr.iq t u li lj k k' hl lL (H4 t li hl k hc) (H4 u lj lL k' BE) hs tR hb
  free:=fun t li k hl hc hs h0 qG=>by refine hf.sr.free t li k hl (H4 t li hl k hc) hs (jh.2 ?_);have:=qG i qI (.inr rfl);unfold FR at this;rw [hX] at this;exact this
  fresh:=fun j hj FY t h1 h2=>?_
  gn:=hv.gn.trans hf.gn
  dI:=hv.dI.trans hf.dI
  os:=hf.os.trans hv.os
  tape:=hf.tape.trans hv.tape
  output:=hf.output.trans hv.output
  size:=aav hv.size hf.size
  frame:=fun b hb hh=>?_
  dM:=fun b o hb=>?_
  mP:=fun t li hl=>?_
  own:=fun t li k hl hc hs=>?_
  defers:=by rw [put_defers];exact hv.defers
  Lw:=by rw [JL];exact hv.Lw}
 · have Um:j≠i:=fun e=>FY (.inr e)
   have aaf: ¬done j:=fun h=>FY (.inl h)
   cases hl:bj t with
   |none=>rfl
   |some li=>
    exfalso;obtain ⟨k,hk,_⟩:=hf.sr.c6 t li hl;have dz:=cD hk;rcases hf.mP t li hl with h|h
    · rw [hv.fresh j hj aaf t h1 h2] at h;cases h
    rcases aeL Um with h'|h'
    · have:=hr.gY (show j+1<=i by omega) (by omega);omega
    have:=hr.gY (show i+1<=j by omega) (by omega)
    rw [pj] at this;omega
 · rw [hf.frame b (ad8 hb hv.size) fun t li k hl hs lr Qp=>?_]
   · exact hv.frame b hb hh
   rcases hv.own t li k hl (aag t li hl k hs) lr with h|⟨u,lu,ku,g1,g2,g3,g4⟩
   · omega
   exact hh u lu ku g1 g2 g3 (by omega)
 · rcases hf.dM b o hb with h|h|⟨t,li,k,h1,h2,h3,h4⟩
   · exact hv.dM b o h
   · exact .inr (.inl (aav hv.size h))
   rcases hv.own t li k h1 (aag t li h1 k h2) h3 with h|⟨u,lu,ku,g1,g2,g3,g4⟩
   · exact .inr (.inl (by omega))
   exact .inr (.inr ⟨u,lu,ku,g1,g2,g3,by omega⟩)
 · rcases hf.mP t li hl with h|h
   · exact hv.mP t li h
   exact .inr (aav (hr.gY (aaS _) (by omega)) h)
 rcases hf.own t li k hl (H4 t li hl k hc) hs with h|⟨u,lu,ku,h1,h2,h3,h4⟩
 · exact .inl (aav hv.size h)
 rcases hv.own u lu ku h1 (aag u lu h1 ku h2) h3 with h|⟨u',lu',ku',g1,g2,g3,g4⟩
 · exact .inl (by omega)
 exact .inr ⟨u',lu',ku',g1,g2,g3,by omega⟩
theorem Inv.step_skip (_hr:w9 F rec ops S X) (ho:Ord ops S X wD) (hv:Inv ops S X im0 loc0 w0 nt done im loc a w) (hp:Place ops wD done i) {x:bM} (hx:ops[i]? =afa x)
 (hX:X i=afb) (hS:S (i+1)={S i with env:=ik x.dst .jd (S i).env}) (rM: ∀d,x.dst=afa d->d<nt):Inv ops S X im0 loc0 w0 nt (plus done i) im loc (a.put x.dst Go.undef) w:=by
 have qI:=hp.lt;have hnW: ∀t,¬W X i t:=fun t h=>by unfold W at h;rw [hX] at h;exact h
 have pj:(S (i+1)).ax=(S i).ax:=by rw [hS]
 have Un: ∀t k,AF S X (af6 ops) done t k->AF S X (af6 ops) (plus done i) t k:=by
  intro t k ⟨m,hm,h1,h2,h3⟩;refine ⟨m,hm,fun j hj NF=>?_,h2,h3⟩;have dK:j≠i:=fun e=>hnW t (e▸NF)
  have:=h1 j hj NF;exact ⟨fun hd=>this.1 (hd.resolve_right dK),fun h=> .inl (this.2 h)⟩
 have H4: ∀t k,AF S X (af6 ops) (plus done i) t k->AF S X (af6 ops) done t k:=by
  intro t k ⟨m,hm,h1,h2,h3⟩;refine ⟨m,hm,fun j hj NF=>?_,h2,h3⟩;have dK:j≠i:=fun e=>hnW t (e▸NF)
  have:=h1 j hj NF;exact ⟨fun hd=>this.1 (.inl hd),fun h=>(this.2 h).resolve_right dK⟩
 refine {
  tm:=Inv.Q4 ho hp hx hv (.refl _) (.refl _) (by rw [hS]) .jd rM
  bB:=hv.bB
  tok:=fun t li hl=>let ⟨k,h1,h2⟩:=hv.tok t li hl;⟨k,Un t k h1,h2⟩
  iq:=fun t u li lj k k' hl lL hc BE hs tR hb=>hv.iq t u li lj k k' hl lL (H4 t k hc) (H4 u k' BE) hs tR hb
  free:=fun t li k hl hc hs h0 qG=>hv.free t li k hl (H4 t k hc) hs h0 fun j hj hd=>qG j hj (.inl hd)
  fresh:=fun j hj FY t h1 h2=>hv.fresh j hj (fun h=>FY (.inl h)) t h1 h2
  gn:=hv.gn
  dI:=hv.dI
  os:=hv.os
  tape:=hv.tape
  output:=hv.output
  size:=hv.size
  frame:=hv.frame
  dM:=hv.dM
  mP:=hv.mP
  own:=fun t li k hl hc hs=>hv.own t li k hl (H4 t k hc) hs
  defers:=by rw [put_defers];exact hv.defers
  Lw:=by rw [JL];exact hv.Lw}
theorem Inv.start {st:St} (h0:S 0=st) (jS:SR im0 loc0 st.ax st.fz w0) (her:ER im0 loc0 st.env a.tmps) (hd:a.defers=[]) (hn:a.tmps.size=nt) (hr:w9 F rec ops S X):
 Inv ops S X im0 loc0 w0 nt (fun _=>False) im0 loc0 a w0:=by
 subst h0;have dz: ∀t li,loc0 t=afa li->t<(S 0).ax.length:=fun t li hl=>let ⟨k,h,_⟩:=jS.c6 t li hl;cD h
 have cur: ∀t li k,loc0 t=afa li->AF S X (af6 ops) (fun _=>False) t k->(S 0).ax[t]? =afa k:=by intro t li k hl ⟨m,hm,h1,h2,h3⟩;rw [<- hr.ye (aaS m) hm (fun j _ hj hW=>(h1 j (by omega) hW).2 hj) (dz t li hl)];exact h3
 exact {
  tm:=fun t=>⟨0,aaS _,fun j y _ _=>⟨fun h=>h.elim,fun h=>by omega⟩,her t⟩
  bB:=jS.bB
  tok:=fun t li hl=>by obtain ⟨k,h1,h2⟩:=jS.c6 t li hl;refine ⟨k,⟨0,aaS _,fun j _ _=>⟨fun h=>h.elim,fun h=>by omega⟩,fun c hc h3 h4=>?_,h1⟩,h2⟩;have:=dz t li hl;have:=hr.gY (aaS c) (by omega);omega
  iq:=fun t u li lj k k' hl lL hc BE=>jS.iq t u li lj k k' hl lL (cur t li k hl hc) (cur u lj k' lL BE)
  free:=fun t li k hl hc hs hz _=>jS.free t li k hl (cur t li k hl hc) hs (jh.2 hz)
  fresh:=fun j hj _ t h1 h2=>by
   cases hl:loc0 t with
   |none=>rfl
   |some li=>have:=dz t li hl;have:=hr.gY (aaS j) (by omega);omega
  gn:= .refl _
  dI:= .refl _
  os:=rfl
  tape:= .refl _
  output:=rfl
  size:=M2 _
  frame:=fun _ _ _=>rfl
  dM:=fun _ _ h=> .inl h
  mP:=fun _ _ h=> .inl h
  own:=fun t li k hl hc hs=> .inr ⟨t,li,k,hl,cur t li k hl hc,hs,rfl⟩
  defers:=hd
  Lw:=hn}
structure Kept (im0:Im) (loc0:Loc) (iI:cw) (w0:World) (st:St) (im:Im) (loc:Loc) (w:World):Prop where
 sr:SR im loc st.ax st.fz w
 gn:mY im0 im
 dI:lH loc0 loc
 os:w.os=w0.os
 tape:Tape w0 w
 output:w.output=w0.output
 size:w0.heap.size<=w.heap.size
 frame: ∀b,b<w0.heap.size->(∀t li k,loc0 t=afa li->iI[t]? =afa k->k.bH=afc->li.c6≠b)->w.heap[b]? =w0.heap[b]?
 dM: ∀b o,im b=afa o->im0 b=afa o\/w0.heap.size<=b\/ ∃t li k,loc0 t=afa li/\iI[t]? =afa k/\k.bH=afc/\li.c6=b
 mP: ∀t li,loc t=afa li->loc0 t=afa li\/af6 iI<=t
 own: ∀t li k,loc t=afa li->st.ax[t]? =afa k->k.bH=afc->(w0.heap.size<=li.c6\/ ∃u lu ku,loc0 u=afa lu/\iI[u]? =afa ku/\ku.bH=afc/\lu.c6=li.c6)
theorem Inv.finish (hr : w9 F rec ops S X) (hv : Inv ops S X im0 loc0 w0 nt done im loc a w) (hd : ∀ j, j < (af6 ops) -> done j) :
    Kept im0 loc0 (S 0).ax w0 (S (af6 ops)) im loc w /\ ER im loc (S (af6 ops)).env a.tmps /\ a.defers = [] /\ a.tmps.size = nt := by
  have cur : ∀ t k, AF S X (af6 ops) done t k -> (S (af6 ops)).ax[t]? = afa k := by
    intro t k ⟨m, hm, h1, h2, h3⟩
    rw [hr.ye hm (M2 _) (fun j h4 h5 hW => by have := (h1 j h5 hW).1 (hd j h5); omega) (cD h3)]
    exact h3
  have Uo : ∀ t li k, loc t = afa li -> (S (af6 ops)).ax[t]? = afa k -> AF S X (af6 ops) done t k := by
    intro t li k hl hs
    obtain ⟨k1, hc, _⟩ := hv.tok t li hl
    have := cur t k1 hc
    rw [hs] at this; injection this with this; subst this; exact hc
  refine ⟨{
    sr := { bB := hv.bB
            c6 := fun t li hl => let ⟨k, h1, h2⟩ := hv.tok t li hl; ⟨k, cur t k h1, h2⟩
            iq := fun t u li lj k k' hl lL hs tR => hv.iq t u li lj k k' hl lL (Uo t li k hl hs) (Uo u lj k' lL tR)
            free := fun t li k hl hs lr hz => by
              have hz := jh.1 hz
              refine hv.free t li k hl (Uo t li k hl hs) lr (fun h => hz (hr.Dt (aaS _) (M2 _) t h)) fun j hj _ hf => ?_
              exact hz (hr.Dt (show j + 1 <= (af6 ops) from hj) (M2 _) t (hr.Zk hj hf)) }
    gn := hv.gn, dI := hv.dI, os := hv.os, tape := hv.tape, output := hv.output, size := hv.size, frame := hv.frame, dM := hv.dM, mP := hv.mP
    own := fun t li k hl hs => hv.own t li k hl (Uo t li k hl hs) }, fun t => ?_, hv.defers, hv.Lw⟩
  obtain ⟨m, hm, h1, h2⟩ := hv.tm t
  rw [hr.LW hm (M2 _) fun j hj h3 h4 rM => ?_]
  · exact h2
  have := (h1 j _ (ww hj) rM).1 (hd j hj); omega
end
end Go.Vm
/- One operation of a region, in the model. -/
namespace Go.Vm
theorem BN {P:Program} {o:Oper} {a:Act} {w:World} {f:FuncId} {us:Array Value} {R:Value->World->Prop} {next:Act->World->Prop} {Q:Exit->Act->World->Prop}
 (h:(execOp a.eval o).run P w=(callFunc f us).run P w) (hc:sU P f us w R) (hR: ∀v w',R v w'->next (a.put o.dst v) w'):o.wp P a w next Q:=by
 unfold Oper.wp;rw [h];rcases hc with ⟨v,w',h1,h2⟩|⟨h1,h2⟩
 · rw [h1,Oper.upon_value];exact hR v w' h2
 rw [h1,Oper.upon_enter]
 refine h2.mono fun e w' ⟨v,he,hv⟩=>?_
 subst he;exact hR v w' hv
theorem LY {im:Im} {loc:Loc} {e:Env} {a:Act} (x:fv) (h: ∀t,x= .t t->VR im loc (lk t e) (a.tmps.getD t Go.undef)) (o:Operand) (hc:bu x o=afc):VR im loc (x.ev e) (a.eval o):=by
 unfold bu at hc;split at hc
 · rename_i n m
   have:n=m:=by simpa using hc
   subst this;exact h n rfl
 · exact HJ hc
 · rename_i f g
   have:f=g:=by simpa using hc
   subst this;exact .ez f [] [] [] [] .nil .nil
 · exact .undef _
 cases hc
section
variable {P : Program} {F : lM} {rec : Task -> Option Out} {ops : List bM} {S : Nat -> St} {X : Nat -> Option XR} {wD : Nat -> Nat -> Prop} {im0 : Im} {loc0 : Loc} {w0 : World} {nt : Nat}
  {done : Nat -> Prop} {im : Im} {loc : Loc} {a : Act} {w : World} {i : Nat} {prims : FuncId -> Bool} {iz : Array Oper}
theorem VR.Uq {v:Value} (h:VR im loc .jd v):v=Go.undef:=by cases h;rfl
theorem uX {r:mT} {d:Option Nat} {st:St}:((XR.loc r).next d st).ax.length=af6 st.ax+(af6 r.news):=by simp [XR.next,p9,fA]
theorem GC {x:bM} {o:Oper} {e:Env} {b:Bool} (hc:tZ iz x.guard o.guard=afc) (hs: ∀s c,x.guard=afa (s,c)->VR im loc (lk s e) (a.tmps.getD s Go.undef)) (h:wanted x.guard e=afa b):
 Region.wanted o (yielded iz a.tmps)=b:=by
 unfold Region.wanted;cases hg:x.guard with
 |none=>
  rw [hg] at hc h;cases ho:o.guard with
  |none=>simp [wanted] at h;subst h;rfl
  |some q=>rw [ho] at hc;simp [tZ] at hc
 |some q=>
  obtain ⟨s,c⟩:=q;rw [hg] at hc h;cases ho:o.guard with
  |none=>rw [ho] at hc;simp [tZ] at hc
  |some q'=>
   obtain ⟨j,c'⟩:=q';rw [ho] at hc;simp only [tZ,v6,beq_iff_eq] at hc;obtain ⟨rfl,hd⟩:=hc;have hv:=hs s c hg;dsimp only;unfold yielded;rw [hd];simp only [wanted] at h;simp only [Option.bind_some];split at h
   · rename_i b' hl
     rw [hl] at hv;have:=hv.jg;have ht:a.tmps[s]? =afa (.bool b'):=by
      simp only [aaC] at this;cases hq:a.tmps[s]? with
      |none=>rw [hq] at this;simp [Go.undef] at this
      |some u=>rw [hq] at this;exact congrArg afa this
     rw [ht];rw [AC] at h;rw [<- h];cases b'<;>cases c<;>rfl
   · rename_i hl
     rw [hl] at hv;have:a.tmps.getD s Go.undef=Go.undef:=hv.Uq;injection h with h;subst h;have ht: ∀b',a.tmps[s]?≠afa (.bool b'):=by intro b' hq;simp only [aaC,hq,Option.getD_some,Go.undef] at this;cases this
     split
     · rename_i b' hq
       exact absurd hq (ht b')
     rfl
   cases h
structure H5 (P:Program) (F:lM) (rec:Task->Option Out):Prop where
 func:BJ P rec
 jD:yd P F
theorem Inv.wpOp (hE:H5 P F rec) (hr:w9 F rec ops S X) (ho:Ord ops S X wD) (hv:Inv ops S X im0 loc0 w0 nt done im loc a w) (hp:Place ops wD done i) {x:bM} {o:Oper} (hx:ops[i]? =afa x) (hmo:iz[i]? =afa o)
 (hc:qf P prims nt iz x o=afc) {Q:Exit->Act->World->Prop} {K:Act->World->Prop}
 (hK: ∀dX bj a' w',Inv ops S X im0 loc0 w0 nt (plus done i) dX bj a' w'->K a' w'):Go.wpOp P iz Q i K a w:=by
 unfold qf at hc;simp only [v6,beq_iff_eq] at hc;obtain ⟨⟨⟨rM,hnt⟩,hg⟩,fo⟩:=hc;have hd: ∀d,x.dst=afa d->d<nt:=by intro d h;rw [h] at hnt;simpa using hnt
 have Zl: ∀t,t∈aD x->VR im loc (lk t (S i).env) (a.tmps.getD t Go.undef):=fun t ht=>hv.slot hr ho hp hx ht
 have O5: ∀y∈x.op.fa,∀o',bu y o'=afc->VR im loc (y.ev (S i).env) (a.eval o'):=by intro y hy o' hco;refine LY y (fun t ht=>Zl t ?_) o' hco;subst ht;exact aeE _ (List.mem_filterMap.2 ⟨.t t,hy,rfl⟩)
 have hgs: ∀s c,x.guard=afa (s,c)->VR im loc (lk s (S i).env) (a.tmps.getD s Go.undef):=by intro s c h;refine Zl s (aeC _ ?_);rw [h];simp
 unfold Go.wpOp;simp only [hmo];rcases hr.steps i x hx with ⟨hw,xr,gx,zo,hX,hS⟩|⟨hw,hX,hS⟩
 · rw [GC hg hgs hw]
   simp only [if_true];left;have Ea: ∀{own:Bool} {f:FuncId} {args:List PV} {us:List Value} {r:mT},xr= .loc r->dh F rec own f args (S i).ax (S i).fz=afa r->eI im loc args us->
    (execOp a.eval o).run P w=(callFunc f ⟨us⟩).run P w->o.wp P a w K Q:=by
    intro own f args us r hxr hcp wI bT;subst hxr;have hk:=hv.known hr ho hp hX zo (by rw [hS];exact uX);refine BN bT (HW hE.func hE.jD hcp wI hk) fun v' w' ⟨dX,bj,nO,wC⟩=>?_
    exact hK _ _ _ _ (rM▸hv.AG hr ho hp hx hX zo hS nO wC hd)
   have JM: ∀{f:FuncId} {args:List PV} {us:List Value},fK rec f args (S i).ax (S i).fz=afa xr->eI im loc args us->
    (execOp a.eval o).run P w=(callFunc f ⟨us⟩).run P w->o.wp P a w K Q:=by
    intro f args us lO wI bT;unfold fK at lO;split at lO
    · rename_i v s z DY
      split at lO
      · injection lO with lO;subst lO
        refine BN bT (hE.func f args _ _ v s z DY im loc w us (hv.sr hr ho hp hX) wI) fun v' w' ⟨dX,bj,hf⟩=>?_
        exact hK _ _ _ _ (rM▸hv.Q5 hr ho hp hx hX hS hf hd)
      cases lO
    cases lO
   have aai: ∀{r:mT},xr= .loc r->bA (S i).env (S i).ax (S i).fz x.op=afa r->o.wp P a w K Q:=by
    intro r hxr he;subst hxr;have hk:=hv.known hr ho hp hX zo (by rw [hS];exact uX);obtain ⟨nx,w',bj,bT,hnx,wC⟩:=QL fo O5 he hk;unfold Oper.wp;rw [bT];rcases hnx with ⟨rfl,hu⟩|⟨v,rfl,nO⟩
    · rw [Oper.upon_skip]
      exact hK _ _ _ _ (rM▸hv.AG hr ho hp hx hX zo hS (by rw [hu];exact .undef _) wC hd)
    rw [Oper.upon_value]
    exact hK _ _ _ _ (rM▸hv.AG hr ho hp hx hX zo hS nO wC hd)
   cases TU:x.op with
   |call m f args=>
    rw [TU] at gx fo O5;have Q6: ∃as TV,o.op= .call {callee:= .value (.func f),args:=as,argTypes:=TV}/\eJ args as.toList=afc:=by
     cases Qq:o.op with
     |call c=>
      obtain ⟨callee,as,TV⟩:=c;rw [Qq] at fo;cases callee with
      |value g=>
       cases g with
       |func g=>simp only [wa,v6,beq_iff_eq] at fo;obtain ⟨⟨rfl,_⟩,h⟩:=fo;exact ⟨as,TV,rfl,h⟩
       |_=>simp [wa] at fo
      |_=>simp [wa] at fo
     |_=>rw [Qq] at fo;simp [wa] at fo
    obtain ⟨as,TV,Qq,hco⟩:=Q6;have hrel:eI im loc (DI (S i).env args) (as.toList.map a.eval):=mD (fun y hy=>O5 y (by simpa [kv.fa] using hy)) hco;have bT:(execOp a.eval o).run P w=(callFunc f ⟨as.toList.map a.eval⟩).run P w:=by
     have:(⟨as.toList.map a.eval⟩:Array Value)=as.map a.eval:=by apply aeX;simp
     rw [this];simp [execOp,Qq,resolve,Act.eval,Deferred.ofValue,invoke]
    cases m with
    |TO=>simp only [v7,IR] at gx;obtain ⟨r,NH,Lx⟩:=gx;exact Ea Lx.symm NH hrel bT
    |own=>simp only [v7,IR] at gx;obtain ⟨r,NH,Lx⟩:=gx;exact Ea Lx.symm NH hrel bT
    |shr=>exact JM gx hrel bT
    |fp=>
     simp only [v7,IR] at gx;obtain ⟨r,NH,Lx⟩:=gx;subst Lx;have hk:=hv.known hr ho hp hX zo (by rw [hS];exact uX);refine BN bT (LS hE.func NH hrel hk) fun v' w' ⟨dX,bj,nO,wC⟩=>?_
     exact hK _ _ _ _ (rM▸hv.AG hr ho hp hx hX zo hS nO wC hd)
   |vY y args=>
    rw [TU] at gx fo O5;have Q6: ∃t as TV,o.op= .call {callee:= .value (.tmp t),args:=as,argTypes:=TV}/\bu y (.tmp t)=afc/\eJ args as.toList=afc:=by
     cases Qq:o.op with
     |call c=>
      obtain ⟨callee,as,TV⟩:=c;rw [Qq] at fo;cases callee with
      |value g=>
       cases g with
       |tmp g=>simp only [wa,v6] at fo;exact ⟨g,as,TV,rfl,fo.1,fo.2⟩
       |_=>simp [wa] at fo
      |_=>simp [wa] at fo
     |_=>rw [Qq] at fo;simp [wa] at fo
    obtain ⟨t,as,TV,Qq,hcy,hco⟩:=Q6;have hrel:eI im loc (DI (S i).env args) (as.toList.map a.eval):=mD (fun y hy=>O5 y (by simp [kv.fa,hy])) hco;have hy:=O5 y (by simp [kv.fa]) (.tmp t) hcy;simp only [v7] at gx;split at gx
    · rename_i f p q Q7
      rw [Q7] at hy;generalize Zi:a.eval (.tmp t)=gv at hy;cases hy with
      |ez _ _ _ us vs h1 h2=>
      have kA:=(h1.append hrel).append h2;have bT:(execOp a.eval o).run P w=(callFunc f ⟨us++as.toList.map a.eval++vs⟩).run P w:=by
       have:(⟨us++as.toList.map a.eval++vs⟩:Array Value)=(⟨us⟩++as.map a.eval)++⟨vs⟩:=by apply aeX;simp
       rw [this];simp [execOp,Qq,resolve,Zi,Deferred.ofValue,invoke]
      split at gx
      · exact JM gx kA bT
      rw [IR] at gx
      obtain ⟨r,NH,Lx⟩:=gx;exact Ea Lx.symm NH kA bT
    cases gx
   |_=>rw [TU] at gx;simp only [v7,IR] at gx;obtain ⟨r,NH,Lx⟩:=gx;exact aai Lx.symm (by rw [TU];exact NH)
 rw [GC hg hgs hw]
 simp only [WF,if_false];exact hK _ _ _ _ (rM▸hv.step_skip hr ho hp hx hX hS hd)
end
end Go.Vm
/- A region, in the order of the text or in a drawn one. -/
namespace Go.Vm
def ua (P:Program) (prims:FuncId->Bool) (nt:Nat) (iz:Array Oper):List bM->List Oper->Bool
 | [],[]=>afc
 |x::xs,o::os=>qf P prims nt iz x o&&ua P prims nt iz xs os
 |_,_=>afd
theorem AH {P:Program} {prims:FuncId->Bool} {nt:Nat} {iz:Array Oper}: ∀{xs:List bM} {os:List Oper},ua P prims nt iz xs os=afc->
 (af6 xs)=af6 os/\ ∀(i:Nat) (x:bM) (o:Oper),xs[i]? =afa x->os[i]? =afa o->qf P prims nt iz x o=afc
 | [],[],_=>⟨rfl,fun i x o h=>by simp at h⟩
 |x::xs,o::os,h=>by
  simp only [ua,v6] at h;obtain ⟨h1,h2⟩:=AH h.2;refine ⟨by simp [h1],fun i y p hy hp=>?_⟩;cases i with
  |zero=>simp at hy hp;subst hy hp;exact h.1
  |succ i=>exact h2 i y p (by simpa using hy) (by simpa using hp)
 | [],_::_,h=>by simp [ua] at h
 |_::_,[],h=>by simp [ua] at h
def bit (m i:Nat):Bool:=Nat.testBit m i
def mF (iS:List Nat) (j:Nat):List Edge->Option Nat
 | []=>afa 0
 |e::es=>match mF iS j es with
  |some m=>if Region.binds .any e then (if ae8 e.on j then afa (m|||((iS.getD e.on 0)|||(1<<<e.on))) else afb) else afa m
  |none=>afb
def ud (iS:List Nat):Nat->List Nat->List Oper->Bool
 |_,[],[]=>afc
 |j,m::ms,o::os=>(match mF iS j o.after.toList with|some m'=>m==m'|none=>afd)&&ud iS (j+1) ms os
 |_,_,_=>afd
def ug (i : Nat) (x : bM) (ux : List Nat) : List bM -> List Nat -> Bool
  | [], _ => afc
  | y :: ys, m :: ms => (bit m i || ((match x.dst with
      | some d => !has (aD y) d && (match y.dst with | some d' => !(Do d d') | none => afc)
      | none => afc) && (match y.dst with | some d => !has ux d | none => afc))) && ug i x ux ys ms
  | _ :: _, [] => afd
def uh:Nat->List bM->List Nat->Bool
 |_,[],_=>afc
 |i,x::xs,_::ms=>ug i x (aD x) xs ms&&uh (i+1) xs ms
 |_,_::_,[]=>afd
def BO (P:Program) (prims:FuncId->Bool) (nt:Nat) (draw:Option (List Nat)) (aaj:List bM) (iz:Array Oper) (flag:Bool):Bool:=
 ua P prims nt iz aaj iz.toList&&match draw with
 |none=>!flag
 |some bf=>flag&&Do (af6 bf) (af6 aaj)&&ud bf 0 bf iz.toList&&uh 0 aaj bf
section
variable {P : Program} {F : lM} {rec : Task -> Option Out} {ops : List bM} {S : Nat -> St} {X : Nat -> Option XR} {wD : Nat -> Nat -> Prop} {im0 : Im} {loc0 : Loc} {w0 : World} {nt : Nat}
  {done : Nat -> Prop} {im : Im} {loc : Loc} {a : Act} {w : World} {i : Nat} {prims : FuncId -> Bool} {iz : Array Oper}
theorem Ord.text:Ord ops S X (· < ·) where
 D8:=fun _ _ _ _ _ h _ _ _ _=>h
 QZ:=fun _ _ _ _ _ h _ _ _ _=>h
 LX:=fun _ _ _ h _ _ _=>h
 aab:=fun _ _ _ h _ _ _=>h
 aac:=fun _ _ _ h _ _ _ _ _ _=>h
 Jj:=fun _ _ h _ _=>h
 cl:=fun _ _ _ _ _=> .inr fun _ h _=>h
theorem Eb (hE:H5 P F rec) (hr:w9 F rec ops S X) (hc: ∀(i:Nat) (x:bM) (o:Oper),ops[i]? =afa x->iz[i]? =afa o->qf P prims nt iz x o=afc) (cO:(af6 ops)=iz.size)
 {Q:Exit->Act->World->Prop} (hQ: ∀im loc a w,Inv ops S X im0 loc0 w0 nt (fun i=>i<af6 ops) im loc a w->Q .normal a w):
 ∀(d n:Nat) (im:Im) (loc:Loc) (a:Act) (w:World),n+d=af6 ops->Inv ops S X im0 loc0 w0 nt (fun i=>i<n) im loc a w->wpOps P iz Q (List.range' n d) a w
 |0,n,im,loc,a,w,hn,hv=>by
  have:n=(af6 ops):=by omega
  subst this;exact hQ im loc a w hv
 |d+1,n,im,loc,a,w,hn,hv=>by
  rw [List.range'_succ,wpOps_cons];have hx:=ww (show n<(af6 ops) by omega);have ho:=aet (show n<iz.size by omega);refine Inv.wpOp hE hr Ord.text hv {lt:=by omega,nd:=by omega,pre:=fun j _ h=>h,ez:=fun k _ h1 j _ h2=>by omega} hx ho (hc n _ _ hx ho) fun dX bj a' w' h'=>?_
  refine Eb hE hr hc cO hQ d (n+1) dX bj a' w' (by omega) ?_;have e:plus (fun i=>i<n) n=fun i=>i<n+1:=by
   funext j;unfold plus;apply propext;omega
  rw [e] at h';exact h'
def Ur (iS:List Nat) (i j:Nat):Prop:=bit (iS.getD j 0) i=afc
theorem uY {iS:List Nat} {j:Nat}: ∀{es:List Edge} {m:Nat},mF iS j es=afa m->(∀e∈es,Region.binds .any e=afc->e.on<j)/\
 ∀i,bit m i=afc-> ∃e∈es,Region.binds .any e=afc/\(e.on=i\/bit (iS.getD e.on 0) i=afc)
 | [],m,h=>by simp only [mF,AC] at h;subst h;exact ⟨fun e h=>(by cases h),fun i h=>by simp [bit] at h⟩
 |e::es,m,h=>by
  simp only [mF] at h;split at h
  · rename_i m' BM
    obtain ⟨h1,h2⟩:=uY BM;split at h
    · rename_i hb
      split at h
      · rename_i dz
        injection h with h;subst h;refine ⟨fun e' Bq Ai=>?_,fun i hi=>?_⟩
        · rcases ae7.1 Bq with rfl|Bq
          · simpa using dz
          exact h1 e' Bq Ai
        simp only [bit,Nat.testBit_or,aeB] at hi
        rcases hi with hi|hi|hi
        · obtain ⟨e',Bq,h3⟩:=h2 i hi
          exact ⟨e',aeb _ Bq,h3⟩
        · exact ⟨e,by simp,hb,.inr hi⟩
        refine ⟨e,by simp,hb,.inl ?_⟩
        rw [Nat.one_shiftLeft,Nat.testBit_two_pow] at hi;simpa using hi
      cases h
    rename_i hb
    injection h with h;subst h;refine ⟨fun e' Bq Ai=>?_,fun i hi=>?_⟩
    · rcases ae7.1 Bq with rfl|Bq
      · exact absurd Ai hb
      exact h1 e' Bq Ai
    obtain ⟨e',Bq,h3⟩:=h2 i hi
    exact ⟨e',aeb _ Bq,h3⟩
  cases h
theorem CI {iS:List Nat}: ∀{j:Nat} {ms:List Nat} {os:List Oper},ud iS j ms os=afc->af6 ms=af6 os/\
 ∀(k:Nat) (m:Nat) (o:Oper),ms[k]? =afa m->os[k]? =afa o->mF iS (j+k) o.after.toList=afa m
 |j,[],[],_=>⟨rfl,fun k m o h=>by simp at h⟩
 |j,m::ms,o::os,h=>by
  simp only [ud,v6] at h;obtain ⟨h1,h2⟩:=h;obtain ⟨h3,h4⟩:=CI h2;refine ⟨by simp [h3],fun k m' o' hm ho=>?_⟩;cases k with
  |zero=>
   simp at hm ho;subst hm ho;split at h1
   · rename_i m2 LQ
     have:m=m2:=by simpa using h1
     subst this;exact LQ
   cases h1
  |succ k=>have:=h4 k m' o' (by simpa using hm) (by simpa using ho);rw [show j+(k+1)=j+1+k by omega];exact this
 |j,[],_::_,h=>by simp [ud] at h
 |j,_::_,[],h=>by simp [ud] at h
theorem AI {i:Nat} {x:bM} {ux:List Nat}: ∀{ys:List bM} {ms:List Nat},ug i x ux ys ms=afc-> ∀(k:Nat) (y:bM),ys[k]? =afa y->
 bit (ms.getD k 0) i=afc\/((∀d,x.dst=afa d->d∉aD y/\y.dst≠afa d)/\ ∀d,y.dst=afa d->d∉ux)
 | [],_,_,k,y,h=>by simp at h
 |z::ys,[],h,k,y,hy=>by simp [ug] at h
 |z::ys,m::ms,h,k,y,hy=>by
  simp only [ug,v6,aeB] at h;obtain ⟨h1,h2⟩:=h;cases k with
  |succ k=>simpa using AI h2 k y (by simpa using hy)
  |zero=>
   simp at hy;subst hy;rcases h1 with h1|⟨h1,h3⟩
   · exact .inl (by simpa using h1)
   refine .inr ⟨fun d hd=>?_,fun d hd=>?_⟩
   · rw [hd] at h1
     simp only [v6,aah] at h1;refine ⟨jh.1 h1.1,fun hz=>?_⟩;rw [hz] at h1;simp at h1
   rw [hd] at h3
   simp only [aah] at h3;exact jh.1 h3
theorem xb: ∀{i0:Nat} {xs:List bM} {ms:List Nat},uh i0 xs ms=afc-> ∀(i j:Nat) (x y:bM),i<j->xs[i]? =afa x->xs[j]? =afa y->
 bit (ms.getD j 0) (i0+i)=afc\/((∀d,x.dst=afa d->d∉aD y/\y.dst≠afa d)/\ ∀d,y.dst=afa d->d∉aD x)
 |i0,[],_,_,i,j,x,y,_,hx,_=>by simp at hx
 |i0,z::xs,[],h,i,j,x,y,_,hx,_=>by simp [uh] at h
 |i0,z::xs,m::ms,h,i,j,x,y,kL,hx,hy=>by
  simp only [uh,v6] at h;obtain ⟨h1,h2⟩:=h;cases j with
  |zero=>omega
  |succ j=>
   cases i with
   |zero=>simp at hx;subst hx;simpa using AI h1 j y (by simpa using hy)
   |succ i=>have:=xb h2 i j x y (by omega) (by simpa using hx) (by simpa using hy);rw [show i0+(i+1)=i0+1+i by omega];simpa using this
theorem GD {i:Nat} {t:Tr}: ∀{l:List (Tr×Nat)},HE i t l=afc-> ∀(k:Nat) (b:Tr) (m:Nat),l[k]? =afa (b,m)->t.tM b=afc->bit m i=afc
 | [],_,k,b,m,h,_=>by simp at h
 |(b',m')::r,h,k,b,m,hk,hc=>by
  simp only [HE,v6,aeB,aah] at h;cases k with
  |zero=>
   simp at hk;obtain ⟨rfl,rfl⟩:=hk;rcases h.1 with h1|h1
   · rw [hc] at h1;cases h1
   exact h1
  |succ k=>exact GD h.2 k b m (by simpa using hk) hc
theorem Ec: ∀{i0:Nat} {l:List (Tr×Nat)},qc i0 l=afc->(∀(i:Nat) (t:Tr) (m:Nat),l[i]? =afa (t,m)->t.cl=afc)/\
 ∀(i j:Nat) (t b:Tr) (m m':Nat),i<j->l[i]? =afa (t,m)->l[j]? =afa (b,m')->t.tM b=afc->bit m' (i0+i)=afc
 |_,[],_=>⟨fun i t m h=>by simp at h,fun i j t b m m' _ h=>by simp at h⟩
 |i0,(t0,m0)::r,h=>by
  simp only [qc,v6] at h;obtain ⟨⟨h1,h2⟩,h3⟩:=h;obtain ⟨h4,h5⟩:=Ec h3;refine ⟨fun i t m hi=>?_,fun i j t b m m' kL hi hj hc=>?_⟩
  · cases i with
    |zero=>simp at hi;obtain ⟨rfl,rfl⟩:=hi;exact h1
    |succ i=>exact h4 i t m (by simpa using hi)
  cases j with
  |zero=>omega
  |succ j=>
   cases i with
   |zero=>simp at hi;obtain ⟨rfl,rfl⟩:=hi;exact GD h2 j b m' (by simpa using hj) hc
   |succ i=>rw [show i0+(i+1)=i0+1+i by omega];exact h5 i j t b m m' (by omega) (by simpa using hi) (by simpa using hj) hc
theorem Ed {l m:List Nat} {t:Nat} (h1:t∈l) (h2:t∈m):meets l m=afc:=by unfold meets;rw [aeR];exact ⟨t,h1,oK.2 h2⟩
theorem Ord.drawn (hr : w9 F rec ops S X) {iS : List Nat} (Ja : (af6 iS) = (af6 ops)) (hs : uh 0 ops iS = afc) (ho : qc 0 ((yT S X (af6 ops)).zip iS) = afc) : Ord ops S X (Ur iS) := by
  obtain ⟨Aj, hcz⟩ := Ec ho
  have C7 : ∀ i, i < (af6 ops) -> ((yT S X (af6 ops)).zip iS)[i]? = afa (yN (X i) (S i), iS.getD i 0) := by
    intro i hi
    rw [List.getElem?_zip_eq_some]
    refine ⟨?_, ?_⟩
    · unfold yT; simp [hi]
    rw [aer, ww (by omega)]; rfl
  have tM : ∀ i j, i < j -> j < (af6 ops) -> (yN (X i) (S i)).tM (yN (X j) (S j)) = afc -> Ur iS i j := by
    intro i j kL hj hc
    have := hcz i j _ _ _ _ kL (C7 i (by omega)) (C7 j hj) hc
    unfold Ur; simpa using this
  have tch : ∀ j, gD X j -> (yN (X j) (S j)).gD = afc := by
    intro j h
    unfold gD at h
    unfold yN
    cases hX : X j with
    | none => rw [hX] at h; exact h.elim
    | some x =>
      rw [hX] at h
      cases x with
      | shr v s z => rfl
      | loc r =>
        simp only [XR.tr, Tr.gD, Bool.or_false]
        rcases h with h | h | h | h
        · cases F3 : r.rd with
          | nil => exact absurd F3 h
          | cons _ _ => simp
        · cases F3 : r.fr with
          | nil => exact absurd F3 h
          | cons _ _ => simp
        · cases F3 : r.wr with
          | nil => exact absurd F3 h
          | cons _ _ => simp
        cases F3 : r.news with
        | nil => exact absurd F3 h
        | cons _ _ => simp
  have brr : ∀ j, p5 X j -> (yN (X j) (S j)).Jj = afc := by
    rintro j ⟨v, s, z, h⟩; rw [h]; rfl
  have tW : ∀ j t, W X j t -> gD X j := fun j t h => uW h
  have tA : ∀ j t, A X j t -> gD X j := by
    intro j t h
    unfold A at h; unfold gD
    cases hX : X j with
    | none => rw [hX] at h; exact h.elim
    | some x =>
      rw [hX] at h
      cases x with
      | shr v s z => exact h.elim
      | loc r =>
        rcases h with h | h
        · exact .inl (by intro e; rw [e] at h; cases h)
        exact .inr (.inl (by intro e; rw [e] at h; cases h))
  have Jj : ∀ i j, i < j -> j < (af6 ops) -> (p5 X i /\ gD X j \/ gD X i /\ p5 X j) -> Ur iS i j := by
    intro i j kL hj h
    refine tM i j kL hj ?_
    unfold Tr.tM
    rcases h with ⟨h1, h2⟩ | ⟨h1, h2⟩
    · rw [brr i h1, tch j h2]; simp
    rw [brr j h2, tch i h1]; simp
  have wrT : ∀ j t, W X j t -> ¬ p5 X j -> t ∈ (yN (X j) (S j)).wr := by
    intro j t h hn
    unfold W at h
    cases hX : X j with
    | none => rw [hX] at h; exact h.elim
    | some x =>
      rw [hX] at h
      cases x with
      | shr v s z => exact absurd ⟨v, s, z, hX⟩ hn
      | loc r =>
        obtain ⟨k, hk⟩ := h
        exact List.mem_map.2 ⟨(t, k), hk, rfl⟩
  have rdT : ∀ j t, A X j t -> t ∈ (yN (X j) (S j)).rd := by
    intro j t h
    unfold A at h
    cases hX : X j with
    | none => rw [hX] at h; exact h.elim
    | some x =>
      rw [hX] at h
      cases x with
      | shr v s z => exact h.elim
      | loc r => exact aax.2 h
  exact {
    D8 := fun i j t x y kL hx hy hd hu => by
      rcases xb hs i j x y kL hx hy with h | ⟨h, _⟩
      · unfold Ur; simpa using h
      rcases hu with hu | hu
      · exact absurd hu (h t hd).1
      exact absurd hu (h t hd).2
    QZ := fun i j t x y kL hx hy hd hu => by
      rcases xb hs i j x y kL hx hy with h | ⟨_, h⟩
      · unfold Ur; simpa using h
      exact absurd hu (h t hd)
    LX := fun i j t kL hj hW hAW => by
      by_cases hi : p5 X i
      · exact Jj i j kL hj (.inl ⟨hi, hAW.elim (tA j t) (tW j t)⟩)
      by_cases O3 : p5 X j
      · exact Jj i j kL hj (.inr ⟨tW i t hW, O3⟩)
      refine tM i j kL hj ?_
      unfold Tr.tM
      rcases hAW with h | h
      · rw [Ed (wrT i t hW hi) (rdT j t h)]; simp
      rw [Ed (wrT i t hW hi) (wrT j t h O3)]; simp
    aab := fun i j t kL hj hA hW => by
      by_cases O3 : p5 X j
      · exact Jj i j kL hj (.inr ⟨tA i t hA, O3⟩)
      refine tM i j kL hj ?_
      unfold Tr.tM
      rw [Ed (rdT i t hA) (wrT j t hW O3)]; simp
    aac := fun i j t kL hj Uj h1 h2 O3 hW => by
      refine tM i j kL hj ?_
      unfold Tr.tM
      have : ((yN (X j) (S j)).wr.any fun t => aaB (yN (X i) (S i)).lo t && ae8 t (yN (X i) (S i)).hi) = afc := by
        rw [aeR]
        refine ⟨t, wrT j t hW O3, ?_⟩
        rcases hr.steps i _ (ww (show i < (af6 ops) by omega)) with ⟨_, x, hx, _, hX, hn⟩ | ⟨_, hX, hn⟩
        · cases x with
          | shr v s z => exact absurd ⟨v, s, z, hX⟩ Uj
          | loc r =>
            rw [hn, uX] at h2
            rw [hX]
            simp only [yN, XR.tr, v6, ae6]
            exact ⟨h1, by simpa using h2⟩
        rw [hn] at h2; dsimp only at h2; omega
      rw [this]; simp
    Jj := Jj
    cl := fun i t hi Uj hAW => by
      left
      have hc := Aj i _ _ (C7 i hi)
      cases hX : X i with
      | none => rcases hAW with h | h
                · unfold A at h; rw [hX] at h; exact h.elim
                unfold W at h; rw [hX] at h; exact h.elim
      | some x =>
        cases x with
        | shr v s z => exact absurd ⟨v, s, z, hX⟩ Uj
        | loc r =>
          have hb : ∀ u v : Nat, ae8 u v = afc -> u < v := fun u v h => by simpa using h
          rw [hX] at hc
          simp only [yN, XR.tr, v6, aaG] at hc
          rcases hAW with h | h
          · unfold A at h; rw [hX] at h
            exact hb _ _ (hc.1 t (aax.2 h))
          unfold W at h; rw [hX] at h
          obtain ⟨k, hk⟩ := h
          exact hb _ _ (hc.2 (t, k) hk) }
end
end Go.Vm
/- A region: the theorem. -/
namespace Go.Vm
section
variable {P : Program} {F : lM} {rec : Task -> Option Out} {ops : List bM} {S : Nat -> St} {X : Nat -> Option XR} {im0 : Im} {loc0 : Loc} {w0 : World} {nt : Nat}
  {im : Im} {loc : Loc} {a : Act} {w : World} {i : Nat} {prims : FuncId -> Bool} {iz : Array Oper} {iS : List Nat}
def jF (l:Array Bool) (i:Nat):Prop:=l.getD i afd=afc
theorem JN (hE:H5 P F rec) (hr:w9 F rec ops S X) (ho:Ord ops S X (Ur iS)) (hc: ∀(i:Nat) (x:bM) (o:Oper),ops[i]? =afa x->iz[i]? =afa o->qf P prims nt iz x o=afc) (cO:(af6 ops)=iz.size)
 (hm: ∀(k:Nat) (o:Oper),iz[k]? =afa o->mF iS k o.after.toList=afa (iS.getD k 0))
 {Q:Exit->Act->World->Prop} (hQ: ∀im loc a w (done:Nat->Prop),(∀i,i<af6 ops->done i)->Inv ops S X im0 loc0 w0 nt done im loc a w->Q .normal a w):
 ∀(zC:Nat) (l:Array Bool) (im:Im) (loc:Loc) (a:Act) (w:World),l.size=af6 ops->zC+l.toList.count afc=af6 ops->(∀k j,jF l k->Ur iS j k->jF l j)->
  Inv ops S X im0 loc0 w0 nt (jF l) im loc a w->wpAny P .any iz Q zC l a w:=by
 have full: ∀l:Array Bool,l.size=af6 ops->Region.ready .any iz l=[]-> ∀i,i<af6 ops->jF l i:=by
  intro l hl F8 i
  induction i using Nat.strongRecOn with
  |_ i ih=>
   intro hi
   by_cases h:jF l i
   · exact h
   exfalso
   have Aw:i∈Region.ready .any iz l:=by
    rw [mem_ready];have ho:=aet (show i<iz.size by omega);refine ⟨?_,_,ho,fun e he hb=>?_⟩
    · unfold jF at h
      have dz:i<l.size:=by omega
      simp [dz] at h ⊢;exact h
    have:=(uY (hm i _ ho)).1 e (by simpa using he) hb
    exact ih e.on this (by omega)
   rw [F8] at Aw;cases Aw
 intro zC
 induction zC with
 |zero=>
  intro l im loc a w hl afx Us hv;have qe: ∀b∈l.toList,afc=b:=by
   have:l.toList.count afc=(af6 l.toList):=by simp only [Array.length_toList];omega
   exact List.count_eq_length.1 this
  have NI: ∀i,i<af6 ops->jF l i:=by
   intro i hi;have dz:i<l.size:=by omega
   have:=qe (l[i]) (by simp);unfold jF;simp [dz,<- this]
  refine ⟨?_,hQ im loc a w _ NI hv⟩;cases F3:Region.ready .any iz l with
  |nil=>rfl
  |cons x xs=>
   exfalso;have Aw:x∈Region.ready .any iz l:=by rw [F3];simp
   obtain ⟨h0,o,hox,_⟩:=mem_ready.1 Aw;have dz:=(UV.1 hox).1;have:=NI x (by omega);unfold jF at this;have JO:x<l.size:=by omega
   simp [JO] at this h0;rw [this] at h0;cases h0
 |succ zC ih=>
  intro l im loc a w hl afx Us hv;refine ⟨fun F8=>hQ im loc a w _ (full l hl F8) hv,fun i hi=>?_⟩;obtain ⟨h0,o,hox,qe⟩:=mem_ready.1 hi;have dz:=(UV.1 hox).1;have JO:i<l.size:=by omega
  have hx:=ww (show i<(af6 ops) by omega);have afy: ∀j,Ur iS j i->jF l j:=by
   intro j hj;obtain ⟨e,he,hb,h⟩:=(uY (hm i o hox)).2 j hj;have kI:jF l e.on:=qe e (by simpa using he) hb;rcases h with rfl|h
   · exact kI
   exact Us _ _ kI h
  have FY: ¬jF l i:=by unfold jF;simp [JO] at h0 ⊢;exact h0
  refine Inv.wpOp hE hr ho hv {lt:=by omega,nd:=FY,pre:=fun j _ h=>afy j h,ez:=fun k _ h1 j _ h2=>Us k j h1 h2} hx hox (hc i _ _ hx hox) fun dX bj a' w' h'=>?_
  have e:plus (jF l) i=jF (l.setIfInBounds i afc):=by
   funext j
   apply propext;unfold plus jF
   by_cases kL:i=j
   · subst kL;simp [JO]
   simp only [getD_set_ne afd kL]
   exact ⟨fun h=>h.elim id fun h=>absurd h.symm kL,.inl⟩
  rw [e] at h';refine ih _ dX bj a' w' (by simpa using hl) ?_ ?_ h'
  · rw [Array.toList_setIfInBounds,List.count_set (by simpa using JO)]
    have:l.toList[i]=afd:=by simp [JO] at h0;simpa using h0
    rw [this];simp only [Array.count_toList] at afx ⊢;simp;omega
  intro k j hk hj
  rw [<- e] at hk ⊢;rcases hk with hk|rfl
  · exact .inl (Us k j hk hj)
  exact .inl (afy j hj)
theorem ER.ft {st:Env} {ft:List Nat} (h:ER im loc st a.tmps):ER im loc (ft.map fun s=>(s,lk s st)) a.tmps:=by
 intro t;have:lk t (ft.map fun s=>(s,lk s st))=lk t st\/lk t (ft.map fun s=>(s,lk s st))= .undef:=by
  induction ft with
  |nil=>exact .inr rfl
  |cons s r ih=>
   simp only [List.map_cons,qd];split
   · rename_i e;subst e;exact .inl rfl
   exact ih
 rcases this with h'|h'
 · rw [h'];exact h t
 rw [h'];exact .undef _
structure we (im:Im) (loc:Loc) (nt:Nat) (st:St) (a:Act):Prop where
 env:ER im loc st.env a.tmps
 defers:a.defers=[]
 Lw:a.tmps.size=nt
theorem Kept.world {iI : cw} {st : St} {w1 : World} (h : Kept im0 loc0 iI w1 st im loc w) (hh : w1.heap = w0.heap) (ho : w1.os = w0.os) (ht : Tape w0 w1) (hp : w1.output = w0.output) : Kept im0 loc0 iI w0 st im loc w :=
  { sr := h.sr, gn := h.gn, dI := h.dI, os := h.os.trans ho, tape := h.tape.trans ht, output := h.output.trans hp, size := by have := h.size; rw [hh] at this; exact this
    frame := by have := h.frame; rw [hh] at this; exact this
    dM := by have := h.dM; rw [hh] at this; exact this
    mP := h.mP
    own := by have := h.own; rw [hh] at this; exact this }
theorem SR.world {ax:cw} {fz:List Nat} {w1:World} (h:SR im loc ax fz w) (hh:w1.heap=w.heap):SR im loc ax fz w1 where
 bB:=by rw [hh];exact h.bB
 c6:=fun t li hl=>let ⟨k,h1,h2⟩:=h.c6 t li hl;⟨k,h1,h2.mono (.refl _) (.refl _) (by rw [hh])⟩
 iq:=h.iq
 free:=h.free
theorem LZ (hE:H5 P F rec) (pk:P.follows .mixedOrders=afc) {draw:Option (List Nat)} {ft:List Nat} {id:Nat} {flag:Bool} {st j7:St}
 (hc:BO P prims nt draw ops iz flag=afc) (gx:kG F rec draw ops ft st=afa j7) (jS:SR im0 loc0 st.ax st.fz w0) (ha:we im0 loc0 nt st a) {Q:Exit->Act->World->Prop}
 (hQ: ∀im loc a' w',Kept im0 loc0 st.ax w0 j7 im loc w'->we im loc nt j7 a'->Q .normal a' w'):(Code.region id iz flag).wp P Q a w0:=by
 unfold BO at hc;simp only [v6] at hc;obtain ⟨O6,hd⟩:=hc;obtain ⟨cO,Ut⟩:=AH O6;have cO:(af6 ops)=iz.size:=by simpa using cO
 have Ut: ∀(i:Nat) (x:bM) (o:Oper),ops[i]? =afa x->iz[i]? =afa o->qf P prims nt iz x o=afc:=fun i x o hx ho=>Ut i x o hx (by simpa using ho)
 unfold kG at gx;cases he:lN F rec ops st [] with
 |none=>rw [he] at gx;cases gx
 |some q=>
  obtain ⟨mW,tr⟩:=q;rw [he] at gx;dsimp only at gx;obtain ⟨S,X,h0,hn,hr,htr⟩:=BL ops st [] mW tr he;have fin: ∀(w1:World),w1.heap=w0.heap->w1.os=w0.os->Tape w0 w1->w1.output=w0.output->j7={mW with env:=ft.map fun s=>(s,lk s mW.env)}-> ∀im loc a' w' (done:Nat->Prop),(∀i,i<af6 ops->done i)->
   Inv ops S X im0 loc0 w1 nt done im loc a' w'->Q .normal a' w':=by
   intro w1 q1 q2 q3 q4 bW im loc a' w' done hdn hv;obtain ⟨hk,her,hdf,hns⟩:=hv.finish hr hdn;rw [hn] at hk her;rw [h0] at hk;subst bW;have hk:=hk.world q1 q2 q3 q4;exact hQ im loc a' w' {sr:=hk.sr,gn:=hk.gn,dI:=hk.dI,os:=hk.os,tape:=hk.tape,output:=hk.output,size:=hk.size,frame:=hk.frame,dM:=hk.dM,mP:=hk.mP,own:=hk.own} ⟨her.ft,hdf,hns⟩
  cases draw with
  |none=>
   dsimp only at hd gx;have:flag=afd:=by simpa using hd
   subst this;injection gx with gx;refine wp_region ?_;rw [List.range_eq_range'];refine Eb hE hr Ut cO (fun im loc a w hv=>fin w0 rfl rfl (.refl _) rfl gx.symm im loc a w _ (fun i h=>h) hv) iz.size 0 im0 loc0 a w0 (by omega) ?_;have:=Inv.start (ops:=ops) (X:=X) (w0:=w0) h0 jS ha.env ha.defers ha.Lw hr;have e:(fun _:Nat=>False)=fun i=>i<0:=by funext i;apply propext;exact ⟨fun h=>h.elim,fun h=>by omega⟩
   rw [e] at this;exact this
  |some bf=>
   dsimp only at hd gx;simp only [v6] at hd;obtain ⟨⟨⟨rfl,hbl⟩,hmk⟩,TS⟩:=hd;have hbl:(af6 bf)=(af6 ops):=by simpa using hbl
   split at gx
   · rename_i Qq
     injection gx with gx;have ai1:tr.reverse=yT S X (af6 ops):=by rw [htr];simp
     rw [ai1] at Qq;obtain ⟨_,hmk⟩:=CI hmk;refine wp_region_any pk ?_;refine JN (w0:={w0 with drawn:=w0.drawn+1}) (im0:=im0) (loc0:=loc0) hE hr (Ord.drawn hr hbl TS Qq) Ut cO ?_ (fun im loc a w done hdn hv=>fin {w0 with drawn:=w0.drawn+1} rfl rfl ⟨rfl,Nat.le_succ _⟩ rfl gx.symm im loc a w done hdn hv) iz.size _ im0 loc0 a _ (by simp [cO]) ?_ ?_ ?_
     · intro k o ho
       have dz:=(UV.1 ho).1;have hk:bf[k]? =afa (bf.getD k 0):=by rw [aer,ww (by omega)];rfl
       simpa using hmk k _ o hk (by simpa using ho)
     · simp [cO,List.count_replicate]
     · intro k j h
       unfold jF at h
       by_cases hk:k<iz.size<;>simp [hk] at h
     have:=Inv.start (ops:=ops) (X:=X) (w0:={w0 with drawn:=w0.drawn+1}) h0 (jS.world rfl) ha.env ha.defers ha.Lw hr
     have e:(fun _:Nat=>False)=jF (ad2 iz.size afd):=by
      funext i;apply propext
      unfold jF
      by_cases hk:i<iz.size<;>simp [hk]
     rw [e] at this;exact this
   cases gx
end
end Go.Vm
/- What a function keeps from its beginning on; the head of a loop. -/
namespace Go.Vm
theorem Kept.trans {im0 Dr Ds:Im} {loc0 db pR:Loc} {iI:cw} {w0 w1 w2:World} {mW uJ:St} (h1:Kept im0 loc0 iI w0 mW Dr db w1) (h2:Kept Dr db mW.ax w1 uJ Ds pR w2) (hl:(af6 iI)<=af6 mW.ax):
 Kept im0 loc0 iI w0 uJ Ds pR w2 where
 sr:=h2.sr
 gn:=h1.gn.trans h2.gn
 dI:=h1.dI.trans h2.dI
 os:=h2.os.trans h1.os
 tape:=h2.tape.trans h1.tape
 output:=h2.output.trans h1.output
 size:=aav h1.size h2.size
 frame:=fun b hb hh=>by
  rw [h2.frame b (ad8 hb h1.size) fun t li k hl hs lr Qp=>?_]
  · exact h1.frame b hb hh
  rcases h1.own t li k hl hs lr with h|⟨u,lu,ku,g1,g2,g3,g4⟩
  · omega
  exact hh u lu ku g1 g2 g3 (by omega)
 dM:=fun b o hb=>by
  rcases h2.dM b o hb with h|h|⟨t,li,k,g1,g2,g3,g4⟩
  · exact h1.dM b o h
  · exact .inr (.inl (aav h1.size h))
  rcases h1.own t li k g1 g2 g3 with h|⟨u,lu,ku,k1,k2,k3,k4⟩
  · exact .inr (.inl (by omega))
  exact .inr (.inr ⟨u,lu,ku,k1,k2,k3,by omega⟩)
 mP:=fun t li h=>by
  rcases h2.mP t li h with h|h
  · exact h1.mP t li h
  exact .inr (aav hl h)
 own:=fun t li k hl hs lr=>by
  rcases h2.own t li k hl hs lr with h|⟨u,lu,ku,g1,g2,g3,g4⟩
  · exact .inl (aav h1.size h)
  rcases h1.own u lu ku g1 g2 g3 with h|⟨u',lu',ku',k1,k2,k3,k4⟩
  · exact .inl (by omega)
  exact .inr ⟨u',lu',ku',k1,k2,k3,by omega⟩
structure yU (im0:Im) (loc0:Loc) (iI:cw) (w0:World) (st:St) (im:Im) (loc:Loc) (w:World):Prop where
 kept:Kept im0 loc0 iI w0 st im loc w
 kn:st.kn=af6 iI
 len:(af6 iI)<=af6 st.ax
 dom: ∀t li,loc0 t=afa li->t<af6 iI
theorem Ee {F:lM} {rec:Task->Option Out}: ∀(ops:List bM) (st:St) (tr:List Tr) (j7:St) (O4:List Tr),lN F rec ops st tr=afa (j7,O4)->j7.kn=st.kn
 | [],st,tr,j7,O4,h=>by simp only [lN,AC,NE] at h;rw [h.1]
 |o::l,st,tr,j7,O4,h=>by
  simp only [lN] at h;split at h
  · split at h
    · rename_i x hx
      split at h
      · have:=Ee l _ _ j7 O4 h
        rw [this];cases x<;>rfl
      cases h
    cases h
  · have:=Ee l _ _ j7 O4 h
    exact this
  cases h
theorem H6 {F:lM} {rec:Task->Option Out} {draw:Option (List Nat)} {ops:List bM} {ft:List Nat} {st j7:St} (h:kG F rec draw ops ft st=afa j7):j7.kn=st.kn/\af6 st.ax<=(af6 j7.ax):=by
 unfold kG at h;cases he:lN F rec ops st [] with
 |none=>rw [he] at h;cases h
 |some q=>
  obtain ⟨mW,tr⟩:=q;rw [he] at h;dsimp only at h;obtain ⟨S,X,h0,hn,hr,_⟩:=BL ops st [] mW tr he;have h1:=Ee ops st [] mW tr he;have h2:=hr.gY (aaS (af6 ops)) (M2 _);rw [h0,hn] at h2;cases draw with
  |none=>dsimp only at h;injection h with h;subst h;exact ⟨h1,h2⟩
  |some bf=>
   dsimp only at h;split at h
   · injection h with h;subst h;exact ⟨h1,h2⟩
   cases h
section
variable {im : Im} {loc db : Loc} {m : List Nat}
theorem JP {fz:List Nat}: ∀{l:List Nat} {i0 u t:Nat},l[u]? =afa t->(i0+u)∉wP fz i0 l->t∉fz
 | [],i0,u,t,h,_=>by simp at h
 |s::r,i0,u,t,h,hn=>by
  simp only [wP] at hn;cases u with
  |zero=>simp at h;subst h;intro hf;rw [rc (oK.2 hf)] at hn;exact hn (by simp)
  |succ u=>
   refine JP (l:=r) (i0:=i0+1) (u:=u) (by simpa using h) fun Aw=>?_
   rw [show i0+(u+1)=i0+1+u by omega] at hn;split at hn
   · exact hn (aeb _ Aw)
   exact hn Aw
theorem Ef {ax:cw}: ∀{n:Nat} {ts seen:List Nat} {m:List Nat},reach ax n ts seen=afa m->(∃l,m=seen++l)/\(seen.Nodup->m.Nodup)
 |_,[],seen,m,h=>by
  have h:afa seen=afa m:=by rw [<- h];unfold reach;cases ‹Nat› <;>rfl
  injection h with h;subst h;exact ⟨⟨[],by simp⟩,id⟩
 |0,_::_,seen,m,h=>by simp [reach] at h
 |n+1,t::ts,seen,m,h=>by
  simp only [reach] at h;split at h
  · exact Ef h
  rename_i hn
  split at h
  · obtain ⟨⟨l,hl⟩,h2⟩:=Ef h
    refine ⟨⟨t::l,by rw [hl];simp⟩,fun hd=>h2 ?_⟩;rw [aeO];refine ⟨hd,by simp,fun a ha b hb=>?_⟩;have:b=t:=by simpa using hb
    subst this;intro e;subst e;exact hn (oK.2 ha)
  cases h
theorem JQ: ∀{n i:Nat},i<n->(tL n)[i]? =afa i
 |n+1,i,h=>by
  have hl: ∀n,(tL n).length=n:=by
   intro n;induction n with
   |zero=>rfl
   |succ n ih=>simp [tL,ih]
  simp only [tL];rcases aau i n with h'|h'
  · rw [If (by rw [hl];exact h')];exact JQ h'
  rw [PP (by rw [hl];exact h'),hl]
  have:i=n:=by omega
  subst this;simp
theorem JR: ∀{n i:Nat},i∈tL n->i<n
 |n+1,i,h=>by
  simp only [tL,aax,ac1] at h;rcases h with h|h
  · have:=JR h;omega
  omega
theorem Eg: ∀n,(tL n).Nodup
 |0=>by simp [tL]
 |n+1=>by
  simp only [tL];rw [aeO];refine ⟨Eg n,by simp,fun a ha b hb=>?_⟩;have:=JR ha;have:b=n:=by simpa using hb
  omega
end
end Go.Vm
/- The head of a loop. -/
namespace Go.Vm
def O7 (s2:cw):Prop:= ∀(j:Nat) (k:jx),s2[j]? =afa k-> ∃e,k= .arr e []
theorem VR.Gs {im:Im} {loc:Loc} {x:PV} {u:Value} (h:VR im loc x u): ∀k:Option Nat,VR im loc (Gs k x) u
 |none=>h
 |some _=>by
  cases h with
  |own t esz off len cap ex li a cP hl he hn hc hx hk h=>exact .own t esz off len cap afd li a cP hl he hn hc hx (fun h=>by cases h) h
  |undef=>exact .undef _
  |jd=>exact .jd
  |int k n=>exact .int k n
  |bool b=>exact .bool b
  |str s=>exact .str s
  |agg cs vs h=>exact .agg cs vs h
  |cy cs vs h=>exact .cy cs vs h
  |sl e c r a cap h1 h2 h3=>exact .sl e c r a cap h1 h2 h3
  |ptr t e r o li h1 h2 h3=>exact .ptr t e r o li h1 h2 h3
  |bD cs off b o vs h hv=>exact .bD cs off b o vs h hv
  |mp t li hl=>exact .mp t li hl
  |ez fn a b as bs ha hb=>exact .ez fn a b as bs ha hb
  |dH=>exact .dH
theorem zD {im:Im} {loc db:Loc} {m:List Nat} {e:Env} {tmps:Array Value} (hm:Ren m loc db) (he:ER im loc e tmps): ∀{live:List (Nat×Option Nat)} {nx:Nat} {e1:Env} {s2:cw},p7 e m nx live=afa (e1,s2)->
 O7 s2/\((∀(j:Nat) (esz:Nat),s2[j]? =afa (.arr esz [])->db (nx+j)=afa ⟨0,0,esz,0,0⟩)->ER im db e1 tmps)
 | [],nx,e1,s2,h=>by simp only [p7,AC,NE] at h;obtain ⟨rfl,rfl⟩:=h;exact ⟨fun j k h=>by simp at h,fun _ t=> .undef _⟩
 |(s,k)::r,nx,e1,s2,h=>by
  have hs:=he s;simp only [p7] at h;split at h
  · rename_i esz e' sW
    rw [IR] at h;obtain ⟨⟨e2,s3⟩,h1,h2⟩:=h;simp only [NE] at h2;obtain ⟨rfl,rfl⟩:=h2;obtain ⟨g1,g2⟩:=zD hm he h1;refine ⟨fun j k hj=>?_,fun hl t=>?_⟩
    · cases j with
      |zero=>simp at hj;exact ⟨_,hj.symm⟩
      |succ j=>exact g1 j k (by simpa using hj)
    rw [qd]
    split
    · rename_i e;subst e
      rw [sW] at hs;generalize hg:tmps.getD s Go.undef=v at hs;cases hs with
      |sl _ _ _ a cap h1 h2 h3=>
      have:cap=0:=by simpa using h2 rfl
      subst this;exact .own nx esz 0 0 0 afd ⟨0,0,esz,0,0⟩ a 0 (by simpa using hl 0 esz rfl) rfl (M2 _) (M2 _) (M2 _) (fun h=>by cases h) (.inl rfl)
    refine g2 (fun j ai2 hj=>?_) t
    have:=hl (j+1) ai2 (by simpa using hj);rw [show nx+1+j=nx+(j+1) by omega];exact this
  split at h
  · rename_i v' p h1 h2
    injection h with h;simp only [NE] at h;obtain ⟨rfl,rfl⟩:=h;obtain ⟨g1,g2⟩:=zD hm he (e1:=p.1) (s2:=p.2) h2;refine ⟨g1,fun hl t=>?_⟩;rw [qd];split
    · rename_i e;subst e
      exact (Qv hm hs h1).Gs _
    exact g2 hl t
  cases h
theorem eI.setAt {im:Im} {loc:Loc} {x:PV}: ∀{xs:List PV} {vs:List Value} {c:Nat} {y:PV},eI im loc xs vs->xs[c]? =afa y->(∀v,VR im loc y v->VR im loc x v)->eI im loc (xs.set c x) vs
 | [],_,c,y,h,hc,_=>by simp at hc
 |z::zs,vs,c,y,h,hc,hx=>by
  cases h with
  |cons _ v _ us g1 g2=>
   cases c with
   |zero=>simp at hc;subst hc;exact .cons _ _ _ _ (hx v g1) g2
   |succ c=>exact .cons _ _ _ _ g1 (eI.setAt g2 (by simpa using hc) hx)
theorem L0 {im0 im:Im} {loc0 loc:Loc} {iI:cw} {w0 w:World} {nt:Nat} {st:St} {a:Act} (t c esz:Nat) (hk:yU im0 loc0 iI w0 st im loc w) (ha:we im loc nt st a):
 ∃db,yU im0 loc0 iI w0 (p8 st t c esz) im db w/\we im db nt (p8 st t c esz) a:=by
 unfold p8;split
 · rename_i cs hb
   split
   · rename_i e hc
     have sr:=hk.kept.sr;have afA: ∀u li,loc u=afa li->u<(af6 st.ax):=fun u li h=>by obtain ⟨k,h1,_⟩:=sr.c6 u li h;exact cD h1
     have hn:loc (af6 st.ax)=afb:=by
      cases h:loc (af6 st.ax) with
      |none=>rfl
      |some li=>exact absurd (afA _ _ h) (Nat.lt_irrefl _)
     let db:Loc:=fun u=>if u=(af6 st.ax) then afa ⟨0,0,esz,0,0⟩ else loc u
     have kI:lH loc db:=fun u li h=>by have:=afA u li h;simp only [db,show u≠(af6 st.ax) by omega,if_false];exact h
     have back: ∀u li,db u=afa li->u≠af6 st.ax->loc u=afa li:=fun u li h hu=>by simpa only [db,hu,if_false] using h
     have L1:t<(af6 st.ax):=cD hb;have get: ∀u,u<af6 st.ax->(st.ax.set t (.box (cs.set c (.own (af6 st.ax) esz 0 0 0 afd)))++[.arr esz []])[u]? =if t=u then afa (.box (cs.set c (.own (af6 st.ax) esz 0 0 0 afd))) else st.ax[u]?:=fun u hu=>by
      rw [If (by simpa using hu),aeP];split
      · rename_i e;subst e;simp
      rfl
     have afB:(st.ax.set t (.box (cs.set c (.own (af6 st.ax) esz 0 0 0 afd)))++[.arr esz []])[af6 st.ax]? =afa (.arr esz []):=by rw [PP (by simp)];simp
     have bH: ∀(u:Nat) (k:jx),(st.ax.set t (.box (cs.set c (.own (af6 st.ax) esz 0 0 0 afd)))++[.arr esz []])[u]? =afa k->k.bH=afc->u≠af6 st.ax/\ ∃k0:jx,st.ax[u]? =afa k0/\k0.bH=afc:=by
      intro u k hu hs;have dz:=cD hu;simp only [ac2,aeT,List.length_singleton] at dz;have dK:u≠(af6 st.ax):=by intro e;subst e;rw [afB] at hu;injection hu with hu;subst hu;cases hs
      refine ⟨dK,?_⟩;rw [get u (by omega)] at hu;split at hu
      · rename_i e;subst e;exact ⟨_,hb,rfl⟩
      exact ⟨k,hu,hs⟩
     refine ⟨db,⟨⟨?_,hk.kept.gn,hk.kept.dI.trans kI,hk.kept.os,hk.kept.tape,hk.kept.output,hk.kept.size,hk.kept.frame,hk.kept.dM,fun u li h=>?_,fun u li k h hs lr=>?_⟩,hk.kn,?_,hk.dom⟩,⟨ha.env.mono (mY.refl _) kI,ha.defers,ha.Lw⟩⟩
     · refine {
        bB:=sr.bB
        c6:=fun u li hl=>?_
        iq:=fun u u' li lj k k' hl lL hs tR lr GA hbk=>?_
        free:=fun u li k hl hs lr hz=>?_}
       · by_cases hu:u=af6 st.ax
         · subst hu
           simp only [db,if_true] at hl;injection hl with hl;subst hl;exact ⟨_,afB,rfl,rfl,fun h=>absurd rfl h⟩
         have I9:=back u li hl hu
         obtain ⟨k,h1,h2⟩:=sr.c6 u li I9;show∃k,(st.ax.set t (.box (cs.set c (.own (af6 st.ax) esz 0 0 0 afd)))++[.arr esz []])[u]? =afa k/\BR im db w li k;rw [get u (cD h1)];split
         · rename_i et;subst et
           rw [hb] at h1;injection h1 with h1;subst h1;obtain ⟨g1,g2,g3,vs,el,g4,g5,g6⟩:=h2;refine ⟨_,rfl,by simpa using g1,g2,g3,vs,el,g4,g5,(g6.mono (mY.refl _) kI).setAt hc fun v hv=>?_⟩;cases hv with
           |sl _ _ _ a' cap h1 h2 h3=>
           have:cap=0:=by simpa using h2 rfl
           subst this;exact .own _ esz 0 0 0 afd ⟨0,0,esz,0,0⟩ a' 0 (by simp only [db,if_true]) rfl (M2 _) (M2 _) (M2 _) (fun h=>by cases h) (.inl rfl)
         exact ⟨k,h1,h2.mono (mY.refl _) kI rfl⟩
       · obtain ⟨n1,k0,g1,g2⟩:=bH u k hs lr
         obtain ⟨n2,k0',g1',Ze⟩:=bH u' k' tR GA;exact sr.iq u u' li lj k0 k0' (back _ _ hl n1) (back _ _ lL n2) g1 g1' g2 Ze hbk
       obtain ⟨n1,k0,g1,g2⟩:=bH u k hs lr
       exact sr.free u li k0 (back _ _ hl n1) g1 g2 hz
     · by_cases hu:u=af6 st.ax
       · right;have:=hk.len;omega
       exact hk.kept.mP u li (back u li h hu)
     · obtain ⟨n1,k0,g1,g2⟩:=bH u k hs lr
       exact hk.kept.own u li k0 (back _ _ h n1) g1 g2
     have:=hk.len
     show (af6 iI)<=(st.ax.set t (.box (cs.set c (.own (af6 st.ax) esz 0 0 0 afd)))++[jx.arr esz []]).length;simp only [ac2,aeT];omega
   exact ⟨loc,hk,ha⟩
 exact ⟨loc,hk,ha⟩
theorem pq {im0 im:Im} {loc0:Loc} {iI:cw} {w0 w:World} {nt:Nat} {a:Act}: ∀(live:List (Nat×Option Nat)) {st:St} {loc:Loc},yU im0 loc0 iI w0 st im loc w->we im loc nt st a->
 ∃db,yU im0 loc0 iI w0 (jQ live st) im db w/\we im db nt (jQ live st) a
 | [],st,loc,hk,ha=>⟨loc,hk,ha⟩
 |(s,k)::r,st,loc,hk,ha=>by
  simp only [jQ];split
  · split
    · split
      · rename_i t _
        obtain ⟨db,h1,h2⟩:=L0 t _ _ hk ha;exact pq r h1 h2
      exact pq r hk ha
    exact pq r hk ha
  exact pq r hk ha
theorem JS {im0 im:Im} {loc0 loc:Loc} {iI:cw} {w0 w:World} {nt:Nat} {live:List (Nat×Option Nat)} {st mW:St} {a:Act} (h:DK live st=afa mW) (hk:yU im0 loc0 iI w0 st im loc w) (ha:we im loc nt st a):
 ∃db,yU im0 loc0 iI w0 mW im db w/\we im db nt mW a:=by
 unfold DK at h;split at h
 · cases h
 rename_i m aak
 split at h
 · rename_i s1 e1 s2 hs1 hlv
   injection h with h;subst h;refine (fun hh: ∃db,yU im0 loc0 iI w0 {env:=e1,ax:=s1++s2,fz:=wP st.fz 0 m,kn:=st.kn} im db w/\we im db nt {env:=e1,ax:=s1++s2,fz:=wP st.fz 0 m,kn:=st.kn} a=>
    let ⟨_,g1,g2⟩:=hh;pq live g1 g2) ?_
   obtain ⟨⟨ml,Ja⟩,FY⟩:=Ef aak;have FY:=FY (Eg _);obtain ⟨Gw,C7⟩:=By hs1;have afC: ∀n,(tL n).length=n:=by
    intro n;induction n with
    |zero=>rfl
    |succ n ih=>simp [tL,ih]
   have hid: ∀t,t<st.kn->m[t]? =afa t:=by intro t ht;rw [Ja,If (by rw [afC];exact ht)];exact JQ ht
   have amj:st.kn<=(af6 m):=by rw [Ja];simp [afC]
   let db:Loc:=fun u=>if u<(af6 m) then (match m[u]? with|some t=>loc t|none=>afb) else match s2[u-(af6 m)]? with
    |some (.arr e [])=>afa ⟨0,0,e,0,0⟩
    |_=>afb
   have D6:Ren m loc db:=by intro u t hu;have:=cD hu;simp only [db,this,if_true,hu]
   obtain ⟨ai3,her⟩:=zD D6 ha.env hlv;have old: ∀u li,db u=afa li->u<af6 m-> ∃t,m[u]? =afa t/\loc t=afa li:=by intro u li hl hu;have e:=ww hu;rw [D6 u _ e] at hl;exact ⟨_,e,hl⟩
   have afD: ∀u,u<af6 m->(s1++s2)[u]? =s1[u]?:=fun u hu=>If (by rw [Gw];exact hu)
   have afE: ∀u,¬u<af6 m->(s1++s2)[u]? =s2[u-(af6 m)]?:=fun u hu=>by rw [PP (by rw [Gw];omega),Gw]
   have yh: ∀(u:Nat) (k:jx),(s1++s2)[u]? =afa k->k.bH=afc->u<(af6 m):=by
    intro u k hs lr;rcases aau u (af6 m) with h|h
    · exact h
    rw [afE u (by omega)] at hs
    obtain ⟨e,rfl⟩:=ai3 _ _ hs;cases lr
   have back: ∀(u:Nat) (k:jx),(s1++s2)[u]? =afa k-> ∀t,m[u]? =afa t-> ∃k0:jx,st.ax[t]? =afa k0/\k.bH=k0.bH:=by intro u k hs t ht;obtain ⟨k0,k',g1,g2,g3⟩:=C7 u t ht;rw [afD u (cD ht),g3] at hs;injection hs with hs;subst hs;exact ⟨k0,g1,Aq g2⟩
   have sr:=hk.kept.sr;have aam:SR im db (s1++s2) (wP st.fz 0 m) w:=by
    refine {
     bB:=sr.bB
     c6:=fun u li hl=>?_
     iq:=fun u u' li lj k k' hl lL hs tR lr GA hb=>?_
     free:=fun u li k hl hs lr hz=>?_}
    · by_cases hu:u<af6 m
      · obtain ⟨t,ht,dz⟩:=old u li hl hu
        obtain ⟨k0,h1,h2⟩:=sr.c6 t li dz;obtain ⟨k1,k',g1,g2,g3⟩:=C7 u t ht;rw [h1] at g1;injection g1 with g1;subst g1;exact ⟨k',by rw [afD u hu];exact g3,Gu D6 g2 h2⟩
      simp only [db,hu,if_false] at hl
      split at hl
      · rename_i e he
        injection hl with hl;subst hl;exact ⟨.arr e [],by rw [afE u hu];exact he,rfl,rfl,fun h=>absurd rfl h⟩
      cases hl
    · have hu:=yh u k hs lr
      have Bs:=yh u' k' tR GA;obtain ⟨t,ht,dz⟩:=old u li hl hu;obtain ⟨t',NJ,JO⟩:=old u' lj lL Bs;obtain ⟨k0,g1,g2⟩:=back u k hs t ht;obtain ⟨k0',g1',Ze⟩:=back u' k' tR t' NJ;have:=sr.iq t t' li lj k0 k0' dz JO g1 g1' (by rw [<- g2];exact lr) (by rw [<- Ze];exact GA) hb;subst this;have pw:=aes.1 FY;have e1:=(EQ.1 ht).2;have e2:=(EQ.1 NJ).2;rcases aal u u' with h|h|h
      · exact absurd (e1.trans e2.symm) (pw u u' hu Bs h)
      · exact h
      exact absurd (e2.trans e1.symm) (pw u' u Bs hu h)
    have hu:=yh u k hs lr
    obtain ⟨t,ht,dz⟩:=old u li hl hu;obtain ⟨k0,g1,g2⟩:=back u k hs t ht;refine sr.free t li k0 dz g1 (by rw [<- g2];exact lr) (jh.2 ?_);exact JP (i0:=0) ht (by have:=jh.1 hz;simpa using this)
   refine ⟨db,⟨⟨aam,hk.kept.gn,fun t li hl=>?_,hk.kept.os,hk.kept.tape,hk.kept.output,hk.kept.size,hk.kept.frame,hk.kept.dM,fun t li hl=>?_,fun u li k hl hs lr=>?_⟩,hk.kn,?_,hk.dom⟩,
    ⟨her fun j esz hj=>?_,ha.defers,ha.Lw⟩⟩
   · have h1:=hk.kept.dI t li hl
     have ht:t<st.kn:=by rw [hk.kn];exact hk.dom t li hl
     rw [D6 t t (hid t ht)];exact h1
   · rcases aau t st.kn with ht|ht
     · rw [D6 t t (hid t ht)] at hl
       exact hk.kept.mP t li hl
     right;rw [hk.kn] at ht;exact ht
   · have hu:=yh u k hs lr
     obtain ⟨t,ht,dz⟩:=old u li hl hu;obtain ⟨k0,g1,g2⟩:=back u k hs t ht;exact hk.kept.own t li k0 dz g1 (by rw [<- g2];exact lr)
   · rw [<- hk.kn]
     simp only [ac2];omega
   simp only [db,show¬af6 m+j<(af6 m) by omega,if_false,show (af6 m)+j-(af6 m)=j by omega,hj]
 exact (by cases h)
theorem Uu {im0 im:Im} {loc0 loc:Loc} {iI:cw} {w0 w:World} {nt:Nat} {live:List (Nat×Option Nat)} {st mW:St} {a:Act} (h:norm live st=afa mW) (hk:yU im0 loc0 iI w0 st im loc w) (ha:we im loc nt st a):
 ∃db,yU im0 loc0 iI w0 mW im db w/\we im db nt mW a:=by
 unfold norm at h;cases h1:DK live st with
 |none=>rw [h1] at h;cases h
 |some s=>
  rw [h1] at h;dsimp only at h;obtain ⟨db,gC,rV⟩:=JS h1 hk ha;split at h
  · exact JS h gC rV
  injection h with h
  subst h;exact ⟨db,gC,rV⟩
end Go.Vm
/- The code of a function; what it returns. -/
namespace Go.Vm
def gd (P:Program) (prims:FuncId->Bool) (nt:Nat):iQ->Code->Bool
 | .skip,.skip=>afc
 | .region d ops _,.region _ iz flag=>BO P prims nt d ops iz flag
 | .seq a b,.seq c d=>gd P prims nt a c&&gd P prims nt b d
 | .cond c a b,.cond c' a' b'=>bu c c'&&gd P prims nt a a'&&gd P prims nt b b'
 | .block id b,.block id' b'=>id==id'&&gd P prims nt b b'
 | .loop _ b,.loop b'=>gd P prims nt b b'
 | .exit id,.exit id'=>id==id'
 | .ret,.ret=>afc
 |_,_=>afd
def gL.out:gL->Exit
 | .normal=> .normal
 | .exit id=> .exit id
 | .ret=> .ret
section
variable {P : Program} {F : lM} {rec : Task -> Option Out} {im0 : Im} {loc0 : Loc} {iI : cw} {w0 : World} {nt : Nat} {prims : FuncId -> Bool}
structure At (im0:Im) (loc0:Loc) (iI:cw) (w0:World) (nt:Nat) (st:St) (a:Act) (w:World):Prop where
 ex: ∃im loc,yU im0 loc0 iI w0 st im loc w/\we im loc nt st a
def BP (P : Program) (prims : FuncId -> Bool) (rec : Task -> Option Out) : Prop :=
  ∀ (live : List (Nat × Option Nat)) (x : iQ) (st : St) (e : gL) (j7 : St), rec (.loop live x st) = afa (.code e j7) ->
    ∀ (c : Code) (nt : Nat) (im0 : Im) (loc0 : Loc) (iI : cw) (w0 : World) (a : Act) (w : World), gd P prims nt x c = afc -> At im0 loc0 iI w0 nt st a w ->
      ∀ (b : Frame) (k : List Item) (cs : List Frame), ∃ a' w', At im0 loc0 iI w0 nt j7 a' w' /\ Arrives P (lone (b.at a (.code c :: .inLoop c :: k)) cs w) b k cs e.out a' w'
theorem jT (hE:H5 P F rec) (hL:BP P prims rec) (pk:P.follows .mixedOrders=afc): ∀(x:iQ) (c:Code) (st:St) (e:gL) (j7:St),gd P prims nt x c=afc->rL F rec x st=afa (e,j7)->
 ∀(a:Act) (w:World),At im0 loc0 iI w0 nt st a w-> ∀(Q:Exit->Act->World->Prop),(∀a' w',At im0 loc0 iI w0 nt j7 a' w'->Q e.out a' w')->c.wp P Q a w
 | .skip,c,st,e,j7,hc,gx,a,w,ha,Q,hQ=>by
  cases c<;>simp only [gd,WF] at hc
  simp only [rL,AC,NE] at gx;obtain ⟨rfl,rfl⟩:=gx;exact wp_skip (hQ _ _ ha)
 | .region d ops ft,c,st,e,j7,hc,gx,a,w,ha,Q,hQ=>by
  cases c<;>simp only [gd,WF] at hc
  simp only [rL,IR] at gx;obtain ⟨mW,gx,h⟩:=gx;simp only [NE] at h;obtain ⟨rfl,rfl⟩:=h;obtain ⟨im,loc,hk,Eh⟩:=ha.ex;refine LZ hE pk hc gx hk.kept.sr Eh fun dX bj a' w' TW Ei=>hQ a' w' ⟨dX,bj,?_,Ei⟩
  obtain ⟨h1,h2⟩:=H6 gx;exact ⟨hk.kept.trans TW hk.len,by rw [h1];exact hk.kn,aav hk.len h2,hk.dom⟩
 | .seq x y,c,st,e,j7,hc,gx,a,w,ha,Q,hQ=>by
  cases c<;>simp only [gd,WF,v6] at hc
  obtain ⟨h1,h2⟩:=hc;simp only [rL] at gx;refine wp_seq ?_;cases hx:rL F rec x st with
  |none=>rw [hx] at gx;cases gx
  |some q=>
   obtain ⟨e1,mW⟩:=q;rw [hx] at gx;refine jT hE hL pk x _ st e1 mW h1 hx a w ha _ fun a' w' Ei=>?_
   cases e1 with
   |normal=>exact jT hE hL pk y _ mW e j7 h2 gx a' w' Ei Q hQ
   |exit id=>simp only [AC,NE] at gx;obtain ⟨rfl,rfl⟩:=gx;exact hQ a' w' Ei
   |ret=>simp only [AC,NE] at gx;obtain ⟨rfl,rfl⟩:=gx;exact hQ a' w' Ei
 | .cond cc x y,c,st,e,j7,hc,gx,a,w,ha,Q,hQ=>by
  cases c<;>simp only [gd,WF,v6] at hc
  obtain ⟨⟨h0,h1⟩,h2⟩:=hc;obtain ⟨im,loc,hk,Eh⟩:=ha.ex;have hv:=LY (a:=a) (e:=st.env) cc (fun t _=>Eh.env t) _ h0;simp only [rL] at gx;split at gx
  · rename_i hb
    rw [hb] at hv;exact wp_cond_true hv.jg (jT hE hL pk x _ st e j7 h1 gx a w ha Q hQ)
  · rename_i hb
    rw [hb] at hv;exact wp_cond_false hv.jg (jT hE hL pk y _ st e j7 h2 gx a w ha Q hQ)
  cases gx
 | .block id x,c,st,e,j7,hc,gx,a,w,ha,Q,hQ=>by
  cases c<;>simp only [gd,WF,v6,beq_iff_eq] at hc
  obtain ⟨rfl,h1⟩:=hc;refine wp_block ?_;simp only [rL] at gx;cases hx:rL F rec x st with
  |none=>rw [hx] at gx;cases gx
  |some q=>
   obtain ⟨e1,mW⟩:=q;rw [hx] at gx;refine jT hE hL pk x _ st e1 mW h1 hx a w ha _ fun a' w' Ei=>?_
   cases e1 with
   |normal=>simp only [AC,NE] at gx;obtain ⟨rfl,rfl⟩:=gx;exact hQ a' w' Ei
   |ret=>simp only [AC,NE] at gx;obtain ⟨rfl,rfl⟩:=gx;exact hQ a' w' Ei
   |exit j=>
    dsimp only at gx;simp only [gL.out,Exit.inBlock];split at gx
    · rename_i hj
      have:j=id:=by simpa using hj
      simp only [AC,NE] at gx;obtain ⟨rfl,rfl⟩:=gx;rw [rc this];exact hQ a' w' Ei
    rename_i hj
    have:j≠id:=by simpa using hj
    simp only [AC,NE] at gx;obtain ⟨rfl,rfl⟩:=gx;rw [ut this];exact hQ a' w' Ei
 | .loop live x,c,st,e,j7,hc,gx,a,w,ha,Q,hQ=>by
  cases c<;>simp only [gd,WF] at hc
  simp only [rL] at gx;split at gx
  · rename_i e1 mW hr
    simp only [AC,NE] at gx;obtain ⟨rfl,rfl⟩:=gx;intro b k cs;obtain ⟨a',w',h1,h2⟩:=hL live x st _ _ hr _ nt im0 loc0 iI w0 a w hc ha b k cs;exact ⟨_,a',w',hQ a' w' h1,.of_steps (.one step_loop) h2⟩
  cases gx
 | .exit id,c,st,e,j7,hc,gx,a,w,ha,Q,hQ=>by
  cases c<;>simp only [gd,WF,beq_iff_eq] at hc
  subst hc;simp only [rL,AC,NE] at gx;obtain ⟨rfl,rfl⟩:=gx;exact wp_exit (hQ _ _ ha)
 | .ret,c,st,e,j7,hc,gx,a,w,ha,Q,hQ=>by
  cases c<;>simp only [gd,WF] at hc
  simp only [rL,AC,NE] at gx;obtain ⟨rfl,rfl⟩:=gx;exact wp_ret (hQ _ _ ha)
theorem O8 (hE:H5 P F rec) (hL:BP P prims rec) (pk:P.follows .mixedOrders=afc):BP P prims (step F rec):=by
 intro live x st e j7 h c nt im0 loc0 iI w0 a w hc ha b k cs;simp only [step] at h;cases hn:norm live st with
 |none=>rw [hn] at h;cases h
 |some mW=>
  rw [hn] at h;dsimp only at h;obtain ⟨im,loc,hk,Eh⟩:=ha.ex;obtain ⟨db,gC,rV⟩:=Uu hn hk Eh;have cW:At im0 loc0 iI w0 nt mW a w:=⟨im,db,gC,rV⟩;cases hx:rL F rec x mW with
  |none=>rw [hx] at h;cases h
  |some q=>
   obtain ⟨e1,uJ⟩:=q;rw [hx] at h;have hw:=jT hE hL pk x c mW e1 uJ hc hx a w cW (fun e' a' w'=>e'=e1.out/\At im0 loc0 iI w0 nt uJ a' w') fun a' w' h=>⟨rfl,h⟩
   obtain ⟨e',a1,w1,⟨rfl,hq⟩,F9⟩:=hw b (.inLoop c::k) cs;cases e1 with
   |normal=>dsimp only at h;obtain ⟨a',w',h1,h2⟩:=hL live x uJ e j7 h c nt im0 loc0 iI w0 a1 w1 hc hq b k cs;exact ⟨a',w',h1,.of_steps (Steps.trans F9 (.one step_inLoop)) h2⟩
   |exit id=>simp only [AC,Out.code.injEq] at h;obtain ⟨rfl,rfl⟩:=h;exact ⟨a1,w1,hq,.pass (x:= .inLoop c) rfl (fun _ _=> .inl (by simp [gL.out])) F9⟩
   |ret=>simp only [AC,Out.code.injEq] at h;obtain ⟨rfl,rfl⟩:=h;exact ⟨a1,w1,hq,.pass (x:= .inLoop c) rfl (fun _ _=> .inl (by simp [gL.out])) F9⟩
def oa (P:Program):List RV->List ResultVar->Bool
 | [],[]=>afc
 | .tmp t::r,.tmp t'::s=>t==t'&&oa P r s
 | .cell t agg::r,.cell t' ty::s=>t==t'&&Ap P ty agg&&oa P r s
 |_,_=>afd
def L2 (tmps:Array Value):ResultVar->Sem Value
 | .tmp t=>pure (tmps.getD t undef)
 | .cell a t=>do loadVar t (<- asAddr (tmps.getD a undef))
theorem O9 {im:Im} {loc:Loc} {ax:cw} {agg:Option Nat} {p:PV} {u:Value} {r:mT} (hp:VR im loc p u) (h:nS ax agg p=afa r): ∃ad,u= .pointer (afa ad):=by cases hp<;>first|(simp [nS] at h;done)|exact ⟨_,rfl⟩
theorem SR.known {im:Im} {loc:Loc} {ax:cw} {fz:List Nat} {w:World} (h:SR im loc ax fz w) {r:mT} (hn:r.news=[]) (hw:r.wr=[]):iR im loc ax w r where
 bB:=h.bB
 tok:=fun t _ li hl=>h.c6 t li hl
 free:=fun t k hm=>by rw [hw] at hm;cases hm
 fresh:=fun j hj=>by rw [hn] at hj;simp at hj
 iq:=fun t u li lj k k' _ _=>h.iq t u li lj k k'
theorem L3 {ax:cw} {agg:Option Nat} {p:PV} {r:mT} (h:nS ax agg p=afa r):r.news=[]/\r.wr=[]:=by
 unfold nS at h;split at h
 · split at h
   · split at h
     · rw [IR] at h;obtain ⟨_,_,rfl⟩:=h;exact ⟨rfl,rfl⟩
     cases h
   · split at h
     · rw [IR] at h;obtain ⟨_,_,rfl⟩:=h;exact ⟨rfl,rfl⟩
     cases h
   cases h
 · rw [IR] at h;obtain ⟨_,_,rfl⟩:=h;exact ⟨rfl,rfl⟩
 cases h
theorem Q8 {im : Im} {loc : Loc} {st : St} {a : Act} {w : World} (jS : SR im loc st.ax st.fz w) (ha : ER im loc st.env a.tmps) : ∀ {rs : List RV} {vs : List PV} {os : List ResultVar}, oa P rs os = afc -> mV st rs = afa vs ->
    ∃ us, (os.mapM (L2 a.tmps)).run P w = .ok us w /\ eI im loc vs us
  | [], vs, os, hc, h => by
    cases os <;> simp only [oa, WF] at hc
    simp only [mV, AC] at h; subst h
    exact ⟨[], by simp, .nil⟩
  | r :: rs, vs, [], hc, h => by cases r <;> simp [oa] at hc
  | r :: rs, vs, o :: os, hc, h => by
    simp only [mV] at h
    split at h
    · rename_i v Lt h1 h2
      injection h with h; subst h
      have As : ∃ u, (L2 a.tmps o).run P w = .ok u w /\ VR im loc v u /\ oa P rs os = afc := by
        cases r with
        | tmp t =>
          cases o with
          | tmp t' =>
            simp only [oa, v6, beq_iff_eq] at hc
            obtain ⟨rfl, hc⟩ := hc
            simp only [DN, AC] at h1; subst h1
            exact ⟨_, rfl, ha t, hc⟩
          | cell _ _ => simp [oa] at hc
        | cell t agg =>
          cases o with
          | tmp t' => simp [oa] at hc
          | cell t' ty =>
            simp only [oa, v6, beq_iff_eq] at hc
            obtain ⟨⟨rfl, hag⟩, hc⟩ := hc
            simp only [DN, IR] at h1
            obtain ⟨rr, h3, rfl⟩ := h1
            obtain ⟨g1, g2⟩ := L3 h3
            obtain ⟨u, bT, nO, _⟩ := Jp (P := P) (ha t) hag h3 (jS.known g1 g2)
            obtain ⟨ad, had⟩ := O9 (ha t) h3
            refine ⟨u, ?_, nO, hc⟩
            simp only [L2, had, asAddr]
            rw [had] at bT
            simpa [Instr.loadAt, Instr.sureAddr] using bT
      obtain ⟨u, hu, nO, hc⟩ := As
      obtain ⟨us, wI, ai5⟩ := Q8 jS ha hc h2
      refine ⟨u :: us, ?_, .cons _ _ _ _ nO ai5⟩
      rw [List.mapM_cons]
      simp only [aeq, hu, aeu, wI, aeZ]
    cases h
theorem Ej {im:Im} {loc:Loc} {st:St} {a:Act} {w:World} {fn:Func} (jS:SR im loc st.ax st.fz w) (ha:ER im loc st.env a.tmps) {rs:List RV} {vs:List PV} (hc:oa P rs fn.results.toList=afc) (h:mV st rs=afa vs):
 ∃u,(results fn a.tmps).run P w= .ok u w/\VR im loc (results1 vs) u:=by
 obtain ⟨us,h1,h2⟩:=Q8 (P:=P) jS ha hc h;have e:fn.results.mapM (L2 a.tmps)=List.toArray<$>fn.results.toList.mapM (L2 a.tmps):=Array.mapM_eq_mapM_toList;have h3:(fn.results.mapM (L2 a.tmps)).run P w= .ok us.toArray w:=by rw [e];rw [map_eq_pure_bind,aeq,h1];rfl
 have AJ:results fn a.tmps=(do let vs <- fn.results.mapM (L2 a.tmps);pure (if h:vs.size=1 then vs[0] else .tuple vs)):=by
  unfold results
  congr 1
 rw [AJ];simp only [aeq,h3,aeu,aeZ];refine ⟨_,rfl,?_⟩;cases h2 with
 |nil=>exact .cy _ _ .nil
 |cons x u xs us g2 g3=>
  cases g3 with
  |nil=>exact g2
  |cons y v ys vs g4 g5=>exact .cy _ _ (.cons _ _ _ _ g2 (.cons _ _ _ _ g4 g5))
end
end Go.Vm
/- What the logical machine answers, the model answers. -/
namespace Go.Vm
def aB (P:Program) (prims:FuncId->Bool) (x:aN) (f:FuncId):Bool:=
 match P.funcs[f]? with
 |some fn=>!(fn.name== "runtime.NumGoroutine")&&aaB x.CB fn.ntmps&&oa P x.res fn.results.toList&&(match fn.body with|some c=>gd P prims fn.ntmps x.code c|none=>afd)
 |none=>afd
section
variable {P : Program} {F : lM} {rec : Task -> Option Out} {prims : FuncId -> Bool}
def JT (P:Program) (prims:FuncId->Bool) (F:lM):Prop:= ∀f x,F f=afa (.code x)->aB P prims x f=afc
theorem JU: ∀(args:List PV) (i t:Nat),lk t (tN i args)=if i<=t then (args[t-i]?).getD .undef else .undef
 | [],i,t=>by simp [tN,lk]
 |v::r,i,t=>by
  simp only [tN,qd];rw [JU r (i+1) t]
  by_cases h:i=t
  · subst h;simp
  rw [ut h]
  by_cases h2:i<=t
  · rw [rc h2,rc (by omega)]
    have:t-i=(t- (i+1))+1:=by omega
    rw [this];simp
  rw [ut h2,ut (by omega)]
theorem GF {im:Im} {loc:Loc} {args:List PV} {us:List Value} (h:eI im loc args us) (n:Nat):ER im loc (tN 0 args) ((⟨us⟩:Array Value)++ad2 n Go.undef):=by
 intro t;rw [JU];simp only [aaS,if_true,Nat.sub_zero];cases ha:args[t]? with
 |none=>exact .undef _
 |some x=>
  obtain ⟨v,hv,hr⟩:=h.get t x ha;have:((⟨us⟩:Array Value)++ad2 n Go.undef).getD t Go.undef=v:=by have dz:=cD hv;simp only [aaC];rw [Array.getElem?_append_left (by simpa using dz)];simp [hv]
  rw [this];exact hr
theorem gZ {f:FuncId} {fn:Func} {c:Code} {us:Array Value} {w:World} (hf:P.funcs[f]? =afa fn) (hn:(fn.name== "runtime.NumGoroutine")=afd) (hb:fn.body=afa c):(callFunc f us).run P w= .ok (.enter f us) w:=by
 unfold callFunc;have hn: ¬fn.name= "runtime.NumGoroutine" :=by simpa using hn
 simp [aeq,hf,hn,hb]
theorem O' (hE:H5 P F rec) (hL:BP P prims rec) (hT:JT P prims F) (pk:P.follows .mixedOrders=afc):BJ P (step F rec):=by
 intro f args ax fz v tX HU h im loc w us jS wI;simp only [step] at h;split at h
 · rename_i x hF
   have hc:=hT f x hF;unfold aB at hc;cases hf:P.funcs[f]? with
   |none=>rw [hf] at hc;cases hc
   |some fn=>
    rw [hf] at hc;simp only [v6,aah] at hc;obtain ⟨⟨⟨pt,hna⟩,AJ⟩,kM⟩:=hc;cases hb:fn.body with
    |none=>rw [hb] at kM;cases kM
    |some c=>
     rw [hb] at kM;dsimp only at kM;refine .inr ⟨gZ hf pt hb,calls_of_wp hf hb ?_⟩;split at h
     · rename_i cO
       have cO:(af6 args)=x.CB:=by simpa using cO
       have hna:x.CB<=fn.ntmps:=by simpa using hna
       have anM:=wI.mj
       let Zm:St:={env:=tN 0 args,ax,fz,kn:=af6 ax}
       let a0:Act:={tmps:=(⟨us⟩:Array Value)++ad2 (fn.ntmps- (⟨us⟩:Array Value).size) Go.undef,defers:=[]}
       have cW:At im loc ax w fn.ntmps Zm a0 w:=by
        refine ⟨im,loc,⟨⟨jS,.refl _,.refl _,rfl,.refl _,rfl,M2 _,fun _ _ _=>rfl,fun _ _ h=> .inl h,fun _ _ h=> .inl h,fun t li k hl hs lr=> .inr ⟨t,li,k,hl,hs,lr,rfl⟩⟩,rfl,M2 _,fun t li hl=>?_⟩,⟨GF wI _,rfl,?_⟩⟩
        · obtain ⟨k,hk,_⟩:=jS.c6 t li hl
          exact cD hk
        simp only [a0,aeQ,aeF]
        show (af6 us)+_=_;have:(⟨us⟩:Array Value).size=(af6 us):=rfl;rw [this];omega
       have fin: ∀(st:St),(mV st x.res).map (fun vs=>Out.func (results1 vs) st.ax st.fz)=afa (.func v tX HU)-> ∀a' w',At im loc ax w fn.ntmps st a' w'->
        a'.defers=[]/\ ∃u,(results fn a'.tmps).run P w'= .ok u w'/\ ∃v',Ending.returned u= .returned v'/\ ∃dX bj,tV im loc ax w v tX HU dX bj w' v':=by
        intro st bW a' w' cW
        obtain ⟨dX,bj,hk,Eh⟩:=cW.ex;rw [IR] at bW;obtain ⟨vs,HP,he⟩:=bW;simp only [Out.func.injEq] at he;obtain ⟨rfl,rfl,rfl⟩:=he;obtain ⟨u,hu,nO⟩:=Ej (P:=P) (fn:=fn) hk.kept.sr Eh.env AJ HP;have K:=hk.kept;exact ⟨Eh.defers,u,hu,u,rfl,dX,bj,⟨K.gn,K.dI,nO,K.sr,K.os,K.tape,K.output,K.size,K.frame,K.dM,K.mP,K.own⟩⟩
       split at h
       · rename_i st gx
         exact jT hE hL pk x.code c Zm .normal st kM gx a0 w cW _ fun a' w' aan=>fin st h a' w' aan
       · rename_i st gx
         exact jT hE hL pk x.code c Zm .ret st kM gx a0 w cW _ fun a' w' aan=>fin st h a' w' aan
       cases h
     cases h
 · rename_i p hF
   obtain ⟨fn,c,hf,pt,hb,key⟩:=hE.jD.2 f p hF;rw [IR] at h;obtain ⟨⟨v1,s1,z1⟩,hp,he⟩:=h;simp only [Out.func.injEq] at he;obtain ⟨rfl,rfl,rfl⟩:=he;exact key args ax fz _ _ _ hp im loc w us jS wI
 cases h
theorem Zn (hT:JT P prims F) (AB:yd P F) (pk:P.follows .mixedOrders=afc): ∀n,BJ P (run F n)/\BP P prims (run F n)
 |0=>⟨fun f args ax fz v tX HU h=>by simp [run] at h,fun live x st e j7 h=>by simp [run] at h⟩
 |n+1=>by obtain ⟨h1,h2⟩:=Zn hT AB pk n;have hE:H5 P F (run F n):=⟨h1,AB⟩;exact ⟨O' hE h2 hT pk,O8 hE h2 pk⟩
theorem Pa (hT:JT P prims F) (AB:yd P F) (pk:P.follows .mixedOrders=afc) {n:Nat} {f:FuncId} {args:List PV} {v:PV} {tX:cw} {HU:List Nat} (h:run F n (.func f args [] [])=afa (.func v tX HU))
 {im:Im} {w:World} {us:List Value} (Ui: ∀b o,im b=afa o->w.heap[b]? =afa o) (wI:eI im fX args us):
 Calls P f ⟨us⟩ w fun e w'=> ∃u,e= .returned u/\(∃dX bj,VR dX bj v u/\SR dX bj tX HU w')/\w'.os=w.os/\Tape w w'/\w'.output=w.output/\w.heap.size<=w'.heap.size/\ ∀b,b<w.heap.size->w'.heap[b]? =w.heap[b]?:=by
 have key:=(Zn hT AB pk n).1 f args [] [] v tX HU h im fX w us (SR.empty Ui) wI;rcases key with ⟨u,w',h1,h2⟩|⟨h1,h2⟩
 · exfalso
   cases n with
   |zero=>simp [run] at h
   |succ n=>
    have h:step F (run F n) (.func f args [] [])=afa (.func v tX HU):=h;simp only [step] at h;split at h
    · rename_i x hF
      have hc:=hT f x hF;unfold aB at hc;cases hf:P.funcs[f]? with
      |none=>rw [hf] at hc;cases hc
      |some fn=>
       rw [hf] at hc;simp only [v6,aah] at hc;cases hb:fn.body with
       |none=>rw [hb] at hc;exact absurd hc.2 (by simp)
       |some c=>rw [gZ hf hc.1.1.1 hb] at h1;cases h1
    · rename_i p hF
      obtain ⟨fn,c,hf,pt,hb,key⟩:=AB.2 f p hF;rw [gZ hf pt hb] at h1;cases h1
    cases h
 refine h2.mono fun e w' ⟨u,he,dX,bj,hp⟩=>⟨u,he,⟨dX,bj,hp.vr,hp.sr⟩,hp.os,hp.tape,hp.output,hp.size,fun b hb=>hp.frame b hb fun t li k hl=>by cases hl⟩
end
end Go.Vm
/- Functions that are known without their code: math/bits.Add64 and Sub64, slices.Clone. -/
namespace Go.Vm
section
variable {P : Program}
theorem L4 {im:Im} {w:World} {v:PV} {u:Value} (jS:SR im fX [] [] w) (hv:VR im fX v u):tV im fX [] w v [] [] im fX w u where
 gn:= .refl _
 dI:= .refl _
 vr:=hv
 sr:=jS
 os:=rfl
 tape:= .refl _
 output:=rfl
 size:=M2 _
 frame:=fun _ _ _=>rfl
 dM:=fun _ _ h=> .inl h
 mP:=fun _ _ h=> .inl h
 own:=fun t li k h=>by cases h
theorem L5 {im:Im} {loc:Loc} {k1 k2 k3:IntKind} {a b c:Int} {us:List Value} (h:eI im loc [.int k1 a,.int k2 b,.int k3 c] us):us=[.int k1 a,.int k2 b,.int k3 c]:=by
 cases h with
 |cons _ _ _ _ h1 h=>
  cases h with
  |cons _ _ _ _ h2 h=>
   cases h with
   |cons _ _ _ _ h3 h=>cases h;rw [h1.ga,h2.ga,h3.ga]
theorem L6 {f:FuncId} {fn:Func} (hf:P.funcs[f]? =afa fn) (pt:(fn.name== "runtime.NumGoroutine")=afd) (hb:fn.body.isNone=afc) (hn:Extern.findNext fn=afb) (he:Extern.find fn=afa add64Entry):HV P f zn:=by
 intro args v news hp im w us jS wI;unfold zn at hp;split at hp
 · rename_i a b c
   split at hp
   · rename_i hc
     have hc:c<=1:=by simpa using hc
     simp only [AC,NE] at hp;obtain ⟨rfl,rfl⟩:=hp;obtain rfl:=L5 wI;refine .inl ⟨_,w,?_,im,fX,L4 jS (.cy _ [.int .u64 (((a:Int)+b+c)%18446744073709551616),.int .u64 (((a:Int)+b+c) / 18446744073709551616)] (.cons _ _ _ _ ?_ (.cons _ _ _ _ ?_ .nil)))⟩
     · rw [run_callFunc_extern hf pt hb hn he]
       have:=run_add64 (P:=P) (a:Int) b c (by omega) (by omega) (by omega) (by omega) w;simp only [aeg];rw [this];rfl
     · have:aeK ((a+b+c)%18446744073709551616)=((a:Int)+b+c)%18446744073709551616:=by
        simp only [aeg];omega
       rw [this];exact .int _ _
     have:aeK ((a+b+c) / 18446744073709551616)=((a:Int)+b+c) / 18446744073709551616:=by
      simp only [aeg];omega
     rw [this];exact .int _ _
   cases hp
 cases hp
def xcA (esz:Nat):iQ:= .region afb [⟨afa 2,.Qk (.c (.sl esz afc [])),afb⟩] [0]
def xcN (esz:Nat):iQ:= .seq (.region afb [⟨afa 2,.Qk (.c (.sl esz afc [])),afb⟩] [2]) .ret
def xcC (esz:Nat) (zero:Row):iQ:= .seq (.region afb [⟨afa 5,.Am esz 0 zero [],afb⟩,⟨afa 6,.Qk (.t 0),afb⟩,⟨afa 7,.append esz (.t 5) (.t 6),afb⟩,⟨afa 2,.Qk (.t 7),afb⟩] [2]) .ret
def Q9 (P:Program) (o:Oper):Bool:=
 o.guard.isNone&&o.dst==afa 4&&(match o.op with
  | .binOp .eql t x (.const (.slice afb 0 0)) _=>bu (.t 3) x&&qE P t
  |_=>afd)
def JV (P:Program) (esz:Nat) (zero:Row) (f:FuncId):Bool:=
 match P.funcs[f]? with
 |some fn=>!(fn.name== "runtime.NumGoroutine")&&ae8 7 fn.ntmps&&oa P [.tmp 2] fn.results.toList&&(match fn.body with
  |some (.seq a (.seq (.seq (.region _ ops afd) (.cond c n .skip)) r))=>
   gd P (fun _=>afc) fn.ntmps (xcA esz) a&&gd P (fun _=>afc) fn.ntmps (xcN esz) n&&gd P (fun _=>afc) fn.ntmps (xcC esz zero) r&&bu (.t 4) c&&
    (match ops.toList with
    | [o1,o2]=>qf P (fun _=>afc) fn.ntmps ops ⟨afa 3,.Qk (.t 0),afb⟩ o1&&Q9 P o2
    |_=>afd)
  |_=>afd)
 |none=>afd
theorem Uv:H5 P (fun _=>afb) (fun _=>afb):=⟨(fun _ _args _sto _fz _v _sto' _fz' h=>by cases h),⟨(fun _ _k _p h=>by cases h),(fun _ _p h=>by cases h)⟩⟩
theorem NK {prims:FuncId->Bool}:BP P prims (fun _=>afb):=fun _ _x _st _e _st' h=>by cases h
theorem mn (pk:P.follows .mixedOrders=afc) {esz:Nat} {zero:Row} {f:FuncId} (hc:JV P esz zero f=afc):HV P f (fx esz):=by
 intro args v news hp im w us jS wI;unfold JV at hc;cases hf:P.funcs[f]? with
 |none=>rw [hf] at hc;cases hc
 |some fn=>
  rw [hf] at hc;simp only [v6,aah] at hc;obtain ⟨⟨⟨pt,hnt⟩,AJ⟩,kM⟩:=hc;have hnt:7<fn.ntmps:=by simpa using hnt
  split at kM
  · rename_i ca id ops cc cn cr hb
    simp only [v6] at kM;obtain ⟨⟨⟨⟨hA,hN⟩,hC⟩,LD⟩,O6⟩:=kM;split at O6
    · rename_i o1 o2 hl
      simp only [v6] at O6;obtain ⟨ho1,ho2⟩:=O6;have ai8: ∃e c rows,args=[.sl e c rows]:=by
       unfold fx at hp;split at hp
       · exact ⟨_,_,_,rfl⟩
       cases hp
      obtain ⟨e,cl,rows,rfl⟩:=ai8;obtain ⟨u,rfl⟩: ∃u,us=[u]:=by
       cases wI with
       |cons _ u _ us h1 h2=>cases h2;exact ⟨u,rfl⟩
      refine .inr ⟨gZ hf pt hb,calls_of_wp hf hb ?_⟩
      let Zm:St:={env:=[(0,.sl e cl rows)],ax:=[],fz:=[],kn:=0}
      let a0:Act:={tmps:=(⟨[u]⟩:Array Value)++ad2 (fn.ntmps- (⟨[u]⟩:Array Value).size) Go.undef,defers:=[]}
      have ai9:At im fX [] w fn.ntmps Zm a0 w:=by refine ⟨im,fX,⟨⟨jS,.refl _,.refl _,rfl,.refl _,rfl,M2 _,fun _ _ _=>rfl,fun _ _ h=> .inl h,fun _ _ h=> .inl h,fun t li k hl=>by cases hl⟩,rfl,M2 _,fun t li hl=>by cases hl⟩,⟨GF wI _,rfl,?_⟩⟩;simp only [a0,aeQ,aeF];show 1+(fn.ntmps-1)=_;omega
      have fin: ∀(st:St) (v':PV),lk 2 st.env=v'-> ∀a' w',At im fX [] w fn.ntmps st a' w'->
       a'.defers=[]/\ ∃u,(results fn a'.tmps).run P w'= .ok u w'/\ ∃v'':Value,Ending.returned u= .returned v''/\ ∃dX bj,tV im fX [] w v' st.ax st.fz dX bj w' v'':=by
       intro st v' hv' a' w' cW
       obtain ⟨dX,bj,hk,Eh⟩:=cW.ex;obtain ⟨u,hu,nO⟩:=Ej (P:=P) (fn:=fn) hk.kept.sr Eh.env AJ (vs:=[v']) (by simp [mV,DN,hv']);have K:=hk.kept;exact ⟨Eh.defers,u,hu,u,rfl,dX,bj,⟨K.gn,K.dI,nO,K.sr,K.os,K.tape,K.output,K.size,K.frame,K.dM,K.mP,K.own⟩⟩
      refine wp_seq ?_;refine jT Uv NK pk (xcA esz) _ Zm .normal {env:=[(0,.sl e cl rows)],ax:=[],fz:=[],kn:=0} hA rfl a0 w ai9 _ fun a1 w1 ai'=>?_
      refine wp_seq (wp_seq ?_);refine wp_region ?_;have afF:ops= #[o1,o2]:=aeX (by simpa using hl);subst afF;obtain ⟨Dr,db,gC,JW⟩:=ai'.ex;have H7:=JW.env 0;have H7:VR Dr db (.sl e cl rows) (a1.tmps.getD 0 Go.undef):=H7;obtain ⟨ad,cap,Uk,F1,TP,kJ⟩:=H7.mZ;unfold qf at ho1;simp only [v6,beq_iff_eq] at ho1;obtain ⟨⟨⟨hd1,_⟩,Qr⟩,Q'⟩:=ho1;have aja:o1.guard=afb:=by
       cases hg:o1.guard with
       |none=>rfl
       |some q=>rw [hg] at Qr;simp [tZ] at Qr
      have afG: ∃x,(o1.op= .move x\/o1.op= .assign x)/\bu (.t 0) x=afc:=by cases ho:o1.op<;>rw [ho] at Q'<;>simp only [wa] at Q'<;>first|exact ⟨_,.inl rfl,Q'⟩|exact ⟨_,.inr rfl,Q'⟩|simp at Q'
      obtain ⟨x1,FZ,aao⟩:=afG;have ajb:a1.eval x1= .slice ad (af6 rows) cap:=by
       have h:=LY (a:=a1) (e:=[(0,PV.sl e cl rows)]) (.t 0) (fun t ht=>by injection ht with ht;subst ht;exact JW.env 0) x1 aao;cases x1 with
       |tmp t=>
        have:(0:Nat)=t:=by simpa [bu] using aao
        subst this;simpa [Act.eval] using Uk
       |_=>simp [bu] at aao
      have afH:(execOp a1.eval o1).run P w1= .ok (.value (.slice ad (af6 rows) cap)) w1:=by rcases FZ with h|h<;>simp [execOp,h,ajb]
      unfold Q9 at ho2;simp only [v6,beq_iff_eq,Option.isNone_iff_eq_none] at ho2;obtain ⟨⟨hg2,hd2⟩,Uw⟩:=ho2;split at Uw
      case h_2=>cases Uw
      rename_i ty x2 ub afJ;simp only [v6] at Uw;obtain ⟨TX,bW⟩:=Uw;have ajc:x2= .tmp 3:=by
       cases x2 with
       |tmp t=>
        have:(3:Nat)=t:=by simpa [bu] using TX
        subst this;rfl
       |_=>simp [bu] at TX
      subst ajc;unfold qE at bW;split at bW
      case h_2=>cases bW
      rename_i el mR;have ajd:a1.tmps.size=fn.ntmps:=JW.Lw
      let a2:Act:=a1.put (afa 3) (.slice ad (af6 rows) cap)
      have HK:a2.tmps.getD 3 Go.undef= .slice ad (af6 rows) cap:=by simp only [a2,Act.put,aaC];rw [acZ (by omega)];rfl
      have afK:(execOp a2.eval o2).run P w1= .ok (.value (.bool ad.isNone)) w1:=by
       simp only [execOp,afJ];refine eB ?_;have e3:a2.eval (.tmp 3)= .slice ad (af6 rows) cap:=by simpa [Act.eval] using HK
       rw [e3];have hg:(eqGuard .eql ty (.tmp 3) (.const (.slice afb 0 0)) (.slice ad (af6 rows) cap) (a2.eval (.const (.slice afb 0 0)))).run P w1= .ok () w1:=by unfold eqGuard;simp
       simp only [aeq,hg,aeu];exact Lib.run_eql_slice_nil w1 ty el ad (af6 rows) cap 0 0 mR
      let a3:Act:=a2.put (afa 4) (.bool ad.isNone)
      have aap:At im fX [] w fn.ntmps {env:=[(0,.sl e cl rows)],ax:=[],fz:=[],kn:=0} a3 w1:=by
       refine ⟨Dr,db,gC,⟨fun t=>?_,JW.defers,by simp [a3,a2,Act.put,ajd]⟩⟩;have h:=JW.env t;simp only [qd] at h ⊢
       by_cases ht:t=0
       · subst ht
         simp only [if_true] at h ⊢;simpa [a3,a2,Act.put,aaz] using h
       rw [ut (fun e=>ht e.symm)];exact .undef _
      have I8:a3.eval cc= .bool ad.isNone:=by
       cases cc with
       |tmp t=>
        have:(4:Nat)=t:=by simpa [bu] using LD
        subst this;simp only [Act.eval,a3,Act.put,aaC];rw [acZ (by simp [a2,Act.put];omega)];rfl
       |_=>simp [bu] at LD
      have aaq:List.range #[o1,o2].size=[0,1]:=rfl;rw [aaq];simp only [wpOps];have e0:(#[o1,o2]:Array Oper)[0]? =afa o1:=rfl;have e1:(#[o1,o2]:Array Oper)[1]? =afa o2:=rfl;rw [e0];dsimp only;have hw1:Region.wanted o1 (yielded #[o1,o2] a1.tmps)=afc:=by unfold Region.wanted;rw [aja]
      rw [hw1,rc rfl];refine .inl ?_;unfold Oper.wp;rw [afH,Oper.upon_value,<- hd1,e1];dsimp only;have hw2:Region.wanted o2 (yielded #[o1,o2] (a1.put (afa 3) (.slice ad (af6 rows) cap)).tmps)=afc:=by unfold Region.wanted;rw [hg2]
      rw [hw2,rc rfl];refine .inl ?_;rw [show a1.put (afa 3) (.slice ad (af6 rows) cap)=a2 from rfl,afK,Oper.upon_value,hd2];show (Code.cond cc cn .skip).wp P _ a3 w1;cases had:ad with
      |none=>
       have F8:rows=[]:=by
        rcases rows with _|⟨r,rs⟩
        · rfl
        obtain ⟨b,o,h,_⟩:=kJ (by simp)
        rw [had] at h;cases h
       subst F8;simp only [fx,AC,NE] at hp;obtain ⟨rfl,rfl⟩:=hp;refine wp_cond_true (by rw [I8,had];rfl) ?_;refine jT Uv NK pk (xcN esz) _ _ .ret {env:=[(2,.sl esz afc [])],ax:=[],fz:=[],kn:=0} hN rfl a3 w1 aap _ fun a4 w4 Ra=>?_
       obtain ⟨hdf,u',Bs,v'',aje,dX,bj,TY⟩:=fin _ _ rfl a4 w4 Ra;refine ⟨hdf,u',Bs,v'',aje,dX,bj.set 1 ⟨0,0,esz,0,0⟩,?_⟩;have NL: ∀t,bj t=afb:=fun t=>by
        cases hl:bj t with
        |none=>rfl
        |some li=>obtain ⟨k,hk,_⟩:=TY.sr.c6 t li hl;simp at hk
       obtain ⟨ad',cP,hv3,_,ajf,_⟩:=TY.vr.mZ;have D':cP=0:=by simpa using ajf rfl
       subst D';exact {
        gn:=TY.gn,dI:=fun t li h=>by cases h
        vr:=by rw [hv3];exact .own 1 esz 0 0 0 afd ⟨0,0,esz,0,0⟩ ad' 0 (Loc.eC _ _ _) rfl (M2 _) (M2 _) (M2 _) (fun h=>by cases h) (.inl rfl)
        sr:={
         bB:=TY.sr.bB
         c6:=fun t li h=>by
          unfold Loc.set at h;split at h
          · rename_i ht;subst ht;injection h with h;subst h
            exact ⟨_,rfl,rfl,rfl,fun h=>absurd rfl h⟩
          rw [NL t] at h;cases h
         iq:=fun t u li lj k k' h h' hs tR C8=>by
          unfold Loc.set at h;split at h
          · rename_i ht;subst ht;simp at hs;subst hs;cases C8
          rw [NL t] at h;cases h
         free:=fun t li k h hs C8=>by
          unfold Loc.set at h;split at h
          · rename_i ht;subst ht;simp at hs;subst hs;cases C8
          rw [NL t] at h;cases h}
        os:=TY.os,tape:=TY.tape,output:=TY.output,size:=TY.size,frame:=TY.frame,dM:=TY.dM
        mP:=fun t li h=> .inr (aaS _)
        own:=fun t li k h hs C8=>by
         unfold Loc.set at h;split at h
         · rename_i ht;subst ht;simp at hs;subst hs;cases C8
         rw [NL t] at h;cases h}
      |some ad'=>
       refine wp_cond_false (by rw [I8,had];rfl) (wp_skip ?_);rcases rows with _|⟨r,rs⟩
       · simp only [fx,AC,NE] at hp
         obtain ⟨rfl,rfl⟩:=hp;exact jT Uv NK pk (xcC esz zero) _ _ .ret {env:=[(2,.own 1 esz 0 0 0 afd)],ax:=[.arr esz [],.arr esz []],fz:=[],kn:=0} hC rfl a3 w1 aap _ fun a4 w4 Ra=>fin _ _ rfl a4 w4 Ra
       simp only [fx] at hp
       split at hp
       case isFalse=>cases hp
       rename_i Nx;simp only [v6,aeM,ae6] at Nx;obtain ⟨rfl,gX⟩:=Nx;simp only [AC,NE] at hp;obtain ⟨rfl,rfl⟩:=hp;have hap:iw [.arr e []] [] e (.own 0 e 0 0 0 afc) (.sl e cl (r::rs))=afa {v:= .own 1 e 0 (0+(af6 rs+1)) (0+(af6 rs+1)) afd,news:=[.arr e (r::rs)],rd:=[0]}:=by
        have h1:Do e e=afc:=by simp
        have h2:aaB (af6 rs+1) 0=afd:=rfl;have h3:aaB (0+(af6 rs+1)) eA=afc:=by simpa using gX
        simp only [iw,rowsOf,h1,if_true];simp [h2,gX,iv]
       refine jT Uv NK pk (xcC e zero) _ _ .ret {env:=[(2,.own 1 e 0 (0+(af6 rs+1)) (0+(af6 rs+1)) afd)],ax:=[.arr e [],.arr e (r::rs)],fz:=[],kn:=0} hC ?_ a3 w1 aap _ fun a4 w4 Ra=>fin _ _ rfl a4 w4 Ra
       simp only [xcC,rL,kG,lN,wanted,v7,bA,fv.ev,lk];simp [o8,XR.ok,uN,XR.next,ik,Jk,fU,lk,hap]
    cases O6
  cases kM
end
end Go.Vm
/- slices.Insert of one row: what it leaves of the memory. -/
namespace Go.Vm
section
variable {P : Program} {im dX : Im} {loc bj : Loc} {ax : cw} {fz : List Nat} {w w' : World}
theorem oL (w:World) (dT sT ty el:TypeId) (esz g o aar ajh:Nat) (a:Addr) (sQ sCap:Nat) (cur:Array Value) (t:TypeId) (cs:List Value)
 (hu:P.underlying dT=afa (.slice el)) (hs:(P.info? el).map (·.size)=afa esz)
 (hg:w.heap[g]? =afa (.cells cur t (0,0))) (hn:Nat.min sQ aar*esz=af6 cs)
 (aji: ∀j v,cs[j]? =afa v->w.cell? (a.add j)=afa v) (pQ:o+af6 cs<=cur.size) (h1: ∀v∈cs,v.oneCell'=afc):
 (Builtin.copy_ #[dT,sT] ty #[.slice (afa ⟨g,o,afb⟩) aar ajh,.slice (afa a) sQ sCap]).run P w=
  .ok (goInt (Nat.min sQ aar)) (w.setRow g (lZ o cs cur.toList).toArray):=by
 have hl:=run_loadCells_list (P:=P) w a cs aji;have bW:=run_storeCells_at P g o t cs 0 cur w hg (by simpa using pQ) h1;cases hq:P.info? el with
 |none=>simp [hq] at hs
 |some i=>
  have hi:i.size=esz:=by simpa [hq] using hs
  simp [Builtin.copy_,run_underlying hu,Builtin.lenOf,Builtin.firstCells,sizeOf,typeInfo,hq,hi,hn,hl,bW,lZ]
theorem BR.ft {li:LI} {k:jx} (h:BR im loc w li k) (hi:mY im dX) (hl:lH loc bj) (hw:k.bH=afc->w'.heap[li.c6]? =w.heap[li.c6]?):BR dX bj w' li k:=by
 cases hs:k.bH with
 |true=>exact h.mono hi hl (hw hs)
 |false=>
  cases k with
  |arr e rows=>
   cases rows with
   |nil=>exact ⟨h.1,h.2.1,fun dK=>absurd rfl dK⟩
   |cons r rs=>cases hs
  |box cs=>cases hs
  |map es=>cases hs
  |dead=>trivial
theorem yi {r:mT} {t:Nat} {u:Value} (jS:SR im loc ax fz w) (he:rT im loc ax w r dX bj w') (qG:r.fr=[]) (hw:r.wr=[(t,.dead)]) (ht:t<af6 ax) (hv:VR dX bj r.v u):
 tV im loc ax w r.v (ax.set t .dead++r.news) fz dX bj w' u:=by
 have cO:(ax.set t .dead).length=(af6 ax):=by simp
 have old: ∀t' li,loc t'=afa li->t'<(af6 ax):=fun t' li h=>by obtain ⟨k,hk,_⟩:=jS.c6 t' li h;exact (EQ.1 hk).1
 have Pb: ∀t' li k,loc t'=afa li->(ax.set t .dead++r.news)[t']? =afa k->k.bH=afc->t'≠t/\ax[t']? =afa k:=by
  intro t' li k h hk hs;have dz:=old t' li h;rw [If (by omega),aeP] at hk;split at hk
  · first|(injection hk with hk;subst hk;cases hs)|(split at hk<;>first|(injection hk with hk;subst hk;cases hs)|cases hk)
  rename_i dK;exact ⟨fun e=>dK e.symm,hk⟩
 have Pc: ∀t' k,af6 ax<=t'->(ax.set t .dead++r.news)[t']? =afa k->r.news[t'-(af6 ax)]? =afa k:=by
  intro t' k h hk
  rwa [PP (by omega),cO] at hk
 have GG: ∀t' li,bj t'=afa li->loc t'=afa li\/(af6 ax<=t'/\t'=af6 ax+(t'-(af6 ax))):=by
  intro t' li h;rcases he.ky t' li h with h|⟨h,_⟩
  · exact .inl h
  exact .inr ⟨h,by omega⟩
 have imn: ∀b o,dX b=afa o->im b=afa o\/w.heap.size<=b:=by
  intro b o h;rcases he.dM b o h with h|h|⟨t0,li,k,h,_⟩
  · exact .inl h
  · exact .inr h
  rw [qG] at h;cases h
 have afL: ∀t' li k,loc t'=afa li->ax[t']? =afa k->t'≠t->k.bH=afc->BR im loc w li k->w'.heap[li.c6]? =w.heap[li.c6]?:=by
  intro t' li k hl hk dK hs hb;refine he.frame li.c6 (hb.lt hs) fun t0 k1 l0 k0 hm I9 hk0 H3 e=>?_
  rw [hw] at hm;obtain ⟨rfl,rfl⟩:t0=t/\k1= .dead:=by simpa using hm
  exact dK (jS.iq _ _ _ _ _ _ hl I9 hk hk0 hs H3 e.symm)
 have Ux: ∀t' li k,bj t'=afa li->af6 ax<=t'->r.news[t'-(af6 ax)]? =afa k->BR dX bj w' li k/\
  (k.bH=afc->dX li.c6=afb/\(w.heap.size<=li.c6\/ ∃lt k0,loc t=afa lt/\ax[t]? =afa k0/\k0.bH=afc/\lt.c6=li.c6)):=by
  intro t' li k hl kI hk;obtain ⟨h1,h2⟩:=he.news (t'-(af6 ax)) k li hk (by rw [show (af6 ax)+(t'-(af6 ax))=t' by omega];exact hl);refine ⟨h1,fun hs=>⟨(h2 hs).1,?_⟩⟩;rcases (h2 hs).2 with h|⟨t0,lt,k0,hm,a,b,c,d⟩
  · exact .inl h
  rw [hw] at hm
  obtain rfl:t0=t:=by have:=ac1.1 hm;injection this
  exact .inr ⟨lt,k0,a,b,c,d⟩
 have apart: ∀t1 u1 li lj k k',loc t1=afa li->t1≠t->ax[t1]? =afa k->k.bH=afc->bj u1=afa lj->af6 ax<=u1->r.news[u1-(af6 ax)]? =afa k'->k'.bH=afc->li.c6≠lj.c6:=by
  intro t1 u1 li lj k k' hl dK hk hs lL kI TW tR e;obtain ⟨k2,Br,hb⟩:=jS.c6 t1 li hl;rw [hk] at Br;injection Br with Br;subst Br;rcases ((Ux u1 lj k' lL kI TW).2 tR).2 with h|⟨lt,k0,a,b,c,d⟩
  · have:=hb.lt hs;omega
  exact dK (jS.iq _ _ _ _ _ _ hl a hk b hs c (by rw [e,d]))
 exact {
  gn:=he.gn,dI:=he.dI,vr:=hv
  sr:={
   bB:=he.bB
   c6:=fun t' li h=>by
    rcases GG t' li h with ho|⟨kI,_⟩
    · obtain ⟨k,hk,hb⟩:=jS.c6 t' li ho
      have dz:=old t' li ho
      by_cases e:t'=t
      · subst e
        exact ⟨.dead,by rw [If (by omega),List.getElem?_set_self (by omega)],trivial⟩
      refine ⟨k,by rw [If (by omega),aeD (fun x=>e x.symm)];exact hk,hb.ft he.gn he.dI fun hs=>afL t' li k ho hk e hs hb⟩
    have hn:t'-(af6 ax)<(af6 r.news):=by
     rcases he.ky t' li h with ho|⟨_,h2⟩
     · have:=old t' li ho;omega
     omega
    obtain ⟨hb,_⟩:=Ux t' li _ h kI (ww hn);exact ⟨_,by rw [PP (by omega),cO];exact ww hn,hb⟩
   iq:=fun t1 u1 li lj k k' hl lL hk TW hs tR e=>by
    rcases GG t1 li hl with h1|⟨h1,_⟩<;>rcases GG u1 lj lL with h2|⟨h2,_⟩
    · obtain ⟨n1,e1⟩:=Pb _ _ _ h1 hk hs
      obtain ⟨n2,e2⟩:=Pb _ _ _ h2 TW tR;exact jS.iq _ _ _ _ _ _ h1 h2 e1 e2 hs tR e
    · obtain ⟨n1,e1⟩:=Pb _ _ _ h1 hk hs
      exact absurd e (apart _ _ _ _ _ _ h1 n1 e1 hs lL h2 (Pc _ _ h2 TW) tR)
    · obtain ⟨n2,e2⟩:=Pb _ _ _ h2 TW tR
      exact absurd e.symm (apart _ _ _ _ _ _ h2 n2 e2 tR hl h1 (Pc _ _ h1 hk) hs)
    have:=he.distinct (t1-(af6 ax)) (u1-(af6 ax)) k k' li lj (Pc _ _ h1 hk) (Pc _ _ h2 TW) hs tR (by rw [show (af6 ax)+(t1-(af6 ax))=t1 by omega];exact hl) (by rw [show (af6 ax)+(u1-(af6 ax))=u1 by omega];exact lL) e
    omega
   free:=fun t' li k hl hk hs hz=>by
    rcases GG t' li hl with h1|⟨h1,_⟩
    · obtain ⟨n1,e1⟩:=Pb _ _ _ h1 hk hs
      obtain ⟨k2,Br,hb⟩:=jS.c6 t' li h1;rw [e1] at Br;injection Br with Br;subst Br;have h0:=jS.free t' li k h1 e1 hs hz;cases hi:dX li.c6 with
      |none=>rfl
      |some o=>
       rcases imn _ _ hi with h|h
       · rw [h0] at h;cases h
       have:=hb.lt hs;omega
    exact ((Ux t' li k hl h1 (Pc _ _ h1 hk)).2 hs).1}
  os:=he.os,tape:=he.tape,output:=he.output,size:=he.size
  frame:=fun b hb h=>he.frame b hb fun t0 k li k0 hm hl hk hs=>h t0 li k0 hl hk hs
  dM:=fun b o h=>by
   rcases imn b o h with h|h
   · exact .inl h
   exact .inr (.inl h)
  mP:=fun t' li h=>by
   rcases GG t' li h with h|⟨h,_⟩
   · exact .inl h
   exact .inr h
  own:=fun t' li k hl hk hs=>by
   rcases GG t' li hl with h1|⟨h1,_⟩
   · obtain ⟨n1,e1⟩:=Pb _ _ _ h1 hk hs
     exact .inr ⟨t',li,k,h1,e1,hs,rfl⟩
   rcases ((Ux t' li k hl h1 (Pc _ _ h1 hk)).2 hs).2 with h|⟨lt,k0,a,b,c,d⟩
   · exact .inl h
   exact .inr ⟨t,lt,k0,a,b,c,d⟩}
theorem SR.GH (h:SR im loc ax fz w):loc (af6 ax)=afb:=by
 cases hl:loc (af6 ax) with
 |none=>rfl
 |some li=>obtain ⟨k,hk,_⟩:=h.c6 _ _ hl;simp at hk
theorem Pd {t e:Nat} {li:LI} {rows L:List Row} {arr fin:Array Value} {el:TypeId} (jS:SR im loc ax fz w) (hl:loc t=afa li) (bW:ax[t]? =afa (.arr e rows)) (dK:rows≠[]) (hf:has fz t=afd)
 (ha:w.heap[li.c6]? =afa (.cells arr el (0,0))) (hh:w'.heap=w.heap.setIfInBounds li.c6 (.cells fin el (0,0))) (ho:w'.os=w.os) (ht:Tape w w') (hp:w'.output=w.output)
 (pL:fin.size=li.sz) (pQ:li.sh+af6 L*e<=li.sz) (hr:bK (fun k=>fin[k]?) li.sh e L):
 rT im loc ax w {v:= .own (af6 ax) e 0 (af6 L) (af6 L) afd,news:=[.arr e L],wr:=[(t,.dead)]} im (loc.set (af6 ax) ⟨li.c6,li.sh,e,af6 L,li.sz⟩) w':=by
 have dz:=(UV.1 ha).1;have zx:(jx.arr e rows).bH=afc:=mE dK;have Ax:=jS.free t li _ hl bW zx hf;have QD:=jS.GH;exact {
  gn:= .refl _,dI:=Loc.wS _ QD
  bB:=fun b o hb=>by
   have h1:=jS.bB b o hb;have LM:li.c6≠b:=fun e=>by rw [e,hb] at Ax;cases Ax
   rw [hh,aaz,ut LM];exact h1
  dM:=fun _ _ h=> .inl h,os:=ho,tape:=ht,output:=hp
  size:=by rw [hh];simp
  OP:=fun t' k hm hs=>by
   obtain ⟨rfl,rfl⟩:t'=t/\k= .dead:=by simpa using hm
   cases hs
  frame:=fun b _ hb=>by have LM:=hb t .dead li _ (ac1.2 rfl) hl bW zx;rw [hh,aaz,ut LM]
  wr:=fun t' k li hm lL=>by
   obtain ⟨rfl,rfl⟩:t'=t/\k= .dead:=by simpa using hm
   trivial
  ky:=fun t' l h=>by
   unfold Loc.set at h;split at h
   · rename_i e;subst e;exact .inr ⟨M2 _,by simp⟩
   exact .inl h
  news:=BB fun j k hj=>by
   cases j with
   |zero=>simp at hj;subst hj;refine ⟨_,Loc.eC _ _ _,⟨rfl,rfl,fun _=>⟨fin,el,by rw [hh];simp [dz],pL,pQ,hr⟩⟩,fun _=>⟨Ax,.inr ⟨t,li,_,ac1.2 rfl,hl,bW,zx,rfl⟩⟩⟩
   |succ j=>simp at hj
  distinct:=fun i j ki kj li lj h1 h2 _ _ _ _ _=>by cases i<;>cases j<;>simp at h1 h2<;>rfl}
theorem GI {t e:Nat} {L:List Row} {fin:Array Value} {el:TypeId} (jS:SR im loc ax fz w)
 (hh:w'.heap=w.heap.push (.cells fin el (0,0))) (ho:w'.os=w.os) (ht:Tape w w') (hp:w'.output=w.output)
 (pQ:(af6 L)*e<=fin.size) (hr:bK (fun k=>fin[k]?) 0 e L):
 rT im loc ax w {v:= .own (af6 ax) e 0 (af6 L) (af6 L) afd,news:=[.arr e L],wr:=[(t,.dead)]} im (loc.set (af6 ax) ⟨w.heap.size,0,e,af6 L,fin.size⟩) w':=by
 have QD:=jS.GH;have old: ∀b,b<w.heap.size->w'.heap[b]? =w.heap[b]?:=fun b hb=>by rw [hh,Array.getElem?_push,ut (by omega)]
 have dz: ∀b o,im b=afa o->b<w.heap.size:=fun b o h=>(UV.1 (jS.bB b o h)).1
 exact {
  gn:= .refl _,dI:=Loc.wS _ QD
  bB:=fun b o hb=>by rw [old b (dz b o hb)];exact jS.bB b o hb
  dM:=fun _ _ h=> .inl h,os:=ho,tape:=ht,output:=hp
  size:=by rw [hh];simp
  OP:=fun t' k hm hs=>by
   obtain ⟨rfl,rfl⟩:t'=t/\k= .dead:=by simpa using hm
   cases hs
  frame:=fun b hb _=>old b hb
  wr:=fun t' k li hm lL=>by
   obtain ⟨rfl,rfl⟩:t'=t/\k= .dead:=by simpa using hm
   trivial
  ky:=fun t' l h=>by
   unfold Loc.set at h;split at h
   · rename_i e;subst e;exact .inr ⟨M2 _,by simp⟩
   exact .inl h
  news:=BB fun j k hj=>by
   cases j with
   |zero=>
    simp at hj;subst hj;refine ⟨_,Loc.eC _ _ _,⟨rfl,rfl,fun _=>⟨fin,el,by rw [hh];simp,rfl,by simpa using pQ,hr⟩⟩,fun _=>⟨?_,.inl (M2 _)⟩⟩;cases hi:im w.heap.size with
    |none=>rfl
    |some o=>have:=dz _ _ hi;omega
   |succ j=>simp at hj
  distinct:=fun i j ki kj li lj h1 h2 _ _ _ _ _=>by cases i<;>cases j<;>simp at h1 h2<;>rfl}
theorem GJ {esz:Nat}: ∀{rows:List Row} (_: ∀r∈rows,af6 r=esz) (i:Nat),(rows.take i).flatMap aU=(rows.flatMap aU).take (i*esz)
 | [],_,i=>by simp
 |r::rs,h,0=>by simp
 |r::rs,h,i+1=>by
  have hr:(aU r).length=esz:=by rw [kK];exact h r (by simp)
  have e1:(aU r).take ((i+1)*esz)=aU r:=acl (by rw [hr,aeG];omega);rw [List.take_succ_cons,aev,GJ (fun x hx=>h x (by simp [hx])) i,aev,List.take_append,e1,hr,show (i+1)*esz-esz=i*esz by rw [aeG];omega]
theorem GK {esz:Nat}: ∀{rows:List Row} (_: ∀r∈rows,af6 r=esz) (i:Nat),(rows.drop i).flatMap aU=(rows.flatMap aU).drop (i*esz)
 | [],_,i=>by simp
 |r::rs,h,0=>by simp
 |r::rs,h,i+1=>by
  have hr:(aU r).length=esz:=by rw [kK];exact h r (by simp)
  have e1:(aU r).drop ((i+1)*esz)=[]:=aez (by rw [hr,aeG];omega);rw [List.drop_succ_cons,GK (fun x hx=>h x (by simp [hx])) i,aev,List.drop_append,e1,hr,show (i+1)*esz-esz=i*esz by rw [aeG];omega,List.nil_append]
theorem Uy {α:Type} {o k:Nat} {cs vs l:List α} (hl:o+(af6 cs+af6 vs)<=af6 l) (hk:k<=af6 cs) (lO: ∀j v,j<k->cs[j]? =afa v->l[o+j]? =afa v):
 ∀j v,(cs.take k++vs++cs.drop k)[j]? =afa v->(lZ (o+k) vs (lZ (o+k+af6 vs) (cs.drop k) l))[o+j]? =afa v:=by
 intro j v h;have hd:(cs.drop k).length=af6 cs-k:=aex;have ht:(cs.take k).length=k:=by rw [aey];omega
 have l1:o+k+af6 vs+(cs.drop k).length<=(af6 l):=by rw [hd];omega
 rw [gG _ _ _ (by rw [cQ _ _ _ l1];omega)];rcases aau j k with h1|h1
 · rw [ut (by omega),gG _ _ _ l1,ut (by omega)]
   rw [adc,If (by omega),aew h1] at h;exact lO j v h1 h
 rw [adc,PP (by omega),ht] at h
 rcases aau (j-k) (af6 vs) with h2|h2
 · rw [If h2] at h
   rw [rc ⟨by omega,by omega⟩,<- h]
   congr 1;omega
 rw [PP h2] at h
 have:=(EQ.1 h).1;rw [ut (by omega),gG _ _ _ l1,rc ⟨by omega,by omega⟩,<- h]
 congr 1;omega
theorem Rb {α:Type} {k:Nat} {cs vs l:List α} (hl:(af6 cs)+af6 vs<=af6 l) (hk:k<=af6 cs) (lO: ∀(j:Nat) (v:α),j<k->cs[j]? =afa v->l[j]? =afa v):
 ∀(j:Nat) (v:α),(cs.take k++vs++cs.drop k)[j]? =afa v->(lZ (k+af6 vs) (cs.drop k) (lZ k vs l))[j]? =afa v:=by
 intro j v h;have hd:(cs.drop k).length=af6 cs-k:=aex;have ht:(cs.take k).length=k:=by rw [aey];omega
 have l1:k+af6 vs<=(af6 l):=by omega
 rw [gG _ _ _ (by rw [cQ _ _ _ l1,hd];omega)];rcases aau j k with h1|h1
 · rw [ut (by omega),gG _ _ _ l1,ut (by omega)]
   rw [adc,If (by omega),aew h1] at h;exact lO j v h1 h
 rw [adc,PP (by omega),ht] at h
 rcases aau (j-k) (af6 vs) with h2|h2
 · rw [If h2] at h
   rw [ut (by omega),gG _ _ _ l1,rc ⟨by omega,by omega⟩,<- h]
 rw [PP h2] at h
 have:=(EQ.1 h).1;rw [rc ⟨by omega,by omega⟩,<- h]
 congr 1;omega
theorem SR.Pe (h:SR im loc ax fz w) {t:Nat} (hf:has fz t=afd) {r:mT} (hw:r.wr=[(t,.dead)]):iR im loc ax w r where
 bB:=h.bB
 tok:=fun t _ li hl=>h.c6 t li hl
 free:=fun t' k hm li k' hl hk hs=>by
  rw [hw] at hm;obtain rfl:t'=t:=by have:=ac1.1 hm;injection this
  exact h.free t' li k' hl hk hs hf
 fresh:=fun j hj=>by
  cases hl:loc (af6 ax+j) with
  |none=>rfl
  |some li=>obtain ⟨k,hk,_⟩:=h.c6 _ _ hl;rw [List.getElem?_eq_none (by omega)] at hk;cases hk
 iq:=fun t u li lj k k' _ _=>h.iq t u li lj k k'
structure JX (P:Program) (f:FuncId) (e:Nat) (tS:TypeId):Prop where
 ends: ∀(nZ:Option Addr) (n c vb nP vc:Nat) (w w':World) (v':Value),n<=c->(Builtin.append_ #[tS,tS] tS #[.slice nZ n c,.slice (afa ⟨vb,nP,afb⟩) 1 vc]).run P w= .ok v' w'->
  Calls P f #[.slice nZ n c,.int .i64 n,.slice (afa ⟨vb,nP,afb⟩) 1 vc] w fun e W=>e= .returned v'/\W=w'
 room: ∀(b off n c i vb nP vc:Nat) (cs vs:List Value) (arr av:Array Value) (el ev:TypeId) (w:World),i<n->n+1<=c->n<=1048576->vb≠b->w.heap[b]? =afa (.cells arr el (0,0))->w.heap[vb]? =afa (.cells av ev (0,0))->
  off+(n+1)*e<=arr.size->af6 cs=n*e->af6 vs=e->(∀(j:Nat) (v:Value),cs[j]? =afa v->arr[off+j]? =afa v)->(∀(j:Nat) (v:Value),vs[j]? =afa v->av[nP+j]? =afa v)->(∀v∈cs,v.oneCell'=afc)->(∀v∈vs,v.oneCell'=afc)->
  ∃fin:List Value,af6 fin=arr.size/\(∀(j:Nat) (v:Value),(cs.take (i*e)++vs++cs.drop (i*e))[j]? =afa v->fin[off+j]? =afa v)/\
  Calls P f #[.slice (afa ⟨b,off,afb⟩) n c,.int .i64 i,.slice (afa ⟨vb,nP,afb⟩) 1 vc] w fun x w'=>
   x= .returned (.slice (afa ⟨b,off,afb⟩) (n+1) c)/\w'.heap=w.heap.setIfInBounds b (.cells fin.toArray el (0,0))/\w'.os=w.os/\Tape w w'/\w'.output=w.output
 full: ∀(b off n i vb nP vc:Nat) (cs vs:List Value) (w:World),i<n->n<=1048576->af6 cs=n*e->af6 vs=e->
  (∀(j:Nat) (v:Value),cs[j]? =afa v->w.cell? ⟨b,off+j,afb⟩=afa v)->(∀(j:Nat) (v:Value),vs[j]? =afa v->w.cell? ⟨vb,nP+j,afb⟩=afa v)->(∀v∈cs,v.oneCell'=afc)->(∀v∈vs,v.oneCell'=afc)->
  ∃(G:Nat) (fin:List Value) (el:TypeId),n+1<=G/\af6 fin=G*e/\(∀(j:Nat) (v:Value),(cs.take (i*e)++vs++cs.drop (i*e))[j]? =afa v->fin[j]? =afa v)/\
  Calls P f #[.slice (afa ⟨b,off,afb⟩) n n,.int .i64 i,.slice (afa ⟨vb,nP,afb⟩) 1 vc] w fun x w'=>
   x= .returned (.slice (afa ⟨w.heap.size,0,afb⟩) (n+1) G)/\w'.heap=w.heap.push (.cells fin.toArray el (0,0))/\w'.os=w.os/\Tape w w'/\w'.output=w.output
theorem AA.ins {f:FuncId} {e:Nat} {tS tE:TypeId} {fn:Func} {c:Code} {i0:TypeInfo} {z:Value} (hf:P.funcs[f]? =afa fn) (pt:(fn.name== "runtime.NumGoroutine")=afd) (hb:fn.body=afa c)
 (ht:P.underlying tS=afa (.slice tE)) (hi:P.info? tE=afa i0) (pL:i0.size=e) (hz:i0.zero=afa z) (Ju:z.cells.size=e) (LK:i0.bytes<=1048576) (he0:0<e) (H:JX P f e tS):AA P f (HF e):=by
 refine ⟨fn,c,hf,pt,hb,?_⟩;intro args ax fz v tX HU hp im loc w us jS wI;unfold HF at hp;split at hp
 case h_2=>cases hp
 rename_i t e1 off len cap ex i u e2 aeW Jl Rc ex2;split at hp
 case h_2=>cases hp
 rename_i e3 rows e4 new bW hsu;split at hp
 case isFalse=>cases hp
 rename_i hc;simp only [v6,aeM,aah,decide_eq_true_eq,ae6] at hc;obtain ⟨⟨⟨⟨⟨⟨⟨⟨⟨⟨⟨q1,q2⟩,rfl⟩,rfl⟩,cO⟩,rfl⟩,Au⟩,htu⟩,Qm⟩,NM⟩,hil⟩,gX⟩:=hc;have q1:=q1.symm;subst q1;have q2:=q2.symm;subst q2;have gX:len+1<=1048576:=gX;injection hp with hp;simp only [NE] at hp;obtain ⟨rfl,rfl,rfl⟩:=hp;obtain ⟨k,rfl⟩: ∃k:Nat,i=(k:Int):=⟨i.toNat,by omega⟩;simp only [Int.toNat_natCast] at hil ⊢;obtain ⟨x0,Pf,rfl,H7,wI⟩: ∃x0 Pf,us=x0::Pf/\VR im loc (.own t e 0 len cap ex) x0/\eI im loc [.int .i64 (k:Int),.own u e 0 1 Rc ex2] Pf:=by cases wI with|cons _ a _ b h1 h2=>exact ⟨a,b,rfl,h1,h2⟩
 obtain ⟨x1,us2,rfl,FZ,wI⟩: ∃x1 us2,Pf=x1::us2/\VR im loc (.int .i64 (k:Int)) x1/\eI im loc [.own u e 0 1 Rc ex2] us2:=by cases wI with|cons _ a _ b h1 h2=>exact ⟨a,b,rfl,h1,h2⟩
 obtain ⟨x2,us3,rfl,TX,wI⟩: ∃x2 us3,us2=x2::us3/\VR im loc (.own u e 0 1 Rc ex2) x2/\eI im loc [] us3:=by cases wI with|cons _ a _ b h1 h2=>exact ⟨a,b,rfl,h1,h2⟩
 obtain rfl:us3=[]:=by cases wI;rfl
 have FZ:=FZ.ga;subst FZ;obtain ⟨li,a,cP,rfl,hl,he,BC,hlc,LD,_,Av⟩:=H7.gF;obtain ⟨lj,a2,Re,rfl,Jt,wb,amq,anP,anQ,_,afO⟩:=TX.gF;have L1:t<(af6 ax):=(EQ.1 bW).1;obtain ⟨k1,gC,qH⟩:=jS.c6 t li hl;rw [bW] at gC;injection gC with gC;subst gC;obtain ⟨k2,Br,ajj⟩:=jS.c6 u lj Jt;rw [hsu] at Br;injection Br with Br;subst Br;obtain ⟨b1,b2,b3⟩:=qH;obtain ⟨d1,d2,d3⟩:=ajj;have aas:new≠[]:=by intro h;subst h;simp at Au
 obtain ⟨av,ev,Lv,hv2,hv3,aat⟩:=d3 aas;have e34:e=e3:=by rw [<- b1,he]
 subst e34;have e44:e=e4:=by rw [<- d1,wb]
 subst e44;obtain rfl:a2=afa ⟨lj.c6,lj.sh,afb⟩:=by
  rcases afO with h|⟨_,h,_⟩
  · omega
  simpa using h
 have F5:=aat.m7;have Qn:=aat.plain;have F6:=dv F5;rw [Au] at F6;refine .inr ⟨gZ hf pt hb,?_⟩;rcases aau k len with hk|hk
 ·
  have m9:rows≠[]:=by intro h;subst h;simp at cO;omega
  obtain ⟨arr,el,rV,HK,I8,cW⟩:=b3 m9;obtain ⟨Uc,rfl,pQ⟩:li.n≠0/\a=afa ⟨li.c6,li.sh,afb⟩/\li.sh+cP*e<=li.sz:=by
   rcases Av with h|⟨h1,h2,h3⟩
   · omega
   exact ⟨h1,by simpa using h2,by simpa using h3⟩
  have Jr:=cW.m7;have Uf:=cW.plain;have QB:=dv Jr;rw [<- cO] at QB;obtain ⟨L,hL⟩: ∃L,L=rows.take k++new++rows.drop k:=⟨_,rfl⟩;have hLl:(af6 L)=len+1:=by rw [hL];simp only [ac2,aey,aex,Au];omega
  have hLf:L.flatMap aU=(rows.flatMap aU).take (k*e)++new.flatMap aU++(rows.flatMap aU).drop (k*e):=by rw [hL,aeh,aeh,GJ Jr,GK Jr]
  have hLr: ∀r∈L,af6 r=e:=by
   intro r hr;rw [hL] at hr;rcases aax.1 hr with h|h
   · rcases aax.1 h with h|h
     · exact Jr r (aeH h)
     exact F5 r h
   exact Jr r (aeI h)
  have hLp: ∀r∈L,∀c∈r,c.plain=afc:=by
   intro r hr;rw [hL] at hr;rcases aax.1 hr with h|h
   · rcases aax.1 h with h|h
     · exact Uf r (aeH h)
     exact Qn r h
   exact Uf r (aeI h)
  rw [<- hL,<- hLl];have lO: ∀j v,(rows.flatMap aU)[j]? =afa v->arr[li.sh+j]? =afa v:=fun j v hj=>cW.flat j v hj
  have HP: ∀j v,(new.flatMap aU)[j]? =afa v->av[lj.sh+j]? =afa v:=fun j v hj=>aat.flat j v hj
  have F2:(len+1)*e<=cP*e\/cP=len:=by
   rcases aau len cP with h|h
   · exact .inl (aeJ _ h)
   exact .inr (by omega)
  rcases F2 with rW|NI
  · have afQ:len+1<=cP:=Nat.le_of_mul_le_mul_right rW he0
    have dK:lj.c6≠li.c6:=fun h=>by have:=jS.iq u t lj li _ _ Jt hl hsu bW (mE aas) (mE m9) h;rw [this] at htu;simp at htu
    obtain ⟨fin,f1,f2,f3⟩:=H.room li.c6 li.sh len cP k lj.c6 lj.sh Re _ _ arr av el ev w hk afQ (by omega) dK rV Lv (by omega) QB (by omega) lO HP (m8 Uf) (m8 Qn);refine f3.mono fun x w' ⟨hx,hh,ho,htp,hpp⟩=>⟨_,hx,im,loc.set (af6 ax) ⟨li.c6,li.sh,e,af6 L,li.sz⟩,?_⟩
    have hE:=Pd (w':=w') (L:=L) jS hl bW m9 Qm rV hh ho htp hpp (by simp [f1,HK]) (by rw [hLl];omega) (bK.zu hLr hLp fun j v hj=>by rw [hLf] at hj;simpa using f2 j v hj);refine yi jS hE rfl rfl L1 ?_;rw [<- hLl];exact .own _ _ 0 _ _ afd ⟨li.c6,li.sh,e,af6 L,li.sz⟩ _ cP (Loc.eC _ _ _) rfl (by show 0+af6 L<=af6 L;omega) (M2 _) (by omega) (fun h=>by cases h) (.inr ⟨by show (af6 L)≠0;omega,by simp,by show li.sh+(0+cP)*e<=li.sz;rw [af5];exact pQ⟩)
  subst NI
  obtain ⟨G,fin,el',g1,g2,g3,g4⟩:=H.full li.c6 li.sh cP k lj.c6 lj.sh Re _ _ w hk (by omega) QB (by omega) (fun j v hj=>by simp only [aeS,rV];exact lO j v hj) (fun j v hj=>by simp only [aeS,Lv];exact HP j v hj) (m8 Uf) (m8 Qn);have hg:(cP+1)*e<=G*e:=aeJ _ g1;refine g4.mono fun x w' ⟨hx,hh,ho,htp,hpp⟩=>⟨_,hx,im,loc.set (af6 ax) ⟨w.heap.size,0,e,af6 L,fin.toArray.size⟩,?_⟩
  have hE:=GI (w':=w') (t:=t) (L:=L) (e:=e) jS hh ho htp hpp (by rw [hLl];simp [g2];omega) (bK.zu hLr hLp fun j v hj=>by rw [hLf] at hj;simpa using g3 j v hj);refine yi jS hE rfl rfl L1 ?_;rw [<- hLl];exact .own _ _ 0 _ _ afd ⟨w.heap.size,0,e,af6 L,fin.toArray.size⟩ _ G (Loc.eC _ _ _) rfl (by show 0+af6 L<=af6 L;omega) (M2 _) (by omega) (fun h=>by cases h) (.inr ⟨by show (af6 L)≠0;omega,by simp,by show 0+(0+G)*e<=fin.toArray.size;simp [g2]⟩)
 ·
  obtain rfl:k=len:=by omega
  have ajk:rows.take k++new++rows.drop k=rows++new:=by rw [acl (by omega),aez (by omega),List.append_nil]
  rw [ajk];have ajl:VR im loc (.own t e 0 k k afd) (.slice a k cP):= .own t e 0 k k afd li a cP hl he (by omega) (M2 _) (by omega) (by simp) Av;have Ak:rowsOf ax e (.own u e 0 1 Rc ex2)=afa new:=by
   have:(new.drop 0).take 1=new:=by rw [aeY,acl (by omega)]
   show (if Do e e=afc then (match ax[u]? with|some (.arr _ rows)=>afa ((rows.drop 0).take 1)|_=>afb) else afb)=_;rw [rc (Nat.beq_refl e),hsu];exact congrArg afa this
  have hap:iw ax fz e (.own t e 0 k k afd) (.own u e 0 1 Rc ex2)=afa {v:= .own (af6 ax) e 0 (k+1) (k+1) afd,news:=[.arr e (rows++new)],wr:=[(t,.dead)],rd:=[u]}:=by
   have h1:aaB (k+1) k=afd:=by
    cases h:aaB (k+1) k with
    |false=>rfl
    |true=>have:=Nat.le_of_ble_eq_true h;omega
   have h2:aaB (k+1) eA=afc:=by simpa [eA] using gX
   have h3:(rows.drop 0).take k=rows:=by rw [aeY,acl (by omega)]
   unfold iw;rw [Ak];cases new with
   |nil=>exact absurd rfl aas
   |cons r rs=>have h0:(r::rs).length=1:=Au;simp only [h0,bW,h1,h2,h3,Qm,iv];simp
  obtain ⟨v',w',bj,bT,nO,hE⟩:=DT (P:=P) (w:=w) (ty:=tS) ht ht hi pL hz Ju LK ajl TX hap (jS.Pe Qm rfl);refine (H.ends a k cP lj.c6 lj.sh Re w w' v' (by omega) bT).mono fun x W ⟨hx,hW⟩=>⟨v',hx,im,bj,?_⟩
  subst hW;exact yi jS hE rfl rfl L1 nO
end
end Go.Vm
/- slices.Concat of two slices that nobody writes to: the table's entry. -/
namespace Go.Vm
def Rf (P : Program) (f : FuncId) : Prop :=
  ∀ (vb c : Nat) (a1 a2 : Option Addr) (c1 c2 : Nat) (F' Ga : List Value) (av : Array Value) (ev : TypeId) (w : World), w.heap[vb]? = afa (.cells av ev (0, 0)) -> av[0]? = afa (.slice a1 (af6 F') c1) -> av[1]? = afa (.slice a2 (af6 Ga) c2) -> 1 <= (af6 F') + (af6 Ga) -> (af6 F') + (af6 Ga) <= 1048576 ->
    (∀ (j : Nat) (v : Value), F'[j]? = afa v -> ∃ b o, a1 = afa ⟨b, o, afb⟩ /\ w.cell? ⟨b, o + j, afb⟩ = afa v) -> (∀ (j : Nat) (v : Value), Ga[j]? = afa v -> ∃ b o, a2 = afa ⟨b, o, afb⟩ /\ w.cell? ⟨b, o + j, afb⟩ = afa v) -> (∀ v ∈ F', v.oneCell' = afc) -> (∀ v ∈ Ga, v.oneCell' = afc) ->
    ∃ (G : Nat) (fin : List Value) (el : TypeId), (af6 F') + (af6 Ga) <= G /\ (af6 fin) = G /\ (∀ (j : Nat) (v : Value), (F' ++ Ga)[j]? = afa v -> fin[j]? = afa v) /\
    Calls P f #[.slice (afa ⟨vb, 0, afb⟩) 2 c] w fun x w' => x = .returned (.slice (afa ⟨w.heap.size, 0, afb⟩) ((af6 F') + (af6 Ga)) G) /\ w'.heap = w.heap.push (.cells fin.toArray el (0, 0)) /\ w'.os = w.os /\ Tape w w' /\ w'.output = w.output
section
variable {P : Program} {im : Im} {loc : Loc} {w : World}
theorem mq {rows:List Row} (h:uO rows=afc):(∀r∈rows,af6 r=1)/\ ∀r∈rows,∀c∈r,c.plain=afc:=by
 unfold uO at h;rw [aaG] at h;constructor
 · intro r hr
   have:=h r hr;simp only [v6,aeM] at this;exact this.1
 intro r hr c hc
 have:=h r hr;simp only [v6,aaG] at this;exact this.2 c hc
theorem JY {e:Nat} {cl:Bool} {rows:List Row} {u:Value} (h:VR im loc (.sl e cl rows) u) (h1:uO rows=afc) (he:(Do e 1||rows.isEmpty)=afc) (bB: ∀b o,im b=afa o->w.heap[b]? =afa o):
 ∃a c,u= .slice a (rows.flatMap aU).length c/\(rows.flatMap aU).length=af6 rows/\ ∀(j:Nat) (v:Value),(rows.flatMap aU)[j]? =afa v-> ∃b o,a=afa ⟨b,o,afb⟩/\w.cell? ⟨b,o+j,afb⟩=afa v:=by
 obtain ⟨a,cap,rfl,_,_,kJ⟩:=h.mZ;obtain ⟨l1,l2⟩:=mq h1;have hl:=dv l1;rw [Nat.mul_one] at hl;refine ⟨a,cap,by rw [hl],hl,fun j v hj=>?_⟩;have dK:rows≠[]:=by intro h;subst h;simp at hj
 obtain ⟨b,o,rfl,cW⟩:=kJ dK;obtain rfl:e=1:=by
  cases rows with
  |nil=>exact absurd rfl dK
  |cons r rs=>simpa using he
 exact ⟨b,o,rfl,ph bB (cW.flat j v hj)⟩
theorem AA.cat {f:FuncId} {fn:Func} {c:Code} (hf:P.funcs[f]? =afa fn) (pt:(fn.name== "runtime.NumGoroutine")=afd) (hb:fn.body=afa c) (H:Rf P f):AA P f HD:=by
 refine ⟨fn,c,hf,pt,hb,?_⟩;intro args ax fz v tX HU hp im loc w us jS wI;unfold HD at hp;split at hp
 case h_2=>cases hp
 rename_i t e off len cap ex;split at hp
 case h_2=>cases hp
 rename_i e1 cl1 x e2 cl2 y bW;split at hp
 case isFalse=>cases hp
 rename_i hc;simp only [v6,aeM,aah,ae6] at hc;obtain ⟨⟨⟨⟨⟨⟨⟨⟨⟨rfl,rfl⟩,rfl⟩,Qm⟩,FZ⟩,Uz⟩,F4⟩,gX⟩,Qo⟩,wb⟩:=hc;have gX:(af6 x)+af6 y<=1048576:=gX;injection hp with hp;simp only [NE] at hp;obtain ⟨rfl,rfl,rfl⟩:=hp;obtain ⟨x0,Pf,rfl,H7,wI⟩: ∃x0 Pf,us=x0::Pf/\VR im loc (.own t 1 0 2 cap ex) x0/\eI im loc [] Pf:=by cases wI with|cons _ a _ b h1 h2=>exact ⟨a,b,rfl,h1,h2⟩
 obtain rfl:Pf=[]:=by cases wI;rfl
 obtain ⟨li,a,cP,rfl,hl,he,BC,hlc,LD,_,Av⟩:=H7.gF;obtain ⟨k1,gC,qH⟩:=jS.c6 t li hl;rw [bW] at gC;injection gC with gC;subst gC;obtain ⟨_,_,b3,vs,ev,b4,b5,b6⟩:=qH;have L1:t<(af6 ax):=(EQ.1 bW).1;obtain ⟨u1,vs1,rfl,v1,b6⟩: ∃u1 vs1,vs=u1::vs1/\VR im loc (.sl e1 cl1 x) u1/\eI im loc [.sl e2 cl2 y] vs1:=by cases b6 with|cons _ a _ b h1 h2=>exact ⟨a,b,rfl,h1,h2⟩
 obtain ⟨u2,vs2,rfl,v2,b6⟩: ∃u2 vs2,vs1=u2::vs2/\VR im loc (.sl e2 cl2 y) u2/\eI im loc [] vs2:=by cases b6 with|cons _ a _ b h1 h2=>exact ⟨a,b,rfl,h1,h2⟩
 obtain rfl:vs2=[]:=by cases b6;rfl
 obtain rfl:a=afa ⟨li.c6,0,afb⟩:=by
  rcases Av with h|⟨_,h,_⟩
  · omega
  rw [b3] at h;simpa using h
 obtain ⟨a1,d1,rfl,l1,r1⟩:=JY v1 FZ Qo jS.bB;obtain ⟨a2,d2,rfl,l2,r2⟩:=JY v2 Uz wb jS.bB;obtain ⟨G,fin,el,g1,g2,g3,g4⟩:=H li.c6 cP a1 a2 d1 d2 (x.flatMap aU) (y.flatMap aU) _ ev w b4 rfl rfl (by omega) (by omega) r1 r2 (m8 (mq FZ).2) (m8 (mq Uz).2);refine .inr ⟨gZ hf pt hb,?_⟩;have hL:(x++y).length=(x.flatMap aU).length+(y.flatMap aU).length:=by rw [ac2];omega
 refine g4.mono fun z w' ⟨hz,hh,ho,htp,hpp⟩=>⟨_,hz,im,loc.set (af6 ax) ⟨w.heap.size,0,1,(x++y).length,fin.toArray.size⟩,?_⟩
 have hE:=GI (w':=w') (t:=t) (L:=x++y) (e:=1) jS hh ho htp hpp (by rw [Nat.mul_one,hL,List.size_toArray,g2];exact g1) (bK.zu (fun r hr=>by
  rcases aax.1 hr with h|h
  · exact (mq FZ).1 r h
  · exact (mq Uz).1 r h) (fun r hr=>by
  rcases aax.1 hr with h|h
  · exact (mq FZ).2 r h
  · exact (mq Uz).2 r h) fun j v hj=>by
  rw [aeh] at hj;simpa using g3 j v hj)
 refine yi jS hE rfl rfl L1 ?_;rw [<- hL];exact .own _ _ 0 _ _ afd ⟨w.heap.size,0,1,(x++y).length,fin.toArray.size⟩ _ G (Loc.eC _ _ _) rfl (by show 0+(x++y).length<=(x++y).length;rw [af5];exact M2 _) (M2 _) (by rw [hL];exact g1) (fun h=>by cases h) (.inr ⟨by show (x++y).length≠0;omega,by simp,by show 0+(0+G)*1<=fin.toArray.size;simp [g2]⟩)
end
end Go.Vm
/- A table of functions as a tree. -/
namespace Go.Vm
inductive TT where
 |nil
 |leaf (k:Nat) (e:Y5)
 |node (m:Nat) (a b:TT)
def TT.get:TT->Nat->Option Y5
 | .nil,_=>afb
 | .leaf k e,f=>bif Do f k then afa e else afb
 | .node m a b,f=>bif ae8 f m then a.get f else b.get f
def TT.All (p:Nat->Y5->Prop):TT->Prop
 | .nil=>True
 | .leaf k e=>p k e
 | .node _ a b=>a.All p/\b.All p
theorem TT.AL {p:Nat->Y5->Prop}: ∀{t:TT} {f:Nat} {e:Y5},t.All p->t.get f=afa e->p f e
 | .nil,f,e,_,h=>by cases h
 | .leaf k e',f,e,ha,h=>by
  simp only [TT.get] at h;cases hk:Do f k with
  |false=>rw [hk] at h;cases h
  |true=>
   rw [hk] at h;have:f=k:=by simpa using hk
   subst this;have h:afa e'=afa e:=h;injection h with h;subst h;exact ha
 | .node m a b,f,e,ha,h=>by
  simp only [TT.get] at h;cases hk:ae8 f m with
  |false=>rw [hk] at h;exact TT.AL ha.2 h
  |true=>rw [hk] at h;exact TT.AL ha.1 h
def rZ (P:Program) (f:Nat):Y5->Prop
 | .code x=>aB P (fun _=>afc) x f=afc
 | .jD k p=>k=afd/\HV P f p
 | .FW p=>AA P f p
theorem TT.afR {P:Program} {t:TT} (h:t.All (rZ P)):JT P (fun _=>afc) t.get:=fun f x hf=>by have:=TT.AL h hf;exact this
theorem TT.UA {P:Program} {t:TT} (h:t.All (rZ P)):yd P t.get:=⟨fun _ _ _ hf=>TT.AL h hf,fun _ _ hf=>TT.AL h hf⟩
end Go.Vm
/- The logical machine's code of a function, reckoned from the model's own (what it comes to is looked at by chkFunc; nothing is proved of it here). -/
namespace Go.Vm
structure Hint where
 md:FuncId->CM
 ft:List Nat
 ajm:List (Nat×List (Nat×Nat)):=[]
 more:List (Nat×List (Nat×Option Nat)):=[]
 tb:Bool:=afd
section
variable (P : Program)
def Pg (t:TypeId):Nat:=match P.info? t with
 |some i=>i.size
 |none=>0
def L7 (t:TypeId):Option Nat:=match P.underlying t with
 |some (.struct _)|some (.array _ _)=>afa (Pg P t)
 |_=>afb
def sX:Nat->TypeId->List PV
 |0,_=>[]
 |n+1,t=>match P.underlying t with
  |some (.int k)=>[.int k 0]
  |some .bool=>[.bool afd]
  |some .string=>[.str .empty]
  |some (.slice e)=>[.sl (Pg P e) afc []]
  |some (.struct fs)=>fs.toList.flatMap fun f=>sX n f.type
  |some (.array m e)=>(ae1 m (sX n e)).flatten
  |some (.func ..)=>[.dH]
  |_=>[.undef]
def Zo (t:TypeId):PV:=match sX P 9 t with
 |x::_=>x
 | []=> .sl 0 afc []
def Zp (t:TypeId):PV:=match L7 P t with
 |some _=> .agg (sX P 9 t)
 |none=>Zo P t
def Zq (z:PV):Value->PV
 | .int k n=> .int k n
 | .bool b=> .bool b
 | .string s=> .str s
 | .slice .. =>z
 | .nilFunc=> .dH
 |_=> .undef
def Zr:List PV->List Value->List PV
 |z::zs,v::vs=>Zq z v::Zr zs vs
 |_,_=>[]
def ajn (t:TypeId):Value->PV
 | .agg vs=> .agg (Zr (sX P 9 t) vs.toList)
 |v=>Zq (Zo P t) v
def qg (t:TypeId):Operand->fv
 | .tmp n=> .t n
 | .const v=> .c (ajn P t v)
 | .func f=> .c (.ez f [] [])
 | .global _=> .c .undef
def Rg:List TypeId->List Operand->List fv
 |t::ts,o::os=>qg P t o::Rg ts os
 |_,_=>[]
def gf:Operand->fv
 | .tmp n=> .t n
 | .const (.int k n)=> .c (.int k n)
 | .const (.bool b)=> .c (.bool b)
 | .const (.string s)=> .c (.str s)
 | .func f=> .c (.ez f [] [])
 |_=> .c .undef
def yV (t:TypeId):TypeId:=match P.underlying t with
 |some (.slice e)=>e
 |some (.array _ e)=>e
 |_=>0
def Rh (place:Nat->Option (Nat×Nat)) (ty:Nat->TypeId):List (Nat×Operand)->List (Nat×Nat×fv)
 | []=>[]
 |(i,o)::r=>match place i with
  |some (a,b)=>(a,b,qg P (ty i) o)::Rh place ty r
  |none=>[]
def Ri (t:TypeId) (i:Nat):TypeId:=match P.underlying t with
 |some (.struct fs)=>match fs[i]? with
  |some f=>f.type
  |none=>0
 |some (.array _ e)=>e
 |_=>0
def afS (t:TypeId) (i:Nat):Nat:=match P.underlying t with
 |some (.struct fs)=>match fs[i]? with
  |some f=>f.offset
  |none=>0
 |_=>0
def Zs:BinOp->Bool
 | .neq=>afc
 |_=>afd
def Rj (b:Builtin) (args:List Operand) (ts:List TypeId):kv:=
 match b,args,ts with
 | .len,x::_,t::_=>match P.underlying t with
  |some (.slice _)|some (.map _ _)=> .len (qg P t x)
  |some (.array m _)=> .LB m
  |some (.pointer e)=>match P.underlying e with
   |some (.array m _)=> .LB m
   |_=> .bad
  |_=> .bad
 | .append,[x,y],[t,u]=>match P.underlying u with
  |some (.slice _)=> .append (Pg P (yV P t)) (qg P t x) (qg P u y)
  |_=> .bad
 | .copy,[x,y],[t,u]=>match P.underlying u with
  |some (.slice _)=> .copy (Pg P (yV P t)) (qg P t x) (qg P u y)
  |_=> .bad
 | .clear,[x],[t]=>match P.underlying t with
  |some (.slice e)=> .clear (Pg P e) (sX P 9 e) (qg P t x)
  |_=> .bad
 | .min,x::xs,_=> .mm afd (gf x) (xs.map gf)
 | .max,x::xs,_=> .mm afc (gf x) (xs.map gf)
 |_,_,_=> .bad
def cOp (tb:Bool) (md:FuncId->CM) (ty:TypeId):Op->kv
 | .move x| .assign x=> .Qk (qg P ty x)
 | .pick c a b=> .pick (gf c) (qg P ty a) (qg P ty b)
 | .binOp op t x y _=>match P.underlying t with
  |some (.int _)=> .bin op (gf x) (gf y)
  |some .bool=> .Jd (Zs op) (gf x) (gf y)
  |some (.struct _)|some (.array _ _)=> .Y1 (Pg P t) (Zs op) (qg P t x) (qg P t y)
  |_=> .bad
 | .unOp op _ x=> .un op (gf x)
 | .convert _ t x=>match P.underlying t with
  |some (.int k)=> .conv k (gf x)
  |_=> .bad
 | .box t x=> .box (qg P t x)
 | .alloc t=> .alloc (sX P 9 t)
 | .build t ps=> .build (sX P 9 t) (Rh P (placeOf P t) (Ri P t) ps.toList)
 | .buildSlice t n ps=>match P.underlying (yV P t),n,ps.toList with
  |some (.slice _),2,[(0,a),(1,b)]=> .Cz (qg P (yV P t) a) (qg P (yV P t) b)
  |_,_,_=> .Am (Pg P (yV P t)) n (sX P 9 (yV P t)) (ps.toList.map fun p=>(p.1,qg P (yV P t) p.2))
 | .load t a=> .load (L7 P t) (gf a)
 | .store t a v=> .store (Pg P t) (gf a) (qg P t v)
 | .nilCheck x=> .Je (gf x)
 | .fieldAddr t a f=> .Jf (afS P t f) (gf a)
 | .field t a f=> .j0 (L7 P (Ri P t f)) (afS P t f) (gf a)
 | .indexAddr t a j=>match P.underlying t with
  |some (.slice e)=> .Jg (Pg P e) (qg P t a) (gf j)
  |some (.array m e)=> .CA m (Pg P e) (gf a) (gf j)
  |_=> .bad
 | .index t a j=>match P.underlying t with
  |some (.array m e)=> .idx m (Pg P e) (L7 P e) (qg P t a) (gf j)
  |some .string=> .Jh (gf a) (gf j)
  |_=> .bad
 | .slice t a b c d=>match P.underlying t with
  |some (.slice e)=> .OM (Pg P e) (qg P t a) (b.map gf) (c.map gf) (d.map gf)
  |_=> .bad
 | .makeSlice t a b=> .Y2 (Pg P (yV P t)) (sX P 9 (yV P t)) (gf a) (gf b)
 | .makeFunc (.func g) c d=> .Y3 g (c.toList.map gf) (d.toList.map gf)
 | .makeMap t _=> .Y4 (bif tb then (match P.underlying t with
  |some (.map _ e)=>afa (Zp P e)
  |_=>afb) else afb)
 | .extract a j=> .ext j (gf a)
 | .lookup t a b ok=>match P.underlying t with
  |some (.map k e)=> .lookup (L7 P k) (Zp P e) ok (gf a) (qg P k b)
  |_=> .bad
 | .mapUpdate t a b c| .insert t a b c=>match P.underlying t with
  |some (.map k e)=> .HA (L7 P k) (gf a) (qg P k b) (qg P e c)
  |_=> .bad
 | .call c=>match c.callee with
  | .builtin b=>Rj P b c.args.toList c.argTypes.toList
  | .value (.func f)=> .call (md f) f (Rg P c.argTypes.toList c.args.toList)
  | .value x=> .vY (gf x) (Rg P c.argTypes.toList c.args.toList)
  |_=> .bad
 |_=> .bad
def afT (tb:Bool) (md:FuncId->CM) (ops:Array Oper) (o:Oper):bM:=
 ⟨o.dst,cOp P tb md o.type o.op,match o.guard with
  |some (i,b)=>match ops[i]? with
   |some q=>match q.dst with
    |some d=>afa (d,b)
    |none=>afb
   |none=>afb
  |none=>afb⟩
def Rk:List Nat->List Oper->List Nat
 |acc,[]=>acc
 |acc,o::os=>Rk (acc++[(mF acc (af6 acc) o.after.toList).getD 0]) os
def bitsOf:Nat->Nat->Nat->List Nat
 |0,_,_=>[]
 |n+1,i,m=>bif Do m 0 then [] else bif Do (Nat.mod m 2) 1 then i::bitsOf n (i+1) (Nat.div m 2) else bitsOf n (i+1) (Nat.div m 2)
def Rl (l:List (Nat×Nat)) (x:Nat):Nat×Option Nat:=match l with
 | []=>(x,afb)
 |(t,k)::r=>bif Do t x then (x,afa k) else Rl r x
def Rm {α:Type} (n:Nat):List (Nat×List α)->List α
 | []=>[]
 |(m,l)::r=>bif Do m n then l else Rm n r
def hd (l:List Nat):Nat:=match l with
 |x::_=>x
 | []=>0
structure CSt where
 ks:List Nat
 n:Nat
def Ek (H:Hint):Code->CSt->iQ×CSt
 | .region _ ops dr,s=>(.region (match dr with|true=>afa (Rk [] ops.toList)|false=>afb) (ops.toList.map (afT P H.tb H.md ops)) (bitsOf 1000 0 (hd s.ks)),⟨s.ks.tail,s.n⟩)
 | .seq a b,s=>match Ek H a s with
  |(x,s1)=>match Ek H b s1 with
   |(y,s2)=>(.seq x y,s2)
 | .cond c a b,s=>match Ek H a s with
  |(x,s1)=>match Ek H b s1 with
   |(y,s2)=>(.cond (gf c) x y,s2)
 | .block id b,s=>match Ek H b s with
  |(x,s1)=>(.block id x,s1)
 | .loop b,s=>match Ek H b ⟨s.ks.tail,s.n+1⟩ with
  |(x,s1)=>(.loop ((bitsOf 1000 0 (hd s.ks)).map (Rl (Rm s.n H.ajm))++Rm s.n H.more) x,s1)
 | .exit id,s=>(.exit id,s)
 | .ret,s=>(.ret,s)
 |_,s=>(.skip,s)
def ajo:ResultVar->RV
 | .tmp t=> .tmp t
 | .cell t ty=> .cell t (L7 P ty)
def aaw (fn:Func) (H:Hint):aN:=
 ⟨fn.params.size+fn.nfree,match fn.body with
  |some c=>(Ek P H c ⟨H.ft,0⟩).1
  |none=> .skip,fn.results.toList.map (ajo P)⟩
def ajp (ow sh fp:List Nat) (f:FuncId):CM:=bif has ow f then .own else bif has sh f then .shr else bif has fp f then .fp else .TO
end
end Go.Vm
/- A law's row from what the logical machine answers: the result is afc, nothing that was there has turned. -/
namespace Go.Vm
open Go.ChangeShapes Go.WideShapes Go.ChangeAt Go.RowKit
section
variable {H : Type} {enc : TypeId × Value -> H} {P : Program}
theorem yW (hl:laidOutB P=afc) {W W':World} (hb:Below W.heap.size W W'): ∀{ts:List TypeId} {vs:List Value} {ds:List (DataW H)} {ps:List MemPlace},(∀t∈ts,P.readableRec t=afc/\t<P.types.size)->
 DataW.TrodAll enc P W 0 (fun _=>afc) afc ts vs ds ps->(∀x∈ps,x.block<W.heap.size)->DataW.TrodAll enc P W' 0 (fun b=>decide (b<W.heap.size)) afc ts vs ds ps
 | [],vs,ds,ps,_,h,_=>by obtain ⟨rfl,rfl,rfl⟩:=trodAll_nil h;exact trodAll_mk0
 |t::ts,vs,ds,ps,ht,h,dz=>by obtain ⟨v,Lt,d,Al,p,q,rfl,rfl,rfl,h1,h2⟩:=trodAll_cons h;obtain ⟨h3,h4⟩:=ht t (by simp);exact trodAll_cons_mk (Below.trod hl h3 h4 h1 hb fun x hx=>dz x (by simp [hx])) (yW hl hb (fun t' NJ=>ht t' (by simp [NJ])) h2 fun x hx=>dz x (by simp [hx]))
theorem Rn (hl:laidOutB P=afc) {f:Func} {s:ChangeSpec} {W W':World} {args:Array Value} {ds:List (DataW H)} {before:List MemPlace} {bt:TypeId} (afU:s.vars=[]) (AJ:f.resultTypes= #[bt]) (hbt:P.underlying bt=afa .bool)
 (hp: ∀t∈f.params.toList,P.readableRec t=afc/\t<P.types.size) (hW:DataW.Whole enc P f.params.toList s.vars afd W args.toList ds [] before)
 (hfn:s.fn H (ds++[])={results:=[.lit (.bool afc)],args:=ds}) (hb:Below W.heap.size W W'):s.post enc P f afd afc afd afd W args (.bool afc) W':=by
 have hW':=hW;obtain ⟨p,q,hA,hV,rfl,Qm,FY⟩:=hW;have dz: ∀x∈p++q,x.block<W.heap.size:=fun x hx=>by simpa using hW'.lt x hx
 refine ⟨ds,[],p++q,[],p,[],hW',?_,?_,?_,hb.frame _,fun h=>by cases h⟩
 · rw [hfn,AJ]
   exact trodAll_mk1 (shut_bool hbt afc)
 · rw [hfn]
   exact yW hl hb hp hA fun x hx=>dz x (by simp [hx])
 rw [hfn,afU]
 rfl
end
def Gb (w:World):Im:=fun b=>w.heap[b]?
theorem Ph {w:World} {b o:Nat} {v:Value} (h:w.cell? ⟨b,o,afb⟩=afa v):mX (Gb w) b o=afa v:=by unfold aeS at h;unfold mX Gb;exact h
theorem Pj {P:Program} {F:lM} {prims:FuncId->Bool} (hT:JT P prims F) (AB:yd P F) (pk:P.follows .mixedOrders=afc) {f:FuncId} {args:List PV} {s:cw} {z:List Nat} {n:Nat} {us:List Value} {w:World}
 (h:run F n (.func f args [] [])=afa (.func (.bool afc) s z)) (wI:eI (Gb w) fX args us):Calls P f ⟨us⟩ w fun e w'=>e= .returned (.bool afc)/\Below w.heap.size w w':=by
 refine (Pa hT AB pk h (im:=Gb w) (fun b o h=>h) wI).mono fun e w' ⟨u,he,⟨dX,bj,nO,_⟩,h1,h2,h3,h4,h5⟩=>?_
 obtain rfl:=nO.jg;exact ⟨he,⟨h1,h2.eq,h3,h4,h5⟩⟩
end Go.Vm
/- Regions of one order, step by step, for contracts. -/
namespace Go.Vm
def BQ:kv->Bool
 | .call .. | .vY .. =>afc
 |_=>afd
variable {F : lM}
def WS (F:lM) (ops:List bM) (st:St) (Q:St->Prop):Prop:= ∀tr,WO F ops st tr (fun s _=>Q s)
def H8 (st:St) (o:bM):Option St:=
 match wanted o.guard st.env with
 |some afc=>match bA st.env st.ax st.fz o.op with
  |some x=>if (XR.loc x).ok st.fz then afa ((XR.loc x).next o.dst st) else afb
  |none=>afb
 |some afd=>afa {st with env:=ik o.dst .jd st.env}
 |none=>afb
theorem H9 {rec:Task->Option Out} {e:Env} {ax:cw} {fz:List Nat} {op:kv} (h:BQ op=afd):
 v7 F rec e ax fz op=(bA e ax fz op).map .loc:=by
 cases op<;>first|rfl|cases h
theorem WS.nil {st:St} {Q:St->Prop} (h:Q st):WS F [] st Q:=fun _=>WO.nil h
theorem WS.cons {o:bM} {r:List bM} {st j7:St} {Q:St->Prop} (h:BQ o.op=afd) (hs:H8 st o=afa j7) (k:WS F r j7 Q):WS F (o::r) st Q:=by
 intro tr;unfold H8 at hs;split at hs
 · rename_i hw
   split at hs
   · rename_i x hx
     split at hs
     · rename_i zo
       injection hs with hs;subst hs;exact WO.op x hw (fun rec=>by rw [H9 h,hx];rfl) zo (k _)
     cases hs
   cases hs
 · rename_i hw
   injection hs with hs;subst hs;exact WO.skip hw (k _)
 cases hs
theorem WS.one {o:bM} {r:List bM} {st:St} {Q:St->Prop} (x:mT) (hc:BQ o.op=afd) (hw:wanted o.guard st.env=afa afc) (hx:bA st.env st.ax st.fz o.op=afa x) (zo:(XR.loc x).ok st.fz=afc)
 (k:WS F r ((XR.loc x).next o.dst st) Q):WS F (o::r) st Q:=fun tr=>
 WO.op x hw (fun rec=>by rw [H9 hc,hx];rfl) zo (k _)
def Du:List bM->St->Option St
 | [],st=>afa st
 |o::r,st=>match BQ o.op with
  |true=>afb
  |false=>match H8 st o with
   |some j7=>Du r j7
   |none=>afb
theorem WS.all: ∀{ops:List bM} {st j7:St} {Q:St->Prop},Du ops st=afa j7->Q j7->WS F ops st Q
 | [],st,j7,Q,h,hq=>by simp only [Du,AC] at h;subst h;exact WS.nil hq
 |o::r,st,j7,Q,h,hq=>by
  simp only [Du] at h;cases hc:BQ o.op with
  |true=>rw [hc] at h;cases h
  |false=>
   rw [hc] at h;dsimp only at h;cases hs:H8 st o with
   |none=>rw [hs] at h;cases h
   |some s1=>rw [hs] at h;exact WS.cons hc hs (WS.all h hq)
theorem WS.pure {d:Option Nat} {g:Option (Nat×Bool)} {f:FuncId} {as:List fv} {r:List bM} {st:St} {Q:St->Prop}
 {args:List PV} {v:PV} (h:Pure F f args v) (hw:wanted g st.env=afa afc) (ha:Bw st.ax (wN st.ax deep) (DI st.env as)=afa args)
 (k:WS F r {st with env:=ik d v st.env} Q):WS F (⟨d,.call .TO f as,g⟩::r) st Q:=fun tr=>by
 refine WO.pure h hw ha ?_;have:=k (XR.tr (af6 st.ax) (.loc {v,rd:=dm (c7 st.ax deep) (DI st.env as)})::tr);simpa [XR.next,p9,fU] using this
theorem WS.shr {d:Option Nat} {g:Option (Nat×Bool)} {f:FuncId} {as:List fv} {r:List bM} {st:St} {Q:St->Prop}
 (hw:wanted g st.env=afa afc) (h:zp F f (DI st.env as) st.ax st.fz fun v s z=>(aaB (af6 st.ax) (af6 s)&&st.fz.all (has z))=afc/\WS F r {st with env:=ik d v st.env,ax:=s,fz:=z} Q):
 WS F (⟨d,.call .shr f as,g⟩::r) st Q:=fun tr=>by
 obtain ⟨n,v,s,z,hr,hc,hk⟩:=h;refine WO.call (.shr v s z) hw ⟨n,?_⟩ rfl (hk _);simp only [v7,fK,hr];rw [rc hc]
end Go.Vm
/- Plain terms for what a function computes: loops, elements of lists, numbers; and the machine's loop over a plain one. -/
namespace Go.Vm
inductive Step (σ ρ:Type) where
 |next (s:σ)
 |done (r:ρ)
section
variable {σ ρ : Type}
def nb (body:σ->Option (Step σ ρ)):Nat->σ->Option ρ
 |0,_=>afb
 |n+1,x=>match body x with
  |some (.next y)=>nb body n y
  |some (.done r)=>afa r
  |none=>afb
open Classical in
noncomputable def L8 (body:σ->Option (Step σ ρ)) (x:σ):Option ρ:=
 if h: ∃n r,nb body n x=afa r then nb body h.choose x else afb
theorem zE {body:σ->Option (Step σ ρ)}: ∀{n:Nat} {x:σ} {r:ρ},nb body n x=afa r-> ∀k,nb body (n+k) x=afa r
 |0,x,r,h,_=>by cases h
 |n+1,x,r,h,k=>by
  rw [show n+1+k=(n+k)+1 by omega];simp only [nb] at h ⊢;split at h
  · exact zE h k
  · exact h
  cases h
theorem Pk {body:σ->Option (Step σ ρ)} {n m:Nat} {x:σ} {r s:ρ} (h:nb body n x=afa r) (k:nb body m x=afa s):r=s:=by have h1:=zE h m;have h2:=zE k n;rw [Nat.add_comm m n] at h2;rw [h1] at h2;exact aeA h2
theorem CJ {body:σ->Option (Step σ ρ)} {x:σ} {r:ρ}:L8 body x=afa r↔ ∃n,nb body n x=afa r:=by
 unfold L8;constructor
 · intro h
   split at h
   · exact ⟨_,h⟩
   cases h
 rintro ⟨n,hn⟩
 have hex: ∃n r,nb body n x=afa r:=⟨n,r,hn⟩;rw [dif_pos hex];obtain ⟨s,hs⟩:=hex.choose_spec;rw [hs,Pk hs hn]
end
noncomputable def NN {σ ρ:Type} (b:Option Nat) (body:σ->Option (Step σ ρ)) (x:σ):Option ρ:=
 match b with
 |none=>L8 body x
 |some N=>nb body N x
theorem JZ {σ ρ:Type} {b:Option Nat} {body:σ->Option (Step σ ρ)} {x:σ} {r:ρ} (h:NN b body x=afa r): ∃n,nb body n x=afa r:=by
 cases b with
 |none=>exact CJ.1 h
 |some N=>exact ⟨_,h⟩
class LP where
 w:Option Nat
abbrev LP.of (n:Nat):LP:=⟨afa n⟩
noncomputable def ar [LP] {σ ρ:Type} (body:σ->Option (Step σ ρ)) (x:σ):Option ρ:=NN LP.w body x
def aJ [LP]:Option Nat:=LP.w
theorem afW {α β:Type} {x:Option α} {f:α->Option β} {r:β} (h:x.bind f=afa r): ∃a,x=afa a/\f a=afa r:=by
 cases x with
 |none=>cases h
 |some a=>exact ⟨a,rfl,h⟩
def Zt {α ρ:Type} (x:Option α) (f:α->Option ρ):Option ρ:=x.bind f
def Zu {ρ:Type} (c:Bool) (a b:Option ρ):Option ρ:=cond c a b
theorem L9 {α ρ:Type} {x:Option α} {f:α->Option ρ} {y:ρ} (h:Zt x f=afa y): ∃a,x=afa a/\f a=afa y:=afW h
theorem L' {ρ:Type} {c:Bool} {a b:Option ρ} {y:ρ} (h:Zu c a b=afa y):(c=afc/\a=afa y)\/(c=afd/\b=afa y):=by
 cases c
 · exact .inr ⟨rfl,h⟩
 exact .inl ⟨rfl,h⟩
def aH {α:Type} (l:List α) (i:Int):Option α:=
 match i with
 | .ofNat n=>l[n]?
 | .negSucc _=>afb
def bU {α:Type} (l:List α) (i:Int) (a:α):List α:=l.set i.toNat a
theorem mG {α:Type} {l:List α} {i:Int} {a:α} (h:aH l i=afa a): ∃n:Nat,i=aeK n/\l[n]? =afa a:=by
 unfold aH at h;split at h
 · exact ⟨_,rfl,h⟩
 cases h
@[simp] theorem xd {α:Type} (l:List α) (i:Int) (a:α):(bU l i a).length=(af6 l):=by simp [bU]
def bk {α:Type} (l:List α) (m:List α):Option (List α):=if (af6 l)+af6 m<=1048576 then afa (l++m) else afb
def sd {α:Type} (n:Int) (z:α):Option (List α):=if 0<=n/\n<=1048576 then afa (ae1 n.toNat z) else afb
def fL {α:Type} (l:List α) (lo hi:Int):Option (List α):=if 0<=lo/\lo<=hi/\hi<=(af6 l) then afa ((l.drop lo.toNat).take (hi.toNat-lo.toNat)) else afb
def bL {α:Type} (l:List α):Option (List α):=if (af6 l)<=1048576 then afa l else afb
def Pm {α:Type} (l m:List α):Option (List α):=if 1<=af6 l+af6 m/\af6 l+af6 m<=1048576 then afa (l++m) else afb
def sf {α:Type} (l:List α) (i:Int) (m:List α):Option (List α):=if 0<=i/\i.toNat<=af6 l/\af6 m=1/\af6 l+1<=1048576 then afa (l.take i.toNat++m++l.drop i.toNat) else afb
def CK {α:Type} (f:List α->Option (List α)) (l:List α):Option (List α):=
 if (af6 l)<=1048576 then (match f l with
 |some m=>if (af6 m)=(af6 l) then afa m else afb
 |none=>afb) else afb
def yj {α:Type} (f:List α->Option (List α)) (n:Nat) (l:List α):Option (List α):=if n<=(af6 l) then (CK f (l.take n)).map (· ++l.drop n) else afb
def Ma (a:Int):List Int->List Int
 | []=>[a]
 |b::r=>bif afe (a<=b) then a::b::r else b::Ma a r
def kN:List Int->List Int
 | []=>[]
 |a::r=>Ma a (kN r)
def Ia (l:List Int):Option (List Int):=afa (kN l)
def zF (k:IntKind) (a b:Int):Int:=k.wrap (BitVec.ofInt k.bits a&&&BitVec.ofInt k.bits b).toNat
def bOr (k:IntKind) (a b:Int):Int:=k.wrap (BitVec.ofInt k.bits a|||BitVec.ofInt k.bits b).toNat
def ajq (k:IntKind) (a b:Int):Int:=k.wrap (BitVec.ofInt k.bits a^^^BitVec.ofInt k.bits b).toNat
def UB (k:IntKind) (a b:Int):Int:=k.wrap (BitVec.ofInt k.bits a&&& ~~~ BitVec.ofInt k.bits b).toNat
def ajr (k:IntKind) (a b:Int):Int:=k.wrap (a*2^(min b.toNat k.bits))
def mQ (k:IntKind) (a b:Int):Int:=a.fdiv (2^(min b.toNat k.bits))
def Zv (s:ByteArray) (i:Int):Option Int:=
 match i with
 | .ofNat n=>s[n]?.map fun b=>(b.toNat:Int)
 | .negSucc _=>afb
def C9 (l:List (List Int)) (k:List Int):Bool:=l.any fun m=>k==m
def Mb (l:List (List Int)) (k:List Int):List (List Int):=bif C9 l k then l else l++[k]
def ng (a:List Int) (l:List (List Int)):Bool:=l.all fun b=>Do (af6 b) (af6 a)
def J0 (l:List (List Int)) (k:List Int):Option Bool:=bif ng k l then afa (C9 l k) else afb
def J1 (l:List (List Int)) (k:List Int):Option (List (List Int)):=bif ng k l then afa (Mb l k) else afb
def px {α:Type} (z:α):List (Int×α)->Int->α
 | [],_=>z
 |p::r,k=>bif k==p.1 then p.2 else px z r k
def nU {α:Type}:List (Int×α)->Int->α->List (Int×α)
 | [],k,a=>[(k,a)]
 |p::r,k,a=>bif k==p.1 then (k,a)::r else p::nU r k a
section
variable {F : lM}
end
end Go.Vm
/- A logical machine over typed values: it turns a function's code into a plain term. What it computes is tied to the logical machine in SvRun. -/
namespace Go.Vm
inductive PT where
 |i (k:IntKind)
 |b
@[reducible] def PT.T : PT -> Type
  | .i _ => Int
  | .b => Bool
@[reducible] def RT : List PT -> Type
  | [] => Unit
  | [p] => p.T
  | p :: q :: r => p.T × RT (q :: r)
inductive SV where
 |gH
 |undef
 |jd
 |dH
 |int (k:IntKind) (n:Int)
 |bool (b:Bool)
 |str (s:ByteArray)
 |agg (cs:List SV)
 |cy (cs:List SV)
 |sl (r:List PT) (l:List (RT r))
 |nil (e:Nat) (c:Bool)
 |own (t:Nat) (ex:Bool)
 |pre (t len cap:Nat) (ex:Bool)
 |part (t off len cap:Nat) (ex:Bool)
 |pa (t:Nat) (r:List PT) (i:Int) (a:RT r) (off:Nat)
 |pb (t:Nat) (i:Int) (off:Nat)
 |bp (t n off:Nat)
 |bD (cs:List SV) (off:Nat)
 |ez (f:FuncId) (a b:List SV)
 |mp (t:Nat)
inductive SB where
 |arr (r:List PT) (l:List (RT r))
 |box (cs:List SV)
 |set (l:List (List Int))
 |cj (p:PT) (l:List (RT [.i .i64,p]))
 |dead
abbrev SE:=List (Nat×SV)
structure ob where
 env:SE
 ax:List SB
 fz:List Nat
 kn:Nat
structure Rows where
 r:List PT
 l:List (RT r)
def PT.same:PT->PT->Bool
 | .i k,.i l=>fk k l
 | .b,.b=>afc
 |_,_=>afd
def AM:List PT->List PT->Bool
 | [],[]=>afc
 |p::r,q::s=>p.same q&&AM r s
 |_,_=>afd
theorem PT.NO: ∀{p q:PT},p.same q=afc->p=q
 | .i k,.i l,h=>by rw [eU.1 h]
 | .b,.b,_=>rfl
 | .i _,.b,h=>by cases h
 | .b,.i _,h=>by cases h
theorem ui: ∀{r s:List PT},AM r s=afc->r=s
 | [],[],_=>rfl
 |p::r,q::s,h=>by simp only [AM,v6] at h;rw [PT.NO h.1,ui h.2]
 | [],_::_,h=>by cases h
 |_::_,[],h=>by cases h
def qJ (r q:List PT) (l:List (RT r)):Option (List (RT q)):=if h:AM r q=afc then afa (ui h▸l) else afb
def PT.pv:(p:PT)->p.T->PV
 | .i k,n=> .int k n
 | .b,x=> .bool x
def RT.pv:(r:List PT)->RT r->List PV
 | [],_=>[]
 | [p],a=>[p.pv a]
 |p::q::r,a=>p.pv a.1::RT.pv (q::r) a.2
def PT.sv:(p:PT)->p.T->SV
 | .i k,n=> .int k n
 | .b,x=> .bool x
def RT.sv:(r:List PT)->RT r->List SV
 | [],_=>[]
 | [p],a=>[p.sv a]
 |p::q::r,a=>p.sv a.1::RT.sv (q::r) a.2
def PT.of:(p:PT)->SV->Option p.T
 | .i k,.int l n=>bif fk l k then afa n else afb
 | .b,.bool x=>afa x
 |_,_=>afb
def RT.of:(r:List PT)->List SV->Option (RT r)
 | [],[]=>afa ()
 | [p],[v]=>p.of v
 |p::q::r,v::vs=>match p.of v,RT.of (q::r) vs with
  |some a,afa b=>afa (a,b)
  |_,_=>afb
 |_,_=>afb
def PT.zero:(p:PT)->p.T
 | .i _=>(0:Int)
 | .b=>afd
def RT.zero:(r:List PT)->RT r
 | []=>()
 | [p]=>p.zero
 |p::q::r=>(p.zero,RT.zero (q::r))
def iA:PV->Option PT
 | .int k n=>match n with
  | .ofNat 0=>afa (.i k)
  |_=>afb
 | .bool b=>match b with
  |false=>afa .b
  |true=>afb
 |_=>afb
def El:List PV->Option (List PT)
 | []=>afa []
 |v::vs=>match iA v,El vs with
  |some p,afa r=>afa (p::r)
  |_,_=>afb
def nth {α:Type}:List α->Nat->Option α
 | [],_=>afb
 |x::_,0=>afa x
 |_::r,n+1=>nth r n
theorem cd {α:Type}: ∀(l:List α) (n:Nat),nth l n=l[n]?
 | [],n=>by simp [nth]
 |x::r,0=>by simp [nth]
 |x::r,n+1=>by simp [nth,cd r n]
def CL (t:Nat):SE->SV
 | []=> .undef
 |(s,v)::r=>bif Do s t then v else CL t r
def zG (t:Nat) (v:SV):SE->SE
 | []=>[]
 |(s,x)::r=>bif Do s t then (s,v)::r else (s,x)::zG t v r
mutual
def UC:PV->SV
 | .undef=> .undef
 | .jd=> .jd
 | .dH=> .dH
 | .int k n=> .int k n
 | .bool b=> .bool b
 | .str s=> .str s
 | .agg cs=> .agg (AN cs)
 | .cy cs=> .cy (AN cs)
 | .sl e c rows=>match rows with
  | []=> .nil e c
  |_=> .gH
 | .ez f a b=> .ez f (AN a) (AN b)
 |_=> .gH
def AN:List PV->List SV
 | []=>[]
 |x::xs=>UC x::AN xs
end
def bP (e:SE):fv->SV
 | .t n=>CL n e
 | .c v=>UC v
def ji (e:SE):List fv->List SV
 | []=>[]
 |x::xs=>bP e x::ji e xs
def SV.o7:SV->Bool
 | .gH| .undef| .jd| .agg _| .cy _=>afd
 |_=>afc
def xe:List SV->Bool
 | []=>afc
 |x::xs=>x.o7&&xe xs
def SV.cells:SV->List SV
 | .agg cs=>cs
 |v=>[v]
def SV.stored (v:SV):Option (List SV):=bif xe v.cells then afa v.cells else afb
def yX (agg:Option Nat) (off:Nat) (cs:List SV):Option SV:=
 match agg with
 |some s=>bif aaB (off+s) (af6 cs) then afa (.agg ((cs.drop off).take s)) else afb
 |none=>nth cs off
def oM (off:Nat) (new old:List SV):List SV:=old.take off++new++old.drop (off+af6 new)
def yY (s:List SB):SV->Option Rows
 | .sl r l=>afa ⟨r,l⟩
 | .own t _=>match nth s t with
  |some (.arr r l)=>afa ⟨r,l⟩
  |_=>afb
 | .pre t len _ _=>match nth s t with
  |some (.arr r l)=>afa ⟨r,l.take len⟩
  |_=>afb
 | .part t off len _ _=>match nth s t with
  |some (.arr r l)=>afa ⟨r,(l.drop off).take len⟩
  |_=>afb
 |_=>afb
def uZ:SV->List Nat
 | .own t _=>[t]
 | .pre t _ _ _=>[t]
 | .part t _ _ _ _=>[t]
 |_=>[]
structure fM where
 v:SV
 news:List SB:=[]
 wr:List (Nat×SB):=[]
 rd:List Nat:=[]
 fr:List Nat:=[]
def fZ (R:Type):= ∀ρ:Type,(R->ρ)->Option ρ
section
variable {R : Type}
def CN (b:R):fZ R:=fun _ w=>afa (w b)
def aK:fZ R:=fun _ _=>afb
def kB {α:Type} (x:Option α) (f:α->fZ R):fZ R:=fun ρ w=>Zt x fun a=>f a ρ w
def fR (c:Bool) (a b:fZ R):fZ R:=fun ρ w=>Zu c (a ρ w) (b ρ w)
def UD (v:SV) (k:SV->fZ R):fZ R:=
 match v with
 | .gH=>k .gH
 | .undef=>k .undef
 | .jd=>k .jd
 | .dH=>k .dH
 | .int a b=>k (.int a b)
 | .bool a=>k (.bool a)
 | .str a=>k (.str a)
 | .agg a=>k (.agg a)
 | .cy a=>k (.cy a)
 | .sl a b=>k (.sl a b)
 | .nil a b=>k (.nil a b)
 | .own a b=>k (.own a b)
 | .pre a b c d=>k (.pre a b c d)
 | .part a b c d x=>k (.part a b c d x)
 | .pa a b c d e=>k (.pa a b c d e)
 | .pb a b c=>k (.pb a b c)
 | .bp a b c=>k (.bp a b c)
 | .bD a b=>k (.bD a b)
 | .ez a b c=>k (.ez a b c)
 | .mp a=>k (.mp a)
theorem Ib (v:SV) (k:SV->fZ R):UD v k=k v:=by cases v<;>rfl
def Mc (op:BinOp) (k:IntKind) (a b:Int) (c:SV->fZ R):fZ R:=
 match op with
 | .add=>c (.int k (aa k (a+b)))
 | .sub=>c (.int k (aa k (a-b)))
 | .mul=>c (.int k (aa k (a*b)))
 | .quo=>fR (b==0) aK (c (.int k (aa k (Int.tdiv a b))))
 | .rem=>fR (b==0) aK (c (.int k (Int.tmod a b)))
 | .and=>c (.int k (zF k a b))
 | .or=>c (.int k (bOr k a b))
 | .xor=>c (.int k (ajq k a b))
 | .andNot=>c (.int k (UB k a b))
 | .eql=>c (.bool (a==b))
 | .neq=>c (.bool (a !=b))
 | .lss=>c (.bool (afe (a<b)))
 | .leq=>c (.bool (afe (a<=b)))
 | .gtr=>c (.bool (afe (b<a)))
 | .geq=>c (.bool (afe (b<=a)))
 | .shl| .shr=>aK
def eqS:List SV->List SV->Option Bool
 | [],[]=>afa afc
 |x::xs,y::ys=>match x,y with
  | .int k a,.int l b=>bif fk k l then (match xs with
   | []=>(match ys with| []=>afa (a==b)|_=>afb)
   |_::_=>match eqS xs ys with
    |some r=>afa (a==b&&r)
    |none=>afb) else afb
  |_,_=>afb
 |_,_=>afb
def u4:List (Nat×Nat×SV)->List SV->Option (List SV)
 | [],cs=>afa cs
 |(off,sz,v)::r,cs=>match v.stored with
  |some w=>bif Do (af6 w) sz&&aaB (off+sz) (af6 cs) then u4 r (oM off w cs) else afb
  |none=>afb
def xf (e:SE):List (Nat×Nat×fv)->List (Nat×Nat×SV)
 | []=>[]
 |p::r=>(p.1,p.2.1,bP e p.2.2)::xf e r
def NP (r:List PT) (e:SE) (n:Nat):List (Nat×fv)->Option (List (Nat×RT r))
 | []=>afa []
 |p::ps=>match RT.of r (bP e p.2).cells,NP r e n ps with
  |some a,afa l=>bif ae8 p.1 n then afa ((p.1,a)::l) else afb
  |_,_=>afb
def rowAt {α:Type} (i:Nat):α->List (Nat×α)->α
 |z,[]=>z
 |z,(j,a)::r=>rowAt i (bif Do j i then a else z) r
def Ic {α:Type} (f:Nat->α):Nat->Nat->List α
 |_,0=>[]
 |i,n+1=>f i::Ic f (i+1) n
def BS (e:SE) (d:Int):Option fv->Option Int
 |none=>afa d
 |some x=>match bP e x with
  | .int _ n=>afa n
  |_=>afb
def mmS (isMax:Bool) (k:IntKind):Int->List SV->Option SV
 |a,[]=>afa (.int k a)
 |a,x::r=>match x with
  | .int l b=>bif fk k l then mmS isMax k (bif isMax then (if b>a then b else a) else (if b<a then b else a)) r else afb
  |_=>afb
def NQ:List SV->Option (List Int)
 | []=>afa []
 |x::xs=>match x,NQ xs with
  | .int .i64 n,afa l=>afa (n::l)
  |_,_=>afb
def UE (n:Option Nat) (v:SV):Option (List Int):=
 match n,v with
 |none,.int .i64 a=>afa [a]
 |some n,.agg cs=>bif Do (af6 cs) n&&!Nat.beq n 1 then NQ cs else afb
 |_,_=>afb
def J2 (n:Nat) (i:Int) (j:Nat) (f:Nat->fZ R):fZ R:=
 match n with
 |0=>aK
 |n+1=>fR (i==aeK j) (f j) (J2 n i (j+1) f)
def kO {α:Type} (x:Option α) (k:α->fZ R):fZ R:=
 match x with
 |some a=>k a
 |none=>aK
def ofV (k:fM->fZ R) (v:SV):fZ R:=k {v}
def Zw (s:List SB) (esz:Nat) (x:SV) (i:Int) (k:fM->fZ R):fZ R:=
 match x with
 | .sl r l=>bif Do (af6 r) esz then kB (aH l i) fun a=>k {v:= .bD (RT.sv r a) 0} else aK
 | .own t _=>match nth s t with
  |some (.arr r l)=>bif Do (af6 r) esz then kB (aH l i) fun a=>k {v:= .pa t r i a 0} else aK
  |_=>aK
 | .pre t len _ _=>match nth s t with
  |some (.arr r l)=>bif Do (af6 r) esz then kB (aH (l.take len) i) fun a=>k {v:= .pa t r i a 0} else aK
  |_=>aK
 | .part t off len _ _=>match nth s t with
  |some (.arr r l)=>bif Do (af6 r) esz then kB (aH ((l.drop off).take len) i) fun a=>k {v:= .pa t r (.ofNat (off+i.toNat)) a 0} else aK
  |_=>aK
 |_=>aK
def Zx (s:List SB) (agg:Option Nat) (p:SV) (k:fM->fZ R):fZ R:=
 match p with
 | .bp t _ off=>match nth s t with
  |some (.box cs)=>kO (yX agg off cs) fun v=>k {v,rd:=[t]}
  |_=>aK
 | .pa t r _ a off=>match nth s t with
  |some (.arr _ _)=>kO (yX agg off (RT.sv r a)) fun v=>k {v,rd:=[t]}
  |_=>aK
 | .pb t i off=>match nth s t with
  |some (.arr r l)=>kB (aH l i) fun a=>kO (yX agg off (RT.sv r a)) fun v=>k {v,rd:=[t]}
  |_=>aK
 | .bD cs off=>kO (yX agg off cs) fun v=>k {v}
 |_=>aK
def Ro (s:List SB) (z:List Nat) (sz:Nat) (p v:SV) (k:fM->fZ R):fZ R:=
 match p with
 | .bp t _ off=>match nth s t with
  |some (.box cs)=>kO v.stored fun w=>bif Do (af6 w) sz&&aaB (off+sz) (af6 cs)&&!has z t then k {v:= .undef,wr:=[(t,.box (oM off w cs))]} else aK
  |_=>aK
 | .pa t r i a off=>match nth s t with
  |some (.arr q l)=>bif Do (af6 v.cells) sz&&aaB (off+sz) (af6 r)&&!has z t then
   kO (RT.of q (oM off v.cells (RT.sv r a))) fun b=>k {v:= .undef,wr:=[(t,.arr q (bU l i b))]} else aK
  |_=>aK
 | .pb t i off=>match nth s t with
  |some (.arr q l)=>bif Do (af6 v.cells) sz&&aaB (off+sz) (af6 q)&&!has z t then
   (bif Do sz (af6 q) then kO (RT.of q v.cells) fun b=>k {v:= .undef,wr:=[(t,.arr q (bU l i b))]}
   else kB (aH l i) fun a=>kO (RT.of q (oM off v.cells (RT.sv q a))) fun b=>k {v:= .undef,wr:=[(t,.arr q (bU l i b))]}) else aK
  |_=>aK
 |_=>aK
def Md (e:SE) (t off len cap:Nat) (ex:Bool) (lo hi mx:Option fv) (k:fM->fZ R):fZ R:=
 kO (BS e 0 lo) fun a=>kO (BS e (.ofNat len) hi) fun b=>match mx with
  |none=>fR (afe (0<=a)&&afe (a<=b)&&afe (b<= .ofNat cap)) (k {v:= .part t (off+a.toNat) (b.toNat-a.toNat) (cap-a.toNat) ex}) aK
  |some m=>match bP e m with
   | .int _ c=>fR (afe (0<=a)&&afe (a<=b)&&afe (b<=c)&&afe (c<= .ofNat cap)) (k {v:= .part t (off+a.toNat) (b.toNat-a.toNat) (c.toNat-a.toNat) afc}) aK
   |_=>aK
def afX (e:SE) (s:List SB) (esz:Nat) (x:SV) (lo hi mx:Option fv) (k:fM->fZ R):fZ R:=
 match x with
 | .sl r l=>match mx with
  |none=>bif Do (af6 r) esz then kO (BS e 0 lo) fun a=>kO (BS e (aeK (af6 l)) hi) fun b=>kB (fL l a b) fun m=>k {v:= .sl r m} else aK
  |some _=>aK
 | .own t ex=>match nth s t with
  |some (.arr r l)=>bif Do (af6 r) esz then (match lo,hi,mx with
   |none,afb,afb=>k {v:= .own t ex}
   |none,afa h,afb=>match bP e h with
    | .int _ b=>kB (fL l 0 b) fun _=>k {v:= .pre t b.toNat (af6 l) ex}
    |_=>aK
   |lo,hi,mx=>Md e t 0 (af6 l) (af6 l) ex lo hi mx k) else aK
  |_=>aK
 | .pre t len cap ex=>match nth s t with
  |some (.arr r _)=>bif Do (af6 r) esz then (match lo,hi,mx with
   |none,afb,afb=>fR (aaB len cap) (k {v:= .pre t len cap ex}) aK
   |none,afa h,afb=>match bP e h with
    | .int _ b=>fR (afe (0<=b)&&afe (b<= .ofNat cap)) (k {v:= .pre t b.toNat cap ex}) aK
    |_=>aK
   |lo,hi,mx=>Md e t 0 len cap ex lo hi mx k) else aK
  |_=>aK
 | .part t off len cap ex=>match nth s t with
  |some (.arr r _)=>bif Do (af6 r) esz then Md e t off len cap ex lo hi mx k else aK
  |_=>aK
 |_=>aK
def eK {α:Type} (l:List α) (n:Nat) (m:List α):List α:=l.take n++m++l.drop (n+af6 m)
def SV.aay:SV->Bool
 | .part .. =>afc
 |_=>afd
def NR (s:List SB) (z:List Nat) (esz:Nat) (x y:SV) (k:fM->fZ R):fZ R:=
 match yY s y with
 |none=>aK
 |some ⟨q,m⟩=>bif Do (af6 q) esz then (match x with
  | .nil _ c=>bif c then kB (bL m) fun m'=>k {v:= .own (af6 s) afd,news:=[.arr q m'],rd:=uZ y} else aK
  | .own t ex=>match nth s t with
   |some (.arr r l)=>match qJ q r m with
    |none=>aK
    |some m=>match ex with
     |true=>fR l.isEmpty (kB (bL m) fun m'=>k {v:= .own (af6 s) afd,news:=[.arr r m'],rd:=t::uZ y})
      (fR m.isEmpty (k {v:= .own t afc,rd:=uZ y}) (kB (bk l m) fun l'=>k {v:= .own (af6 s) afd,news:=[.arr r l'],rd:=t::uZ y}))
     |false=>fR m.isEmpty (k {v:= .own t afd,rd:=uZ y})
      (bif has z t then aK else kB (bk l m) fun l'=>k {v:= .own (af6 s) afd,news:=[.arr r l'],wr:=[(t,.dead)],rd:=uZ y})
   |_=>aK
  | .pre t len cap ex=>match nth s t with
   |some (.arr r l)=>match qJ q r m with
    |none=>aK
    |some m=>bif ex then aK else fR m.isEmpty (k {v:= .pre t len cap afd,rd:=uZ y})
     (fR (aaB (len+af6 m) cap) (fR (aaB (len+af6 m) (af6 l)&&!has z t) (k {v:= .pre t (len+af6 m) cap afd,wr:=[(t,.arr r (eK l len m))],rd:=uZ y}) aK)
      (bif has z t||y.aay then aK else kB (bk (l.take len) m) fun l'=>fR (aaB len (af6 l)) (k {v:= .own (af6 s) afd,news:=[.arr r l'],wr:=[(t,.dead)],rd:=uZ y}) aK))
   |_=>aK
  |_=>aK) else aK
def Rp (s:List SB) (z:List Nat) (esz:Nat) (zero:Row) (x:SV) (k:fM->fZ R):fZ R:=
 match x with
 | .part t off len _ _=>match nth s t with
  |some (.arr r l)=>match El zero with
   |some q=>bif AM q r&&Do (af6 r) esz then fR (Do len 0) (k {v:= .undef})
    (fR (aaB (off+len) (af6 l)&&!has z t) (k {v:= .undef,wr:=[(t,.arr r (eK l off (ae1 len (RT.zero r))))]}) aK) else aK
   |none=>aK
  |_=>aK
 |_=>aK
def NS (n:Option Nat) (zero:PV) (ok:Bool) (t:Nat) (l:List (List Int)) (q:SV) (k:fM->fZ R):fZ R:=
 match zero,ok with
 | .bool afd,afd=>kO (UE n q) fun a=>kB (J0 l a) fun b=>k {v:= .bool b,rd:=[t]}
 |_,_=>aK
def Rq (n:Option Nat) (t:Nat) (l:List (List Int)) (q x:SV) (k:fM->fZ R):fZ R:=
 match x with
 | .bool afc=>kO (UE n q) fun a=>kB (J1 l a) fun m=>k {v:= .undef,wr:=[(t,.set m)]}
 |_=>aK
def PT.get:(p:PT)->p.T->List (RT [.i .i64,p])->Int->p.T
 | .i _,z,l,k=>px (α:=Int) z l k
 | .b,z,l,k=>px (α:=Bool) z l k
def PT.put:(p:PT)->List (RT [.i .i64,p])->Int->p.T->List (RT [.i .i64,p])
 | .i _,l,k,a=>nU (α:=Int) l k a
 | .b,l,k,a=>nU (α:=Bool) l k a
def NT (n:Option Nat) (zero:PV) (ok:Bool) (t:Nat) (p:PT) (l:List (RT [.i .i64,p])) (q:SV) (k:fM->fZ R):fZ R:=
 match n with
 |none=>match ok with
  |false=>match q with
   | .int .i64 a=>kO (p.of (UC zero)) fun z=>k {v:=p.sv (p.get z l a),rd:=[t]}
   |_=>aK
  |true=>aK
 |some _=>aK
def Rr (n:Option Nat) (t:Nat) (p:PT) (l:List (RT [.i .i64,p])) (q x:SV) (k:fM->fZ R):fZ R:=
 match n with
 |none=>match q with
  | .int .i64 a=>kO (p.of x) fun v=>k {v:= .undef,wr:=[(t,.cj p (p.put l a v))]}
  |_=>aK
 |some _=>aK
def Em (s:List SB) (z:List Nat) (t:Nat) (r:List PT) (l:List (RT r)) (off len:Nat) (y:SV) (k:fM->fZ R):fZ R:=
 match yY s y with
 |none=>aK
 |some ⟨q,m⟩=>match qJ q r m with
  |none=>aK
  |some m=>fR (m.take len).isEmpty (k {v:= .int .i64 0,rd:=uZ y})
   (fR (aaB (off+(m.take len).length) (af6 l)&&!has z t) (k {v:= .int .i64 (.ofNat (m.take len).length),wr:=[(t,.arr r (eK l off (m.take len)))],rd:=uZ y}) aK)
def Zy (s:List SB) (z:List Nat) (esz:Nat) (x y:SV) (k:fM->fZ R):fZ R:=
 match x with
 | .own t _=>match nth s t with
  |some (.arr r l)=>bif Do (af6 r) esz then Em s z t r l 0 (af6 l) y k else aK
  |_=>aK
 | .pre t len _ _=>match nth s t with
  |some (.arr r l)=>bif Do (af6 r) esz then Em s z t r l 0 len y k else aK
  |_=>aK
 | .part t off len _ _=>match nth s t with
  |some (.arr r l)=>bif Do (af6 r) esz then Em s z t r l off len y k else aK
  |_=>aK
 |_=>aK
def lJ (e:SE) (s:List SB) (z:List Nat) (op:kv) (k:fM->fZ R):fZ R:=
 match op with
 | .Qk x=>k {v:=bP e x}
 | .pick c a b=>match bP e c with
  | .bool c=>fR c (k {v:=bP e a}) (k {v:=bP e b})
  |_=>aK
 | .bin op x y=>match bP e x with
  | .int ka a=>match bP e y with
   | .int kb b=>match op with
    | .shl=>fR (afe (b<0)) aK (k {v:= .int ka (ajr ka a b)})
    | .shr=>fR (afe (b<0)) aK (k {v:= .int ka (mQ ka a b)})
    |op=>bif fk ka kb then Mc op ka a b (ofV k) else aK
   |_=>aK
  |_=>aK
 | .Jd neg x y=>match bP e x with
  | .bool a=>match bP e y with
   | .bool b=>k {v:= .bool (bif neg then !(a==b) else a==b)}
   |_=>aK
  |_=>aK
 | .Y1 n neg x y=>match bP e x with
  | .agg xs=>match bP e y with
   | .agg ys=>bif Do (af6 xs) n&&Do (af6 ys) n then kO (eqS xs ys) fun b=>k {v:= .bool (bif neg then !b else b)} else aK
   |_=>aK
  |_=>aK
 | .un op x=>match op with
  | .neg=>match bP e x with
   | .int a n=>k {v:= .int a (aa a (0-n))}
   |_=>aK
  | .not=>match bP e x with
   | .bool b=>k {v:= .bool !b}
   |_=>aK
  |_=>aK
 | .conv a x=>match bP e x with
  | .int _ n=>k {v:= .int a (aa a n)}
  |_=>aK
 | .len x=>match bP e x with
  | .nil _ _=>k {v:= .int .i64 0}
  | .pre _ len _ _=>k {v:= .int .i64 (.ofNat len)}
  | .part _ _ len _ _=>k {v:= .int .i64 (.ofNat len)}
  |v=>kO (yY s v) fun c=>k {v:= .int .i64 (.ofNat (af6 c.l))}
 | .LB n=>k {v:= .int .i64 (.ofNat n)}
 | .box x=>kO (bP e x).stored fun cs=>k {v:= .bp (af6 s) (af6 cs) 0,news:=[.box cs]}
 | .alloc cells=>k {v:= .bp (af6 s) (af6 cells) 0,news:=[.box (AN cells)]}
 | .build zero parts=>kO (u4 (xf e parts) (AN zero)) fun cs=>k {v:= .agg cs}
 | .Am esz n zero parts=>kO (El zero) fun r=>bif Do (af6 r) esz then kO (NP r e n parts) fun ps=>
  k {v:= .own (af6 s) afc,news:=[.arr r (Ic (fun i=>rowAt i (RT.zero r) ps) 0 n)]} else aK
 | .Cz x y=>match bP e x with
  | .sl r l=>match bP e y with
   | .sl q m=>k {v:= .part (af6 s) 0 2 2 afc,news:=[.box [.sl r l,.sl q m]]}
   |_=>aK
  |_=>aK
 | .load agg p=>Zx s agg (bP e p) k
 | .store sz p v=>Ro s z sz (bP e p) (bP e v) k
 | .Je x=>match bP e x with
  | .pa t r i a o=>k {v:= .pa t r i a o}
  | .pb t i o=>k {v:= .pb t i o}
  | .bp t n o=>k {v:= .bp t n o}
  | .bD c o=>k {v:= .bD c o}
  | .ez f a b=>k {v:= .ez f a b}
  |_=>aK
 | .Jf off p=>match bP e p with
  | .pa t r i a o=>k {v:= .pa t r i a (o+off)}
  | .pb t i o=>k {v:= .pb t i (o+off)}
  | .bp t n o=>k {v:= .bp t n (o+off)}
  | .bD c o=>k {v:= .bD c (o+off)}
  |_=>aK
 | .j0 agg off x=>match bP e x with
  | .agg cs=>kO (yX agg off cs) (ofV k)
  |_=>aK
 | .Jg esz x i=>match bP e i with
  | .int _ n=>Zw s esz (bP e x) n k
  |_=>aK
 | .CA n esz p i=>match bP e i with
  | .int _ j=>match bP e p with
   | .bp t m o=>J2 n j 0 fun j=>k {v:= .bp t m (o+j*esz)}
   | .bD c o=>J2 n j 0 fun j=>k {v:= .bD c (o+j*esz)}
   |_=>aK
  |_=>aK
 | .idx n esz agg x i=>match bP e i with
  | .int _ j=>match bP e x with
   | .agg cs=>J2 n j 0 fun j=>kO (yX agg (j*esz) cs) (ofV k)
   |_=>aK
  |_=>aK
 | .Jh x i=>match bP e i with
  | .int _ j=>match bP e x with
   | .str t=>kB (Zv t j) fun b=>k {v:= .int .u8 b}
   |_=>aK
  |_=>aK
 | .OM esz x lo hi mx=>afX e s esz (bP e x) lo hi mx k
 | .clear esz zero x=>Rp s z esz zero (bP e x) k
 | .copy esz x y=>Zy s z esz (bP e x) (bP e y) k
 | .Y2 esz zero l c=>match bP e l with
  | .int _ n=>match bP e c with
   | .int _ m=>fR (n==m) (kO (El zero) fun r=>bif Do (af6 r) esz then kB (sd n (RT.zero r)) fun x=>k {v:= .own (af6 s) afc,news:=[.arr r x]} else aK) aK
   |_=>aK
  |_=>aK
 | .Y3 fn a b=>k {v:= .ez fn (ji e a) (ji e b)}
 | .Y4 z=>match z with
  |none=>k {v:= .mp (af6 s),news:=[.set []]}
  |some z=>kO (iA z) fun p=>k {v:= .mp (af6 s),news:=[.cj p []]}
 | .lookup n zero ok m q=>match bP e m with
  | .mp t=>match nth s t with
   |some (.set l)=>NS n zero ok t l (bP e q) k
   |some (.cj p l)=>NT n zero ok t p l (bP e q) k
   |_=>aK
  |_=>aK
 | .HA n m q x=>match bP e m with
  | .mp t=>match nth s t with
   |some (.set l)=>bif has z t then aK else Rq n t l (bP e q) (bP e x) k
   |some (.cj p l)=>bif has z t then aK else Rr n t p l (bP e q) (bP e x) k
   |_=>aK
  |_=>aK
 | .ext i x=>match bP e x with
  | .cy vs=>kO (nth vs i) (ofV k)
  |_=>aK
 | .append esz x y=>NR s z esz (bP e x) (bP e y) k
 | .mm isMax x xs=>match bP e x with
  | .int a n=>kO (mmS isMax a n (ji e xs)) (ofV k)
  |_=>aK
 |_=>aK
end
mutual
def GL (s:List SB) (bx:Nat->Option (List SV)):SV->Option SV
 | .int k n=>afa (.int k n)
 | .bool b=>afa (.bool b)
 | .str x=>afa (.str x)
 | .dH=>afa .dH
 | .agg cs=>match qK s bx cs with|some l=>afa (.agg l)|none=>afb
 | .cy cs=>match qK s bx cs with|some l=>afa (.cy l)|none=>afb
 | .sl r l=>afa (.sl r l)
 | .nil e _=>afa (.nil e afd)
 | .own t _=>match nth s t with
  |some (.arr r l)=>afa (.sl r l)
  |_=>afb
 | .pre t len _ _=>match nth s t with
  |some (.arr r l)=>afa (.sl r (l.take len))
  |_=>afb
 | .part t off len _ _=>match nth s t with
  |some (.arr r l)=>afa (.sl r ((l.drop off).take len))
  |_=>afb
 | .pa t r _ a off=>match nth s t with
  |some (.arr _ _)=>afa (.bD (RT.sv r a) off)
  |_=>afb
 | .bp t _ off=>match nth s t with
  |some (.box _)=>match bx t with|some l=>afa (.bD l off)|none=>afb
  |_=>afb
 | .bD cs off=>match qK s bx cs with|some l=>afa (.bD l off)|none=>afb
 | .ez f a b=>match qK s bx a,qK s bx b with
  |some x,afa y=>afa (.ez f x y)
  |_,_=>afb
 |_=>afb
def qK (s:List SB) (bx:Nat->Option (List SV)):List SV->Option (List SV)
 | []=>afa []
 |x::xs=>match GL s bx x,qK s bx xs with
  |some y,afa ys=>afa (y::ys)
  |_,_=>afb
end
def Me (s:List SB) (bx:Nat->Option (List SV)):List SV->Bool
 | []=>afc
 |x::xs=>match x with
  | .mp _=>Me s bx xs
  |x=>match GL s bx x with
   |some _=>Me s bx xs
   |none=>afd
def jU (s:List SB):Nat->Nat->Option (List SV)
 |0,_=>afb
 |n+1,t=>match nth s t with
  |some (.box cs)=>qK s (jU s n) cs
  |_=>afb
mutual
def Mf (bx:Nat->List Nat):SV->List Nat
 | .agg cs=>qh bx cs
 | .cy cs=>qh bx cs
 | .own t _=>[t]
 | .pre t _ _ _=>[t]
 | .part t _ _ _ _=>[t]
 | .pa t _ _ _ _=>t::bx t
 | .pb t _ _=>t::bx t
 | .bp t _ _=>t::bx t
 | .bD cs _=>qh bx cs
 | .mp t=>[t]
 | .ez _ a b=>qh bx a++qh bx b
 |_=>[]
def qh (bx:Nat->List Nat):List SV->List Nat
 | []=>[]
 |x::xs=>Mf bx x++qh bx xs
end
def wE (s:List SB):Nat->Nat->List Nat
 |0,_=>[]
 |n+1,t=>match nth s t with
  |some (.box cs)=>qh (wE s n) cs
  |_=>[]
mutual
def SV.sure:SV->Bool
 | .gH=>afd
 | .agg cs=>lI cs
 | .cy cs=>lI cs
 | .bD cs _=>lI cs
 | .ez _ a b=>lI a&&lI b
 |_=>afc
def lI:List SV->Bool
 | []=>afc
 |x::xs=>x.sure&&lI xs
end
mutual
def zH:SV->Bool
 | .int _ _| .bool _| .str _=>afc
 | .agg cs=>qi cs
 | .cy cs=>qi cs
 |_=>afd
def qi:List SV->Bool
 | []=>afc
 |x::xs=>zH x&&qi xs
end
mutual
def Rs (s:List SB):SV->Option SV
 | .int k n=>afa (.int k n)
 | .bool b=>afa (.bool b)
 | .str x=>afa (.str x)
 | .agg cs=>match Mg s cs with|some l=>afa (.agg l)|none=>afb
 | .cy cs=>match Mg s cs with|some l=>afa (.cy l)|none=>afb
 | .sl r l=>afa (.sl r l)
 | .nil e _=>afa (.nil e afd)
 | .own t _=>match nth s t with
  |some (.arr r l)=>afa (.sl r l)
  |_=>afb
 | .pre t len _ _=>match nth s t with
  |some (.arr r l)=>afa (.sl r (l.take len))
  |_=>afb
 | .part t off len _ _=>match nth s t with
  |some (.arr r l)=>afa (.sl r ((l.drop off).take len))
  |_=>afb
 |_=>afb
def Mg (s:List SB):List SV->Option (List SV)
 | []=>afa []
 |x::xs=>match Rs s x,Mg s xs with
  |some y,afa ys=>afa (y::ys)
  |_,_=>afb
end
mutual
def Pn (s:List SB) (z:List Nat):List Nat->SV->Option (SV×List Nat)
 |seen,.int k n=>afa (.int k n,seen)
 |seen,.bool b=>afa (.bool b,seen)
 |seen,.agg cs=>match J3 s z seen cs with|some p=>afa (.agg p.1,p.2)|none=>afb
 |seen,.cy cs=>match J3 s z seen cs with|some p=>afa (.cy p.1,p.2)|none=>afb
 |seen,.nil e c=>bif c then afa (.nil e afd,seen) else afb
 |seen,.own t _=>match nth s t with
  |some (.arr r l)=>bif has seen t||has z t then afb else afa (.sl r l,t::seen)
  |_=>afb
 |_,_=>afb
def J3 (s:List SB) (z:List Nat):List Nat->List SV->Option (List SV×List Nat)
 |seen,[]=>afa ([],seen)
 |seen,x::xs=>match Pn s z seen x with
  |some p=>match J3 s z p.2 xs with
   |some q=>afa (p.1::q.1,q.2)
   |none=>afb
  |none=>afb
end
mutual
def xg:Nat->SV->SV×List SB
 |nx,.sl r l=>(.own nx afd,[.arr r l])
 |nx,.nil e _=>(.own nx afd,[.arr (ae1 e (.i .i64)) []])
 |nx,.agg cs=>(.agg (sY nx cs).1,(sY nx cs).2)
 |nx,.cy cs=>(.cy (sY nx cs).1,(sY nx cs).2)
 |_,v=>(v,[])
def sY:Nat->List SV->List SV×List SB
 |_,[]=>([],[])
 |nx,x::xs=>((xg nx x).1::(sY (nx+(xg nx x).2.length) xs).1,(xg nx x).2++(sY (nx+(xg nx x).2.length) xs).2)
end
def En:SB->List Nat
 | .box cs=>qh rJ cs
 |_=>[]
def yk:SB->Bool
 | .box cs=>lI cs
 |_=>afc
def BT (s:List SB):Nat->List Nat->List Nat->Option (List Nat)
 |_,[],seen=>afa seen
 |0,_::_,_=>afb
 |n+1,t::ts,seen=>
  bif has seen t then BT s n ts seen
  else match nth s t with
   |some b=>bif yk b then BT s n (En b++ts) (seen++[t]) else afb
   |none=>afb
mutual
def py (m:List Nat):SV->Option SV
 | .agg cs=>match sg m cs with|some l=>afa (.agg l)|none=>afb
 | .cy cs=>match sg m cs with|some l=>afa (.cy l)|none=>afb
 | .own t ex=>match idxOf t m with|some u=>afa (.own u ex)|none=>afb
 | .pre t len cap ex=>match idxOf t m with|some u=>afa (.pre u len cap ex)|none=>afb
 | .part t off len cap ex=>match idxOf t m with|some u=>afa (.part u off len cap ex)|none=>afb
 | .pa t _ i _ off=>match idxOf t m with|some u=>afa (.pb u i off)|none=>afb
 | .pb t i off=>match idxOf t m with|some u=>afa (.pb u i off)|none=>afb
 | .bp t n off=>match idxOf t m with|some u=>afa (.bp u n off)|none=>afb
 | .bD cs off=>match sg m cs with|some l=>afa (.bD l off)|none=>afb
 | .mp t=>match idxOf t m with|some u=>afa (.mp u)|none=>afb
 | .ez f a b=>match sg m a,sg m b with
  |some x,afa y=>afa (.ez f x y)
  |_,_=>afb
 | .gH=>afb
 |v=>afa v
def sg (m:List Nat):List SV->Option (List SV)
 | []=>afa []
 |x::xs=>match py m x,sg m xs with
  |some y,afa ys=>afa (y::ys)
  |_,_=>afb
end
def Mh (m:List Nat):SB->Option SB
 | .box cs=>match sg m cs with|some l=>afa (.box l)|none=>afb
 |b=>afa b
def Gc (s:List SB) (m:List Nat):List Nat->Option (List SB)
 | []=>afa []
 |t::ts=>match nth s t with
  |some b=>match Mh m b,Gc s m ts with
   |some b',afa r=>afa (b'::r)
   |_,_=>afb
  |none=>afb
def rowOf (rk:List (Nat×List PT)) (esz:Nat):List PT:=
 match rk with
 | []=>ae1 esz (.i .i64)
 |(n,r)::q=>bif Do n esz&&Do (af6 r) esz then r else rowOf q esz
def Ie:Option Nat->SV->SV
 |some _,.own t _=> .own t afd
 |some _,.pre t l c _=> .pre t l c afd
 |some _,.part t o l c _=> .part t o l c afd
 |_,v=>v
def wg (rk:List (Nat×List PT)) (e:SE) (m:List Nat):Nat->List (Nat×Option Nat)->Option (SE×List SB)
 |_,[]=>afa ([],[])
 |nx,(s,k)::r=>
  match k,CL s e with
  |some esz,.nil _ afc=>match wg rk e m (nx+1) r with
   |some p=>afa ((s,.own nx afd)::p.1,.arr (rowOf rk esz) []::p.2)
   |none=>afb
  |_,v=>match py m v,wg rk e m nx r with
   |some v',afa p=>afa ((s,Ie k v')::p.1,p.2)
   |_,_=>afb
def Eo (rk:List (Nat×List PT)) (st:ob) (t c esz:Nat):ob:=
 match nth st.ax t with
 |some (.box cs)=>match nth cs c with
  |some (.nil _ afc)=>{st with ax:=st.ax.set t (.box (cs.set c (.own (af6 st.ax) afd)))++[.arr (rowOf rk esz) []]}
  |_=>st
 |_=>st
def Rt:SV->Option Nat
 | .bp t _ 0=>afa t
 |_=>afb
def UF:SV->Option Nat
 | .ez _ _ (x::_)=>Rt x
 |x=>Rt x
def lx (rk:List (Nat×List PT)):List (Nat×Option Nat)->ob->ob
 | [],st=>st
 |(s,k)::r,st=>match k with
  |some n=>bif aaB 1000 n then (match UF (CL s st.env) with
   |some t=>lx rk r (Eo rk st t (n / 1000-1) (n%1000))
   |none=>lx rk r st) else lx rk r st
  |none=>lx rk r st
def GM (s:List SB) (v:SV):SV:=
 match v with
 | .own t ex=>match nth s t with
  |some (.arr _ l)=> .pre t (af6 l) (af6 l) ex
  |_=>v
 |_=>v
def NU (s:List SB) (c:Nat):SE->SE
 | []=>[]
 |(t,v)::r=>bif Do t c then (t,GM s v)::r else (t,v)::NU s c r
def AO:List (Nat×Option Nat)->ob->ob
 | [],st=>st
 |(t,_)::r,st=>bif aaB 1000000 t then AO r {st with env:=NU st.ax (t-1000000) st.env} else AO r st
def AP (e:SE):List (Nat×Option Nat)->Bool
 | []=>afc
 |(s,_)::r=>(CL s e).sure&&AP e r
def Ep (e:SE):List (Nat×Option Nat)->List Nat
 | []=>[]
 |(s,_)::r=>Mf rJ (CL s e)++Ep e r
def Mi:List SB->Nat->List Nat
 |b::r,n+1=>En b++Mi r n
 |_,_=>[]
def Er:List SB->Nat->Bool
 |b::r,n+1=>yk b&&Er r n
 |_,_=>afc
def Es (rk:List (Nat×List PT)) (live:List (Nat×Option Nat)) (st:ob):Option ob:=
 bif AP st.env live&&Er st.ax st.kn then
  match BT st.ax 4096 (Mi st.ax st.kn++Ep st.env live) (tL st.kn) with
  |none=>afb
  |some m=>match Gc st.ax m m,wg rk st.env m (af6 m) live with
   |some s1,afa (e1,s2)=>afa (AO live (lx rk live {env:=e1,ax:=s1++s2,fz:=wP st.fz 0 m,kn:=st.kn}))
   |_,_=>afb
 else afb
def Et (rk:List (Nat×List PT)) (live:List (Nat×Option Nat)) (st:ob):Option ob:=
 match Es rk live st with
 |some s=>bif live.any fun p=>p.2.isSome then Es rk live s else afa s
 |none=>afb
inductive AK where
 |i
 |b
 |n
 |l (r:List PT)
 |s
@[reducible] def AK.T : AK -> Type
  | .i => Int
  | .b => Bool
  | .n => Nat
  | .l r => List (RT r)
  | .s => List (List Int)
@[reducible] def gM : List AK -> Type
  | [] => Unit
  | [a] => a.T
  | a :: q :: r => a.T × gM (q :: r)
inductive wJ where
 |i (n:Int)
 |b (x:Bool)
 |n (x:Nat)
 |l (r:List PT) (x:List (RT r))
 |s (x:List (List Int))
def wJ.k:wJ->AK
 | .i _=> .i
 | .b _=> .b
 | .n _=> .n
 | .l r _=> .l r
 | .s _=> .s
def AK.at:(a:AK)->a.T->wJ
 | .i,x=> .i x
 | .b,x=> .b x
 | .n,x=> .n x
 | .l r,x=> .l r x
 | .s,x=> .s x
def AK.of:(a:AK)->wJ->Option a.T
 | .i,.i x=>afa x
 | .b,.b x=>afa x
 | .n,.n x=>afa x
 | .l r,.l q x=>qJ q r x
 | .s,.s x=>afa x
 |_,_=>afb
def kC:(ks:List AK)->gM ks->List wJ
 | [],_=>[]
 | [a],x=>[a.at x]
 |a::q::r,x=>a.at x.1::kC (q::r) x.2
def kQ:(ks:List AK)->List wJ->Option (gM ks)
 | [],[]=>afa ()
 | [a],[x]=>a.of x
 |a::q::r,x::xs=>match a.of x,kQ (q::r) xs with
  |some y,afa ys=>afa (y,ys)
  |_,_=>afb
 |_,_=>afb
mutual
def BU:SV->List wJ
 | .int _ n=>[.i n]
 | .bool b=>[.b b]
 | .agg cs=>BV cs
 | .cy cs=>BV cs
 | .sl r l=>[.l r l]
 | .pre _ len cap _=>[.n len,.n cap]
 | .part _ off len cap _=>[.n off,.n len,.n cap]
 | .pb _ i _=>[.i i]
 | .bD cs _=>BV cs
 | .ez _ a b=>BV a++BV b
 |_=>[]
def BV:List SV->List wJ
 | []=>[]
 |x::xs=>BU x++BV xs
end
def Ru:SB->List wJ
 | .arr r l=>[.l r l]
 | .box cs=>BV cs
 | .set l=>[.s l]
 | .cj p l=>[.l [.i .i64,p] l]
 | .dead=>[]
def Ig:List SB->List wJ
 | []=>[]
 |b::r=>Ru b++Ig r
def Po:SE->List wJ
 | []=>[]
 |(_,v)::r=>BU v++Po r
def ni (st:ob):List wJ:=Po st.env++Ig st.ax
mutual
def wj:SV->SV->Bool
 | .undef,.undef=>afc
 | .jd,.jd=>afc
 | .dH,.dH=>afc
 | .int k _,.int l _=>fk k l
 | .bool _,.bool _=>afc
 | .agg a,.agg b=>xh a b
 | .cy a,.cy b=>xh a b
 | .sl r _,.sl q _=>AM r q
 | .nil e c,.nil f d=>Do e f&&c==d
 | .own t x,.own u y=>Do t u&&x==y
 | .pre t _ _ x,.pre u _ _ y=>Do t u&&x==y
 | .part t _ _ _ x,.part u _ _ _ y=>Do t u&&x==y
 | .pb t _ o,.pb u _ p=>Do t u&&Do o p
 | .bp t n o,.bp u m p=>Do t u&&Do n m&&Do o p
 | .bD a o,.bD b p=>xh a b&&Do o p
 | .ez f a b,.ez g c d=>Do f g&&xh a c&&xh b d
 | .mp t,.mp u=>Do t u
 | .gH,.gH=>afc
 |_,_=>afd
def xh:List SV->List SV->Bool
 | [],[]=>afc
 |x::xs,y::ys=>wj x y&&xh xs ys
 |_,_=>afd
end
def Zz:SB->SB->Bool
 | .arr r _,.arr q _=>AM r q
 | .box a,.box b=>xh a b
 | .set _,.set _=>afc
 | .cj p _,.cj q _=>p.same q
 | .dead,.dead=>afc
 |_,_=>afd
def Eu:List SB->List SB->Bool
 | [],[]=>afc
 |x::xs,y::ys=>Zz x y&&Eu xs ys
 |_,_=>afd
def NV:SE->SE->Bool
 | [],[]=>afc
 |(t,x)::xs,(u,y)::ys=>Do t u&&wj x y&&NV xs ys
 |_,_=>afd
def NW:List Nat->List Nat->Bool
 | [],[]=>afc
 |x::xs,y::ys=>Do x y&&NW xs ys
 |_,_=>afd
def zI (a b:ob):Bool:=NV a.env b.env&&Eu a.ax b.ax&&NW a.fz b.fz&&Do a.kn b.kn
mutual
def rN:SV->List wJ->SV×List wJ
 | .int k _,.i n::q=>(.int k n,q)
 | .bool _,.b x::q=>(.bool x,q)
 | .agg cs,q=>(.agg (qj cs q).1,(qj cs q).2)
 | .cy cs,q=>(.cy (qj cs q).1,(qj cs q).2)
 | .sl _ _,.l r l::q=>(.sl r l,q)
 | .pre t _ _ x,.n len:: .n cap::q=>(.pre t len cap x,q)
 | .part t _ _ _ x,.n off:: .n len:: .n cap::q=>(.part t off len cap x,q)
 | .pb t _ o,.i i::q=>(.pb t i o,q)
 | .bD cs o,q=>(.bD (qj cs q).1 o,(qj cs q).2)
 | .ez f a b,q=>(.ez f (qj a q).1 (qj b (qj a q).2).1,(qj b (qj a q).2).2)
 |v,q=>(v,q)
def qj:List SV->List wJ->List SV×List wJ
 | [],q=>([],q)
 |x::xs,q=>((rN x q).1::(qj xs (rN x q).2).1,(qj xs (rN x q).2).2)
end
def Mj:SB->List wJ->SB×List wJ
 | .arr _ _,.l r l::q=>(.arr r l,q)
 | .box cs,q=>(.box (qj cs q).1,(qj cs q).2)
 | .set _,.s l::q=>(.set l,q)
 | .cj _ _,.l [.i .i64,p] l::q=>(.cj p l,q)
 |b,q=>(b,q)
def zJ:List SB->List wJ->List SB×List wJ
 | [],q=>([],q)
 |b::r,q=>((Mj b q).1::(zJ r (Mj b q).2).1,(zJ r (Mj b q).2).2)
def J4:SE->List wJ->SE×List wJ
 | [],q=>([],q)
 |(t,v)::r,q=>((t,(rN v q).1)::(J4 r (rN v q).2).1,(J4 r (rN v q).2).2)
def uj (st:ob) (q:List wJ):ob:={st with env:=(J4 st.env q).1,ax:=(zJ st.ax (J4 st.env q).2).1}
def Rv:List wJ->List AK
 | []=>[]
 |a::r=>a.k::Rv r
def ptK {β:Type 1} (p:PT) (c:PT->β):β:=
 match p with
 | .i k=>c (.i k)
 | .b=>c .b
def rK {β:Type 1}:List PT->(List PT->β)->β
 | [],c=>c []
 |p::r,c=>ptK p fun p=>rK r fun r=>c (p::r)
def UG {β:Type 1}:List AK->(List AK->β)->β
 | [],c=>c []
 | .i::r,c=>UG r fun r=>c (.i::r)
 | .b::r,c=>UG r fun r=>c (.b::r)
 | .n::r,c=>UG r fun r=>c (.n::r)
 | .l q::r,c=>rK q fun q=>UG r fun r=>c (.l q::r)
 | .s::r,c=>UG r fun r=>c (.s::r)
mutual
def qL:SV->Option PV
 | .int k n=>afa (.int k n)
 | .bool b=>afa (.bool b)
 | .str x=>afa (.str x)
 | .dH=>afa .dH
 | .agg cs=>match qM cs with|some l=>afa (.agg l)|none=>afb
 | .cy cs=>match qM cs with|some l=>afa (.cy l)|none=>afb
 | .sl r l=>afa (.sl (af6 r) afd (l.map (RT.pv r)))
 | .nil e c=>afa (.sl e c [])
 | .bD cs off=>match qM cs with|some l=>afa (.bD l off)|none=>afb
 | .ez f a b=>match qM a,qM b with
  |some x,afa y=>afa (.ez f x y)
  |_,_=>afb
 |_=>afb
def qM:List SV->Option (List PV)
 | []=>afa []
 |x::xs=>match qL x,qM xs with
  |some y,afa ys=>afa (y::ys)
  |_,_=>afb
end
structure dY (α:Type) where
 enc:α->List SV
 dec:List SV->Option (α×List SV)
 law: ∀{vs:List SV} {a:α} {rest:List SV} {ps:List PV},dec vs=afa (a,rest)->qM vs=afa ps-> ∃p q,ps=p++q/\qM (enc a)=afa p/\qM rest=afa q
structure Arg (α:Type) where
 enc:α->SV
 dec:SV->Option α
 law: ∀{v:SV} {a:α} {p:PV},dec v=afa a->qL v=afa p->qL (enc a)=afa p
structure ay (α:Type) where
 enc:α->List SV
 dec:List SV->Option α
 law: ∀{vs:List SV} {a:α} {ps:List PV},dec vs=afa a->qM vs=afa ps->qM (enc a)=afa ps
inductive Kd where
 |pure
 |tJ
 |own
structure rI where
 {α β:Type}
 args:ay α
 res:Arg β
 fn:α->Option β
 kd:Kd
 ow:Bool
structure eS where
 ka:List AK
 ta:List SV
 tb:List SB
 ko:List AK
 tv:SV
 to:List SB
 fn:gM ka->Option (gM ko)
def AQ:(p:PT)->PV->Option p.T
 | .i k,.int l n=>bif fk l k then afa n else afb
 | .b,.bool x=>afa x
 |_,_=>afb
def Gd:(r:List PT)->List PV->Option (RT r)
 | [],[]=>afa ()
 | [p],[v]=>AQ p v
 |p::q::r,v::vs=>match AQ p v,Gd (q::r) vs with
  |some a,afa b=>afa (a,b)
  |_,_=>afb
 |_,_=>afb
def CO (r:List PT):List (List PV)->Option (List (RT r))
 | []=>afa []
 |x::xs=>match Gd r x,CO r xs with
  |some a,afa l=>afa (a::l)
  |_,_=>afb
structure Srt where
 r:List PT
 g:Option FuncId
 fn:List (RT r)->Option (List (RT r))
def Mk:Srt:=⟨[.i .i64],afb,Ia⟩
def UH:Option FuncId->List PV->Bool
 |none,[]=>afc
 |some g,[.ez h [] []]=>Do h g
 |_,_=>afd
def Ih (q:Srt) (args:List PV) (ax:cw) (fz:List Nat):Option (PV×cw×List Nat):=
 match args with
 | .own t e off len _ _::r=>match ax[t]? with
  |some (.arr e1 rows)=>if Do e (af6 q.r)&&Do off 0&&aaB len (af6 rows)&&aaB len eA&&!has fz t&&UH q.g r then
   (match CO q.r (rows.take len) with
   |some l=>match q.fn l with
    |some m=>if Do (af6 m) (af6 l) then afa (.cy [],ax.set t (.arr e1 (m.map (RT.pv q.r)++rows.drop len)),fz) else afb
    |none=>afb
   |none=>afb) else afb
  |_=>afb
 |_=>afb
inductive Cd where
 |code (x:aN)
 |ins (esz:Nat)
 |srt (q:Srt)
 |cat
instance:Coe aN Cd:=⟨.code⟩
def Cd.ent:Cd->Y5
 | .code x=> .code x
 | .ins n=> .FW (HF n)
 | .srt q=> .FW (Ih q)
 | .cat=> .FW HD
structure Ctx where
 lp:Option Nat
 ZA:FuncId->List rI
 fpc:FuncId->List eS
 code:FuncId->Option Cd
 rk:List (Nat×List PT)
 jn:Bool
inductive XRS where
 |loc (r:fM)
 |shr (v:SV) (s:List SB) (z:List Nat)
def SV.aaA:SV->Bool
 | .own .. | .pre .. | .part .. | .pa .. | .pb .. | .bp .. | .mp .. =>afc
 |_=>afd
def zK:List SV->Bool
 | []=>afd
 |x::xs=>x.aaA||zK xs
mutual
def TZ (ts:List Nat):SV->SV
 | .pa t r i a off=>bif has ts t then .pb t i off else .pa t r i a off
 | .agg cs=> .agg (Rw ts cs)
 | .cy cs=> .cy (Rw ts cs)
 | .bD cs off=> .bD (Rw ts cs) off
 | .ez f a b=> .ez f (Rw ts a) (Rw ts b)
 |v=>v
def Rw (ts:List Nat):List SV->List SV
 | []=>[]
 |x::xs=>TZ ts x::Rw ts xs
end
def dgE (ts:List Nat):SE->SE
 | []=>[]
 |(t,v)::r=>(t,TZ ts v)::dgE ts r
def UI (ts:List Nat):SB->SB
 | .box cs=> .box (Rw ts cs)
 |b=>b
def Bt (ts:List Nat):List SB->List SB
 | []=>[]
 |b::r=>UI ts b::Bt ts r
def Rx:List SB->Nat->SB->List SB
 | [],_,_=>[]
 |_::r,0,b=>b::r
 |x::r,n+1,b=>x::Rx r n b
def pS:List (Nat×SB)->List SB->List SB
 | [],s=>s
 |(t,b)::r,s=>pS r (Rx s t b)
def xi:List (Nat×SB)->List Nat
 | []=>[]
 |(t,_)::r=>t::xi r
def Ii (d:Option Nat) (v:SV) (e:SE):SE:=
 match d with
 |some t=>(t,v)::e
 |none=>e
def apS:List SB->List SB->List SB
 | [],l=>l
 |b::r,l=>b::apS r l
def fM.next (d:Option Nat) (st:ob) (r:fM):ob:=
 match r.wr with
 | []=>{env:=Ii d r.v st.env,ax:=apS st.ax r.news,fz:=r.fr++st.fz,kn:=st.kn}
 |w=>{env:=Ii d r.v (dgE (xi w) st.env),ax:=apS (Bt (xi w) (pS w st.ax)) r.news,fz:=r.fr++st.fz,kn:=st.kn}
def fM.ok (z:List Nat) (r:fM):Bool:=(xi r.wr).all fun t=>!has z t
def fM.tr (nx:Nat) (r:fM):Tr:=
 ⟨r.rd++r.fr,xi r.wr,!r.news.isEmpty,afd,(r.rd++r.fr).all (ae8 · nx)&&(xi r.wr).all (ae8 · nx),nx,nx+af6 r.news⟩
def Ry:Tr:=⟨[],[],afc,afc,afc,0,0⟩
def oN {R:Type}:List SB->List SB->fZ R->fZ R
 | [],_,k=>k
 |x::xs,y::ys,k=>match x with
  | .arr r l=>match y with
   | .arr q m=>bif AM r q then fR (af6 m==af6 l) (oN xs ys k) aK else aK
   | .dead=>oN xs ys k
   |_=>aK
  | .dead=>match y with
   | .dead=>oN xs ys k
   |_=>aK
  | .box _=>match y with
   | .box _=>oN xs ys k
   | .dead=>oN xs ys k
   |_=>aK
  |_=>oN xs ys k
 |_,_,_=>aK
abbrev UJ:=FuncId->List SV->List SB->List Nat-> ∀R:Type,(SV->List SB->List Nat->fZ R)->fZ R
section
variable {R : Type}
def afY (_:FuncId) (_:List SV):fZ R:=aK
def ajt (_:FuncId) (_:List SV) (_:List SB):fZ R:=aK
def Ml (f:FuncId) (m:Bool) (s:List SB) (tk:List Nat) (vs:List SV) (k:XRS->fZ R):List rI->fZ R
 | []=>afY f vs
 |c::r=>match c.args.dec vs with
  |some a=>bif m==c.ow then kB (c.fn a) fun b=>match c.kd with
   | .pure=>k (.loc {v:=c.res.enc b,rd:=tk})
   | .tJ=>k (.loc {v:=c.res.enc b,rd:=tk,fr:=tk})
   | .own=>k (.loc {v:=(xg (af6 s) (c.res.enc b)).1,news:=(xg (af6 s) (c.res.enc b)).2,rd:=tk}) else Ml f m s tk vs k r
  |none=>Ml f m s tk vs k r
mutual
def J5 (g:Nat->Nat):SV->SV
 | .agg cs=> .agg (CP g cs)
 | .cy cs=> .cy (CP g cs)
 | .own t ex=> .own (g t) ex
 | .pre t len cap ex=> .pre (g t) len cap ex
 | .part t off len cap ex=> .part (g t) off len cap ex
 | .pa t _ i _ off=> .pb (g t) i off
 | .pb t i off=> .pb (g t) i off
 | .bp t n off=> .bp (g t) n off
 | .bD cs off=> .bD (CP g cs) off
 | .mp t=> .mp (g t)
 | .ez f a b=> .ez f (CP g a) (CP g b)
 |v=>v
def CP (g:Nat->Nat):List SV->List SV
 | []=>[]
 |x::xs=>J5 g x::CP g xs
end
def Rz (g:Nat->Nat):SB->SB
 | .box cs=> .box (CP g cs)
 |b=>b
def yZ (g:Nat->Nat):List Nat->List SB->List (Nat×SB)
 |t::r,b::s=>(t,Rz g b)::yZ g r s
 |_,_=>[]
def ZB (k:Nat) (v:SV) (s:List SB):Bool:=(Mf rJ v++s.flatMap En).all fun t=>ae8 t k
def fpS (f : FuncId) (n : Nat) (tk : List Nat) (vs : List SV) (s0 : List SB) (k : XRS -> fZ R) : List eS -> fZ R
  | [] => ajt f vs s0
  | c :: r => bif xh c.ta vs && Eu c.tb s0 then (match kQ c.ka (BV vs ++ Ig s0) with
      | some a => kB (c.fn a) fun b =>
          k (.loc { v := J5 (jE tk n) (rN c.tv (kC c.ko b)).1, wr := yZ (jE tk n) tk (zJ c.to (rN c.tv (kC c.ko b)).2).1 })
      | none => fpS f n tk vs s0 k r) else fpS f n tk vs s0 k r
def GN (cx:Ctx) (inl:UJ) (e:SE) (s:List SB) (z:List Nat) (op:kv) (k:XRS->fZ R):fZ R:=
 match op with
 | .call m f args=>match m with
  | .TO=>match qK s (jU s deep) (ji e args) with
   |some vs=>Ml f afd s (qh (wE s deep) (ji e args)) vs k (cx.ZA f)
   |none=>aK
  | .own=>match qK s (jU s deep) (ji e args) with
   |some vs=>Ml f afc s (qh (wE s deep) (ji e args)) vs k (cx.ZA f)
   |none=>aK
  | .shr=>inl f (ji e args) s z R fun v s' z'=>k (.shr v s' z')
  | .fp=>match Me s (jU s deep) (ji e args) with
   |false=>aK
   |true=>let tk:=nT (qh (wE s deep) (ji e args))
    bif tk.all (fun t=>!has z t) then (match sg tk (ji e args),Gc s tk tk with
     |some vs,afa s0=>fpS f (af6 s) tk vs s0 k (cx.fpc f)
     |_,_=>aK) else aK
 | .vY x args=>match bP e x with
  | .ez f a b=>bif zK (ji e args++b) then inl f (a++ji e args++b) s z R fun v s' z'=>k (.shr v s' z')
   else match qK s (jU s deep) (a++ji e args++b) with
   |some vs=>Ml f afd s (qh (wE s deep) (a++ji e args++b)) vs k (cx.ZA f)
   |none=>aK
  |_=>aK
 |op=>lJ e s z op fun r=>k (.loc r)
def NX (d:Option Nat) (st:ob) (tr:List Tr) (k:ob->List Tr->fZ R) (x:XRS):fZ R:=
 match x with
 | .loc r=>bif r.ok st.fz then UD r.v fun v=>k ({r with v}.next d st) (r.tr (af6 st.ax)::tr) else aK
 | .shr v s z=>UD v fun v=>oN st.ax s (bif st.fz.all (has z) then k {env:=Ii d v (dgE (tL (af6 st.ax)) st.env),ax:=s,fz:=z,kn:=st.kn} (Ry::tr) else aK)
def oc (cx:Ctx) (inl:UJ):List bM->ob->List Tr->(ob->List Tr->fZ R)->fZ R
 | [],st,tr,k=>k st tr
 |o::r,st,tr,k=>
  let run:=fun st:ob=>match o.op with
   | .pick (.t c) a b=>match CL c st.env with
    | .bool x=>fR x (NX o.dst {st with env:=zG c (.bool afc) st.env} tr (oc cx inl r · · k) (.loc {v:=bP st.env a}))
     (NX o.dst {st with env:=zG c (.bool afd) st.env} tr (oc cx inl r · · k) (.loc {v:=bP st.env b}))
    |_=>aK
   |op=>GN cx inl st.env st.ax st.fz op (NX o.dst st tr (oc cx inl r · · k))
  let skip:=fun st:ob=>oc cx inl r {st with env:=Ii o.dst .jd st.env} (Tr.idle::tr) k
  match o.guard with
  |none=>run st
  |some (s,want)=>match CL s st.env with
   | .bool x=>bif want then fR x (run {st with env:=zG s (.bool afc) st.env}) (skip {st with env:=zG s (.bool afd) st.env})
    else fR x (skip {st with env:=zG s (.bool afc) st.env}) (run {st with env:=zG s (.bool afd) st.env})
   | .jd=>skip st
   |_=>aK
def J6 (e:SE):List Nat->(SE->fZ R)->fZ R
 | [],k=>k []
 |s::r,k=>UD (CL s e) fun v=>J6 e r fun e'=>k ((s,v)::e')
def jnV:SV->SV->SV
 | .undef,_=> .gH
 |_,v=>v
def jnE (o:SE):SE->SE
 | []=>[]
 |(t,v)::r=>(t,jnV (CL t o) v)::jnE o r
def jnL (o:SE):List Nat->SE
 | []=>[]
 |t::r=>(t,jnV (CL t o) (CL t o))::jnL o r
def Pp (o:SE) (ft:List Nat) (st:ob):ob:={st with env:=jnL o ft}
def guards:List bM->Nat
 | []=>0
 |o::r=>match o.guard with
  |none=>guards r
  |some _=>guards r+1
def jnC:iQ->Bool
 | .seq (.region _ ops _) (.cond _ _ _)=>aaB 8 (guards ops)
 |_=>afd
def jnK:iQ->List Nat
 | .seq (.region _ _ ft) _=>ft
 |_=>[]
noncomputable def xj (cx:Ctx) (inl:UJ):(c:iQ)->(R:Type)->ob->(gL->ob->fZ R)->fZ R
 | .skip,_,st,k=>k .normal st
 | .region d ops ft,_,st,k=>oc cx inl ops st [] fun j7 tr=>
  let fin:=J6 j7.env ft fun e=>k .normal {j7 with env:=e}
  match d with
  |none=>fin
  |some bf=>match qc 0 (tr.reverse.zip bf) with
   |true=>fin
   |false=>aK
 | .seq a b,R,st,k=>match cx.jn&&jnC a with
  |false=>xj cx inl a R st fun e j7=>match e with
   | .normal=>xj cx inl b R j7 k
   |e=>k e j7
  |true=>UG (Rv (ni (Pp st.env (jnK a) st))) fun ks=>match kQ ks (ni (Pp st.env (jnK a) st)) with
   |none=>aK
   |some y0=>fun ρ w=>NN cx.lp (fun y:Bool×gM ks=>fR y.1
    (xj cx inl a (Step (Bool×gM ks) ρ) st fun e uJ=>match e with
     | .normal=>bif zI (Pp st.env (jnK a) st) {uJ with env:=jnE st.env uJ.env} then (match kQ ks (ni {uJ with env:=jnE st.env uJ.env}) with
      |some y'=>CN (.next (afd,y'))
      |none=>aK) else aK
     |e=>fun wK w'=>k e uJ wK fun r=>w' (.done (w r)))
    (fun wK w'=>xj cx inl b R (uj (Pp st.env (jnK a) st) (kC ks y.2)) k wK fun r=>w' (.done (w r))) (Step (Bool×gM ks) ρ) fun z=>z) (afc,y0)
 | .cond c a b,R,st,k=>match bP st.env c with
  | .bool x=>fR x (xj cx inl a R st k) (xj cx inl b R st k)
  |_=>aK
 | .block id b,R,st,k=>xj cx inl b R st fun e j7=>match e with
  | .exit j=>bif Do j id then k .normal j7 else k (.exit j) j7
  |e=>k e j7
 | .loop live b,_,st,k=>match Et cx.rk live st with
  |none=>aK
  |some mW=>UG (Rv (ni mW)) fun ks=>match kQ ks (ni mW) with
   |none=>aK
   |some y0=>fun ρ w=>NN cx.lp (fun y:gM ks=>xj cx inl b (Step (gM ks) ρ) (uj mW (kC ks y)) (fun e uJ=>match e with
    | .normal=>match Et cx.rk live uJ with
     |some Mm=>bif zI mW Mm then (match kQ ks (ni Mm) with
      |some y'=>CN (.next y')
      |none=>aK) else aK
     |none=>aK
    |e=>fun wK w'=>k e uJ wK fun r=>w' (.done (w r))) (Step (gM ks) ρ) fun z=>z) y0
 | .exit id,_,st,k=>k (.exit id) st
 | .ret,_,st,k=>k .ret st
def Mn (st:ob):RV->Option SV
 | .tmp t=>afa (CL t st.env)
 | .cell t agg=>match CL t st.env with
  | .bp t _ off=>match nth st.ax t with
   |some (.box cs)=>yX agg off cs
   |_=>afb
  | .bD cs off=>yX agg off cs
  |_=>afb
def yl (st:ob):List RV->Option (List SV)
 | []=>afa []
 |r::rs=>match Mn st r,yl st rs with
  |some v,afa vs=>afa (v::vs)
  |_,_=>afb
def BW:List SV->SV
 | [v]=>v
 |vs=> .cy vs
def Mo:Nat->List SV->SE
 |_,[]=>[]
 |i,v::r=>(i,v)::Mo (i+1) r
noncomputable def J7 (cx:Ctx) (inl:UJ) (x:aN) (R:Type) (args:List SV) (s:List SB) (z:List Nat) (k:SV->List SB->List Nat->fZ R):fZ R:=
 bif Do (af6 args) x.CB then xj cx inl x.code R {env:=Mo 0 args,ax:=s,fz:=z,kn:=af6 s} fun e st=>match e with
  | .exit _=>aK
  |_=>match yl st x.res with
   |some vs=>k (BW vs) st.ax st.fz
   |none=>aK
 else aK
def fM.mH (s:List SB) (r:fM):List SB:=
 match r.wr with
 | []=>apS s r.news
 |w=>apS (Bt (xi w) (pS w s)) r.news
def CQ:Option FuncId->List SV->Bool
 |none,[]=>afc
 |some g,[.ez h [] []]=>Do h g
 |_,_=>afd
structure afZ where
 t:Nat
 r:List PT
 l:List (RT r)
 i:Int
 m:List (RT r)
def UK (esz:Nat) (args:List SV) (s:List SB) (z:List Nat):Option afZ:=
 match args with
 | [.own t _,.int .i64 i,.own u _]=>match nth s t with
  |some (.arr r l)=>match nth s u with
   |some (.arr q m)=>match qJ q r m with
    |some m=>bif Do (af6 r) esz&&!Nat.beq t u&&!has z t then afa ⟨t,r,l,i,m⟩ else afb
    |none=>afb
   |_=>afb
  |_=>afb
 |_=>afb
def aaD (esz:Nat) (args:List SV) (s:List SB) (z:List Nat) (k:SV->List SB->List Nat->fZ R):fZ R:=
 match UK esz args s z with
 |some a=>kB (sf a.l a.i a.m) fun l'=>k (.own (af6 s) afd) (fM.mH s {v:= .own (af6 s) afd,news:=[.arr a.r l'],wr:=[(a.t,.dead)]}) z
 |none=>aK
structure af0 where
 t:Nat
 r:List PT
 l:List (RT r)
 m:List (RT r)
def UL (args:List SV) (s:List SB) (z:List Nat):Option af0:=
 match args with
 | [.part t off len _ _]=>match nth s t with
  |some (.box [.sl r l,.sl q m])=>match qJ q r m with
   |some m=>bif Do (af6 r) 1&&Do off 0&&Do len 2&&!has z t then afa ⟨t,r,l,m⟩ else afb
   |none=>afb
  |_=>afb
 |_=>afb
def aaE (args:List SV) (s:List SB) (z:List Nat) (k:SV->List SB->List Nat->fZ R):fZ R:=
 match UL args s z with
 |some a=>kB (Pm a.l a.m) fun l'=>k (.own (af6 s) afd) (fM.mH s {v:= .own (af6 s) afd,news:=[.arr a.r l'],wr:=[(a.t,.dead)]}) z
 |none=>aK
def UM (r:List PT) (g:Option FuncId) (args:List SV) (s:List SB) (z:List Nat):Option (Nat×Option Nat×List (RT r)):=
 match args with
 | .own t _::a=>match nth s t with
  |some (.arr q l)=>match qJ q r l with
   |some l=>bif !has z t&&CQ g a then afa (t,afb,l) else afb
   |none=>afb
  |_=>afb
 | .pre t len _ _::a=>match nth s t with
  |some (.arr q l)=>match qJ q r l with
   |some l=>bif !has z t&&CQ g a then afa (t,afa len,l) else afb
   |none=>afb
  |_=>afb
 |_=>afb
def aaF (q:Srt) (args:List SV) (s:List SB) (z:List Nat) (k:SV->List SB->List Nat->fZ R):fZ R:=
 match UM q.r q.g args s z with
 |some (t,afb,l)=>kB (CK q.fn l) fun m=>k (.cy []) (fM.mH s {v:= .cy [],wr:=[(t,.arr q.r m)]}) z
 |some (t,afa len,l)=>kB (yj q.fn len l) fun m=>k (.cy []) (fM.mH s {v:= .cy [],wr:=[(t,.arr q.r m)]}) z
 |none=>aK
noncomputable def RA (cx:Ctx):Nat->UJ
 |0=>fun _ _ _ _ _ _=>aK
 |n+1=>fun f args s z R k=>match cx.code f with
  |some (.code x)=>J7 cx (RA cx n) x R args s z k
  |some (.ins e)=>aaD e args s z k
  |some (.srt q)=>aaF q args s z k
  |some .cat=>aaE args s z k
  |none=>aK
def RC (kd:Kd) {β:Type} (res:Arg β) (v:SV) (s:List SB) (z:List Nat):fZ β:=
 match kd with
 | .pure=>bif zH v then kO (res.dec v) CN else aK
 | .tJ=>bif zH v then aK else kO (Rs s v) fun u=>kO (res.dec u) CN
 | .own=>kO (Pn s z [] v) fun u=>kO (res.dec u.1) CN
noncomputable def ZC (cx:Ctx) (x:aN) {α β:Type} (args:ay α) (res:Arg β) (kd:Kd) (a:α):Option β:=
 J7 cx (RA cx 8) x β (args.enc a) [] [] (RC kd res) β fun b=>b
def Ew:List SB->Bool
 | []=>afc
 |b::r=>yk b&&Ew r
def AR {R:Type}:List SB->List SB->fZ R->fZ R
 | [],[],k=>k
 |x::xs,y::ys,k=>match x with
  | .arr r l=>match y with
   | .arr q m=>bif AM r q then fR (af6 m==af6 l) (AR xs ys k) aK else aK
   |_=>aK
  | .dead=>match y with
   | .dead=>AR xs ys k
   |_=>aK
  | .box _=>match y with
   | .box _=>AR xs ys k
   |_=>aK
  | .set _=>match y with
   | .set _=>AR xs ys k
   |_=>aK
  | .cj _ _=>match y with
   | .cj _ _=>AR xs ys k
   |_=>aK
 |_,_,_=>aK
noncomputable def aju (wd:Bool) (cx:Ctx) (x:aN) (ka:List AK) (ta:List SV) (tb:List SB) (ko:List AK) (tv:SV) (to:List SB) (a:gM ka):Option (gM ko):=
 J7 cx (RA cx 8) x (gM ko) (qj ta (kC ka a)).1 (zJ tb (qj ta (kC ka a)).2).1 [] (fun v s z=>match z with
  | []=>let u:=bif wd then GM s v else v
   let s1:=s.take (af6 tb)
   bif wj tv u&&Eu to s1&&ZB (af6 tb) u s1&&u.sure&&Ew s1 then AR (zJ tb (qj ta (kC ka a)).2).1 s1 (kO (kQ ko (BU u++Ig s1)) CN) else aK
  |_=>aK) (gM ko) fun b=>b
end
end Go.Vm
