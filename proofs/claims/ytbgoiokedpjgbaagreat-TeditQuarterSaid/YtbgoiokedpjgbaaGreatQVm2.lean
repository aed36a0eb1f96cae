/- The logical machine, part 2: VmCall3, VmFp, VmRun, VmInv, VmStep, VmShr, VmOp, VmReg, VmReg2, VmNorm, VmNorm2, VmCode, VmSound, VmPrim, VmIns, VmCat, VmTab, VmComp, VmLaw, VmSym, SvBase, SvDef. -/
import Derived.Test.YtbgoiokedpjgbaaGreatQVm1
import Derived.Orders
import Derived.Laws.Sem
import Derived.Laws.Externs
import Derived.Lib.SliceRun
import Derived.Laws.CopyRow
import Derived.ProofKit
import Derived.Carry
import Derived.OpenShut
import Derived.Deep.Slices
import Derived.Deep.Grids
open Bool renaming and_eq_true->ut,false_eq_true->PP,not_eq_true'->UV,or_eq_true->agy,true->amD,false->amE
open List renaming getElem?_eq_getElem->v6,getElem?_eq_some_iff->Do,getElem?_append_left->EQ,getElem?_append_right->M2,mem_append->adm,all_eq_true->ae4,mem_singleton->ae9,length_append->af3,take_of_length_le->af4,append_assoc->afc,replicate->afe,mem_cons->afj,mem_cons_of_mem->afy,flatMap_append->afI,getD_eq_getElem?_getD->afM,pairwise_iff_getElem->afN,flatMap_cons->afY,getElem?_take_of_lt->afZ,length_drop->agd,length_take->agj,drop_of_length_le->agl,mem_append_right->agz,getElem?_set_ne->agB,mem_append_left->agE,mem_of_mem_take->aig,mem_of_mem_drop->aka,nodup_append->am1,getElem?_set->am2,any_eq_true->am4,length_set->am6,drop_zero->amo,length->amw
open Option.some renaming injEq->ww,inj->agp
open Nat renaming beq->AC,le_refl->If,lt_trichotomy->WF,lt_or_ge->acl,le_trans->adc,ble->ae3,zero_le->ae5,eq_or_lt_of_le->ae8,lt_of_lt_of_le->afb,ble_eq->afg,blt->afx,le_of_lt->afJ,add_mul->agK,mul_le_mul_right->akb,lt_or_gt_of_ne->alt,beq_eq->alX,le_total->am0,zero_add->amv
open Option renaming map_eq_some_iff->F0s,some->amB,none->amC
open Prod.mk renaming injEq->IR
open Array renaming getElem?_eq_some_iff->NE,getElem?_setIfInBounds->ae1,getD_eq_getD_getElem?->ae2,getElem?_setIfInBounds_self_of_lt->af5,replicate->afa,getElem?_eq_getElem->afW,size_replicate->agG,size_append->am3,ext'->amm
open Int renaming ofNat_eq_natCast->afB,ofNat->akc
open Go.Sem renaming run_bind->afK,run_pure->amq
open Go.Result renaming andThen_ok->afX
open Go.World renaming cell?->am5
open Decidable renaming decide->amF
/- A pure call, whole. -/
namespace Go.Vm
structure vE (im:Im) (loc:Loc) (aD:cL) (w:World) (v:PV) (vF:cL) (Js:List Nat) (eH:Im) (bn:Loc) (w':World) (u:Value):Prop where
 gH:od im eH
 dV:mw loc bn
 vr:VR eH bn v u
 sr:SR eH bn vF Js w'
 os:w'.os=w.os
 tape:w'.tape=w.tape
 output:w'.output=w.output
 size:w.heap.size<=w'.heap.size
 frame: ∀b,b<w.heap.size->(∀t li k,loc t=amB li->aD[t]? =amB k->k.bM=amD->li.dh≠b)->w'.heap[b]? =w.heap[b]?
 eg: ∀b o,eH b=amB o->im b=amB o\/w.heap.size<=b\/ ∃t li k,loc t=amB li/\aD[t]? =amB k/\k.bM=amD/\li.dh=b
 nR: ∀t li,bn t=amB li->loc t=amB li\/amw aD<=t
 own: ∀t li k,bn t=amB li->vF[t]? =amB k->k.bM=amD->(w.heap.size<=li.dh\/ ∃u lu ku,loc u=amB lu/\aD[u]? =amB ku/\ku.bM=amD/\lu.dh=li.dh)
def uO (P:Program) (f:FuncId) (us:Array Value) (w:World) (R:Value->World->Prop):Prop:=
 (∃v w',(callFunc f us).run P w= .ok (.value v) w'/\R v w')\/
 ((callFunc f us).run P w= .ok (.enter f us) w/\Calls P f us w fun e w'=> ∃v,e= .returned v/\R v w')
theorem uO.mono {P:Program} {f:FuncId} {us:Array Value} {w:World} {R R':Value->World->Prop} (h:uO P f us w R) (hr: ∀v w',R v w'->R' v w'):uO P f us w R':=by
 rcases h with ⟨v,w',h1,h2⟩|⟨h1,h2⟩
 · exact .inl ⟨v,w',h1,hr _ _ h2⟩
 exact .inr ⟨h1,h2.mono fun e w' ⟨v,he,hv⟩=>⟨v,he,hr _ _ hv⟩⟩
def CR (P : Program) (rec : Task -> Option Out) : Prop :=
  ∀ (f : FuncId) (args : List PV) (aD : cL) (fz : List Nat) (v : PV) (vF : cL) (Js : List Nat), rec (.func f args aD fz) = amB (.func v vF Js) ->
    ∀ (im : Im) (loc : Loc) (w : World) (us : List Value), SR im loc aD fz w -> fh im loc args us ->
      uO P f ⟨us⟩ w fun u w' => ∃ eH bn, vE im loc aD w v vF Js eH bn w' u
def Jt (P : Program) (f : FuncId) (p : List PV -> Option (PV × cL)) : Prop :=
  ∀ (args : List PV) (v : PV) (news : cL), p args = amB (v, news) -> ∀ (im : Im) (w : World) (us : List Value), SR im gl [] [] w -> fh im gl args us ->
    uO P f ⟨us⟩ w fun u w' => ∃ eH bn, vE im gl [] w v news [] eH bn w' u
def Bu (P : Program) (f : FuncId) (p : List PV -> cL -> List Nat -> Option (PV × cL × List Nat)) : Prop :=
  ∃ fn c, P.funcs[f]? = amB fn /\ (fn.name == "runtime.NumGoroutine") = amE /\ fn.body = amB c /\
    ∀ (args : List PV) (aD : cL) (fz : List Nat) (v : PV) (vF : cL) (Js : List Nat), p args aD fz = amB (v, vF, Js) ->
      ∀ (im : Im) (loc : Loc) (w : World) (us : List Value), SR im loc aD fz w -> fh im loc args us ->
        uO P f ⟨us⟩ w fun u w' => ∃ eH bn, vE im loc aD w v vF Js eH bn w' u
def za (P:Program) (F:m8):Prop:=(∀f k p,F f=amB (.kg k p)->k=amE/\Jt P f p)/\ ∀f p,F f=amB (.Hj p)->Bu P f p
section
variable {P : Program} {F : m8} {rec : Task -> Option Out} {im : Im} {loc : Loc} {aD : cL} {w : World}
theorem SR.empty (h: ∀b o,im b=amB o->w.heap[b]? =amB o):SR im gl [] [] w where
 bH:=h
 dh:=fun t li h=>by cases h
 iM:=fun t u li lj k k' h=>by cases h
 free:=fun t li k h=>by cases h
theorem RS {r:nY} {v:PV} {u:Value} {oj:cL} {Hk:List Nat} {im0 Es:Im} {dm:Loc} {w1:World} (hk:jn im loc aD w r) (hr:r.v=v) (hn:r.news=[]) (hw:r.wr=[]) (hno:v.kJ=amD)
 (hp:vE im0 gl [] w v oj Hk Es dm w1 u): ∃eH bn,VR eH bn r.v u/\tK im loc aD w r eH bn w1:=by
 refine ⟨im,loc,by rw [hr];exact Ls hno hp.vr,?_⟩
 have sC: ∀b,b<w.heap.size->w1.heap[b]? =w.heap[b]?:=fun b hb=>hp.frame b hb fun t li k h=>by cases h
 exact {
  gH:= .refl _,dV:= .refl _
  bH:=fun b o h=>by
   have h1:=hk.bH b o h;have dM:b<w.heap.size:=(NE.1 h1).1;rw [sC b dM];exact h1
  eg:=fun _ _ h=> .inl h
  os:=hp.os,tape:=hp.tape,output:=hp.output,size:=hp.size
  frame:=fun b hb _=>sC b hb
  RE:=fun t k h=>by rw [hw] at h;cases h
  wr:=fun t k li h=>by rw [hw] at h;cases h
  k9:=fun _ _ h=> .inl h
  news:=fun j k li h=>by rw [hn] at h;simp at h
  distinct:=fun i j ki kj li lj h=>by rw [hn] at h;simp at h}
theorem TS {r:nY} {v v':PV} {u:Value} {oj:cL} {Hk tk:List Nat} {Es:Im} {dm:Loc} {w1:World} (hr:r.v=v') (hn:r.news=[]) (hw:r.wr=[]) (hf:r.fr=tk)
 (hp:vE (grow im w (AD loc aD tk)) gl [] w v oj Hk Es dm w1 u) (hi:y4 oj v=amB v'): ∃eH bn,VR eH bn r.v u/\tK im loc aD w r eH bn w1:=by
 have sC: ∀b,b<w.heap.size->w1.heap[b]? =w.heap[b]?:=fun b hb=>hp.frame b hb fun t li k h=>by cases h
 let Et:Im:=fun b=>match Es b with
  |some o=>amB o
  |none=>if (AD dm oj (jc tz v)).contains b&&ae3 w.heap.size b then w1.heap[b]? else amC
 have ly:od Es Et:=fun b o h=>by simp only [Et,h]
 have Au: ∀b o,Et b=amB o->w1.heap[b]? =amB o:=by
  intro b o h;simp only [Et] at h;split at h
  · rename_i o' ho;injection h with h;subst h;exact hp.sr.bH b _ ho
  split at h
  · exact h
  cases h
 have ans: ∀t,t∈jc tz v->Over Es Et dm oj w1 t:=by
  intro t ht li hl;obtain ⟨k,gS,sD⟩:=hp.sr.dh t li hl;refine ⟨k,gS,sD,fun hs=>?_⟩
  have WQ:w.heap.size<=li.dh:=by
   rcases hp.own t li k hl gS hs with h|⟨u,lu,ku,h,_⟩
   · exact h
   cases h
  simp only [Et];split
  · rename_i o ho;exact (hp.sr.bH _ _ ho).symm
  rw [pp]
  simp only [ut,afg];exact ⟨by simpa using AE.2 ⟨t,li,k,ht,hl,gS,hs,rfl⟩,WQ⟩
 refine ⟨Et,loc,by rw [hr];exact TP ly ans hp.vr hi,?_⟩
 exact {
  gH:=(Jo im w _).trans (hp.gH.trans ly),dV:= .refl _
  bH:=Au
  eg:=fun b o h=>by
   simp only [Et] at h;split at h
   · rename_i o' ho
     injection h with h;subst h;rcases hp.eg b _ ho with h1|h1|⟨t,li,k,h1,_⟩
     · rcases TN h1 with h2|h2
       · exact .inl h2
       obtain ⟨t,li,k,ht,hl,vz,hs,hb⟩:=AE.1 h2
       exact .inr (.inr ⟨t,li,k,by rw [hf];exact pM.2 ht,hl,vz,hs,hb⟩)
     · exact .inr (.inl h1)
     cases h1
   split at h
   · rename_i hc
     simp only [ut,afg] at hc;exact .inr (.inl hc.2)
   cases h
  os:=hp.os,tape:=hp.tape,output:=hp.output,size:=hp.size
  frame:=fun b hb _=>sC b hb
  RE:=fun t k h=>by rw [hw] at h;cases h
  wr:=fun t k li h=>by rw [hw] at h;cases h
  k9:=fun _ _ h=> .inl h
  news:=fun j k li h=>by rw [hn] at h;simp at h
  distinct:=fun i j ki kj li lj h=>by rw [hn] at h;simp at h}
theorem P9 {r:nY} {v v':PV} {u:Value} {oj:cL} {Hk seen':List Nat} {im0 Es:Im} {dm:Loc} {w1:World} {news:cL} (hk:jn im loc aD w r) (hr:r.v=v') (hn:r.news=news) (hw:r.wr=[])
 (hp:vE im0 gl [] w v oj Hk Es dm w1 u) (hi:zQ oj Hk (amw aD) [] v=amB (v',news,seen')): ∃eH bn,VR eH bn r.v u/\tK im loc aD w r eH bn w1:=by
 have sC: ∀b,b<w.heap.size->w1.heap[b]? =w.heap[b]?:=fun b hb=>hp.frame b hb fun t li k h=>by cases h
 obtain ⟨Lt,ts,h1,h2⟩:=TR (fun t li hl=>hp.sr.dh t li hl) hp.vr hi
 let qZ:Loc:=fun t=>if t<(amw aD) then loc t else match Lt[t-(amw aD)]? with
  |some li=>amB li
  |none=>loc t
 have Bp: ∀(j:Nat) (li:LI),Lt[j]? =amB li->qZ (amw aD+j)=amB li:=by
  intro j li hj;simp only [qZ];rw [rc (by omega),show (amw aD)+j-(amw aD)=j by omega,hj]
 have ly:mw loc qZ:=by
  intro t li hl;simp only [qZ];split
  · exact hl
  rename_i dM
  split
  · rename_i l2 Ld
    have hj:=(Do.1 Ld).1
    have:=hk.fresh (t-(amw aD)) (by rw [hn,<- h1.Jq];exact hj)
    rw [show (amw aD)+(t-(amw aD))=t by omega,hl] at this
    cases this
  exact hl
 have hli: ∀(j:Nat) (k:jW),news[j]? =amB k-> ∃li,Lt[j]? =amB li:=by
  intro j k hj
  have:=(Do.1 hj).1
  exact ⟨_,v6 (by rw [h1.Jq];exact this)⟩
 have hts: ∀(j:Nat) (k:jW),news[j]? =amB k->k.bM=amD-> ∃t,ts[j]? =amB (amB t):=by
  intro j k hj hs;have dM:=(Do.1 hj).1;cases hg:ts[j]? with
  |none=>have:=List.getElem?_eq_none_iff.1 hg;have:=h1.K5;omega
  |some x=>
   cases x with
   |some t=>exact ⟨t,rfl⟩
   |none=>rw [h1.dum j k hj hg] at hs;cases hs
 refine ⟨im,qZ,by rw [hr];exact h2 im qZ Bp,?_⟩
 exact {
  gH:= .refl _,dV:=ly
  bH:=fun b o h=>by
   have h1:=hk.bH b o h;have dM:b<w.heap.size:=(NE.1 h1).1;rw [sC b dM];exact h1
  eg:=fun _ _ h=> .inl h
  os:=hp.os,tape:=hp.tape,output:=hp.output,size:=hp.size
  frame:=fun b hb _=>sC b hb
  RE:=fun t k h=>by rw [hw] at h;cases h
  wr:=fun t k li h=>by rw [hw] at h;cases h
  k9:=fun t li h=>by
   simp only [qZ] at h;split at h
   · exact .inl h
   rename_i dM
   split at h
   · rename_i l2 Ld
     have hj:=(Do.1 Ld).1;exact .inr ⟨by omega,by rw [hn,<- h1.Jq];omega⟩
   exact .inl h
  news:=CI fun j k hj=>by
   rw [hn] at hj;obtain ⟨li,hl⟩:=hli j k hj;obtain ⟨⟨e,rows,rfl⟩,sD⟩:=h1.br j k li hj hl;refine ⟨li,Bp j li hl,sD,fun hs=>?_⟩
   obtain ⟨t,ht⟩:=hts j _ hj hs;obtain ⟨a1,a2,a3,_,_⟩:=h1.own j _ li t hj hl ht;have WQ:w.heap.size<=li.dh:=by
    rcases hp.own t li _ a1 a2 hs with h|⟨u,lu,ku,h,_⟩
    · exact h
    cases h
   refine ⟨?_,.inl WQ⟩;cases hb:im li.dh with
   |none=>rfl
   |some o=>
    have:=(NE.1 (hk.bH _ _ hb)).1
    omega
  distinct:=fun i j ki kj li lj q8 hj' Xj RU ar2 ar3 Tp=>by
   rw [hn] at q8 hj';obtain ⟨l1,HX⟩:=hli i ki q8;obtain ⟨l2,Ld⟩:=hli j kj hj';have e1:=Bp i l1 HX;have e2:=Bp j l2 Ld;rw [ar2] at e1;rw [ar3] at e2;injection e1 with e1;injection e2 with e2;subst e1 e2;obtain ⟨t1,ht1⟩:=hts i ki q8 Xj;obtain ⟨t2,ht2⟩:=hts j kj hj' RU;obtain ⟨a1,a2,_⟩:=h1.own i ki li t1 q8 HX ht1;obtain ⟨b1,b2,_⟩:=h1.own j kj lj t2 hj' Ld ht2
   have:=hp.sr.iM t1 t2 li lj ki kj a1 b1 a2 b2 Xj RU Tp
   subst this;exact h1.inj i j t1 ht1 ht2}
theorem AF {own:Bool} {f:FuncId} {ny:List PV} {tk:List Nat} {r:nY}
 (h:(match rec (.func f ny [] []) with
  |some (.func v s1 z1)=>
   if own then match zQ s1 z1 (amw aD) [] v with
    |some (v',n2,_)=>amB {v:=v',news:=n2,rd:=tk}
    |none=>amC
   else if v.kJ then amB {v,rd:=tk}
   else match y4 s1 v with
    |some v'=>amB {v:=v',rd:=tk,fr:=tk}
    |none=>amC
  |_=>amC)=amB r):r.rd=tk:=by
 split at h
 · split at h
   · split at h
     · injection h with h;subst h;rfl
     cases h
   split at h
   · injection h with h;subst h;rfl
   split at h
   · injection h with h;subst h;rfl
   cases h
 cases h
theorem yf (E8:CR P rec) {own:Bool} {f:FuncId} {ny:List PV} {tk:List Nat} {r:nY} {us:List Value}
 (h:(match rec (.func f ny [] []) with
  |some (.func v s1 z1)=>
   if own then match zQ s1 z1 (amw aD) [] v with
    |some (v',n2,_)=>amB {v:=v',news:=n2,rd:=tk}
    |none=>amC
   else if v.kJ then amB {v,rd:=tk}
   else match y4 s1 v with
    |some v'=>amB {v:=v',rd:=tk,fr:=tk}
    |none=>amC
  |_=>amC)=amB r) (ha:fh (grow im w (AD loc aD tk)) gl ny us) (hk:jn im loc aD w r):
 uO P f ⟨us⟩ w fun u w'=> ∃eH bn,VR eH bn r.v u/\tK im loc aD w r eH bn w':=by
 cases hr:rec (.func f ny [] []) with
 |none=>rw [hr] at h;cases h
 |some o=>
  rw [hr] at h;cases o with
  |code e st=>cases h
  |func v s1 z1=>
   dsimp only at h;refine (E8 f ny [] [] v s1 z1 hr _ gl w us (SR.empty (P6 hk.bH)) ha).mono fun u w' hq=>?_
   obtain ⟨Es,dm,hp⟩:=hq;split at h
   · cases hio:zQ s1 z1 (amw aD) [] v with
     |none=>rw [hio] at h;cases h
     |some q2=>
      obtain ⟨v',n2,s2⟩:=q2;rw [hio] at h;simp only [ww] at h;subst h;exact P9 hk rfl rfl rfl hp hio
   split at h
   · rename_i hno
     simp only [ww] at h;subst h;exact RS hk rfl rfl rfl hno hp
   cases hif:y4 s1 v with
   |none=>rw [hif] at h;cases h
   |some v'=>
    rw [hif] at h;simp only [ww] at h;subst h;exact TS rfl rfl rfl rfl hp hif
theorem Ju (E8:CR P rec) (Bv:za P F) {own:Bool} {f:FuncId} {args:List PV} {fz:List Nat} {r:nY} {us:List Value}
 (h:dy F rec own f args aD fz=amB r) (ha:fh im loc args us) (hk:jn im loc aD w r):
 uO P f ⟨us⟩ w fun u w'=> ∃eH bn,VR eH bn r.v u/\tK im loc aD w r eH bn w':=by
 have ar5: ∀(rd:List Nat),(∀b o,im b=amB o->w.heap[b]? =amB o)-> ∀b o,grow im w (AD loc aD rd) b=amB o->w.heap[b]? =amB o:=fun rd h=>P6 h
 have N3: ∀(ny:List PV),CD aD (xX aD deep) args=amB ny->(∀t,t∈dE (dj aD deep) args-> ∀li,loc t=amB li-> ∃k,aD[t]? =amB k/\BR im loc w li k)->(∀b o,im b=amB o->w.heap[b]? =amB o)->
  fh (grow im w (AD loc aD (dE (dj aD deep) args))) gl ny us:=by
  intro ny hx ar6 Au;refine ye (w:=w) (Jo _ _ _) (fun t=>P7 (Jo _ _ _) deep t) (fun t ht li hl=>?_) ha hx
  obtain ⟨k,gS,sD⟩:=ar6 t ht li hl;exact ⟨k,gS,sD,fun hs=>Xh Au (AE.2 ⟨t,li,k,ht,hl,gS,hs,rfl⟩)⟩
 unfold dy at h;cases hx:CD aD (xX aD deep) args with
 |none=>rw [hx] at h;cases h
 |some ny=>
  rw [hx] at h;dsimp only at h;cases hF:F f with
  |none=>
   rw [hF] at h;dsimp only at h;have Hr:r.rd=dE (dj aD deep) args:=AF h;exact yf E8 h (N3 ny hx (fun t ht=>hk.tok t (.inl (by rw [Hr];exact ht))) hk.bH) hk
  |some en=>
   rw [hF] at h;cases en with
   |kg PW p=>
    dsimp only at h;obtain ⟨rfl,hpo⟩:=Bv.1 f PW p hF;cases TU:p ny with
    |none=>rw [TU] at h;cases h
    |some q=>
     obtain ⟨v,news⟩:=q;rw [TU] at h;dsimp only at h;cases hio:zQ news [] (amw aD) [] v with
     |none=>rw [hio] at h;cases h
     |some q2=>
      obtain ⟨v',n2,s2⟩:=q2;rw [hio] at h;simp only [PP,if_false,ww] at h;subst h;refine (hpo ny v news TU _ w us (SR.empty (ar5 _ hk.bH)) (N3 ny hx (fun t ht=>hk.tok t (.inl ht)) hk.bH)).mono fun u w' hq=>?_
      obtain ⟨Es,dm,hp⟩:=hq;exact P9 hk rfl rfl rfl hp hio
   |code x=>
    dsimp only at h;have Hr:r.rd=dE (dj aD deep) args:=AF h;exact yf E8 h (N3 ny hx (fun t ht=>hk.tok t (.inl (by rw [Hr];exact ht))) hk.bH) hk
   |Hj x=>
    dsimp only at h;have Hr:r.rd=dE (dj aD deep) args:=AF h;exact yf E8 h (N3 ny hx (fun t ht=>hk.tok t (.inl (by rw [Hr];exact ht))) hk.bH) hk
end
end Go.Vm
/- A call that works on the blocks that its arguments lead to, numbered anew: what it does to the memory. -/
namespace Go.Vm
theorem gI {α:Type} {l:List α} {i:Nat} {x:α} (h:l[i]? =amB x):i<(amw l):=(Do.1 h).1
theorem CS: ∀{l:List Nat} {t:Nat},t∈oZ l↔t∈l
 | [],t=>by simp [oZ]
 |a::r,t=>by
  rw [oZ];split
  · rename_i h
    rw [CS]
    have:=pM.1 h
    constructor
    · exact fun h=>by simp [h]
    intro h
    rcases afj.1 h with h|h
    · subst h;exact this
    exact h
  simp [CS]
theorem tP: ∀{l:List Nat},(oZ l).Nodup
 | []=>by simp [oZ]
 |a::r=>by
  rw [oZ];split
  · exact tP
  rename_i h
  rw [List.nodup_cons];exact ⟨fun hm=>h (pM.2 (CS.1 hm)),tP⟩
theorem Fc: ∀{a b:cL},we a b=amD-> ∀(i:Nat) (x:jW),a[i]? =amB x-> ∃y,b[i]? =amB y/\x.bM=y.bM
 | [],_,_,i,x,h=>by simp at h
 |c::r,d::q,hf,i,x,h=>by
  simp only [we,ut] at hf;cases i with
  |zero=>
   simp at h;subst h;refine ⟨d,rfl,?_⟩
   have:=hf.1
   split at this<;>first|(rename_i h1 h2;rw [h1,h2])|cases this
  |succ i=>simpa using Fc hf.2 i x (by simpa using h)
 |_::_,[],hf,_,_,_=>by cases hf
theorem Fe {g:Nat->Nat}: ∀{tk:List Nat} {s:cL} {t:Nat} {k:jW},(t,k)∈o5 g tk s↔ ∃(i:Nat) (b:jW),tk[i]? =amB t/\s[i]? =amB b/\k=zS g b
 | [],s,t,k=>by simp [o5]
 |a::r,[],t,k=>by simp [o5]
 |a::r,b::s,t,k=>by
  simp only [o5,afj,IR,Fe];constructor
  · rintro (⟨rfl,rfl⟩|⟨i,c,h1,h2,h3⟩)
    · exact ⟨0,b,rfl,rfl,rfl⟩
    exact ⟨i+1,c,by simpa using h1,by simpa using h2,h3⟩
  rintro ⟨i,c,h1,h2,h3⟩
  cases i with
  |zero=>simp at h1 h2;subst h1;subst h2;exact .inl ⟨rfl,h3⟩
  |succ i=>exact .inr ⟨i,c,by simpa using h1,by simpa using h2,h3⟩
theorem H3 {g:Nat->Nat}: ∀(s:cL) (i:Nat),(Bk g s)[i]? =(s[i]?).map (zS g)
 | [],i=>by simp [Bk]
 |b::r,0=>by simp [Bk]
 |b::r,i+1=>by simpa [Bk] using H3 r i
theorem Bw {g:Nat->Nat}: ∀(s:cL),(Bk g s).length=amw s
 | []=>rfl
 |b::r=>by simp [Bk,Bw r]
section
variable {P : Program} {F : m8} {rec : Task -> Option Out} {im : Im} {loc : Loc} {aD : cL} {w : World} {tk : List Nat} {g : Nat -> Nat} {l1 l2 : Loc}
mutual
theorem VR.zU: ∀{x:PV} {v:Value},VR im l1 x v->(∀u,u∈jc tz x-> ∀li,l1 u=amB li->l2 (g u)=amB li)->VR im l2 (CE g x) v
 |_,_,.undef v,_=> .undef v
 |_,_,.jA,_=> .jA
 |_,_,.int k n,_=> .int k n
 |_,_,.bool b,_=> .bool b
 |_,_,.str s,_=> .str s
 |_,_,.agg cs vs h,hg=> .agg _ vs (fh.zU h (fun u hu=>hg u (by simpa [jc] using hu)))
 |_,_,.cw cs vs h,hg=> .cw _ vs (fh.zU h (fun u hu=>hg u (by simpa [jc] using hu)))
 |_,_,.sl esz qU rows a cap hc hk h,_=> .sl esz qU rows a cap hc hk h
 |_,_,.own t esz off len cap ex li a c7 h1 h2 h3 h4 h5 h6 h7,hg=> .own _ esz off len cap ex li a c7 (hg _ (by simp [jc]) _ h1) h2 h3 h4 h5 h6 h7
 |_,_,.ptr t esz row off li h1 h2 h3,hg=> .ptr _ esz row off li (hg _ (by simp [jc]) _ h1) h2 h3
 |_,_,.bJ cs off b o vs h hv,hg=> .bJ _ off b o vs (fh.zU h (fun u hu=>hg u (by simpa [jc] using hu))) hv
 |_,_,.mp t li h,hg=> .mp _ li (hg _ (by simp [jc]) _ h)
 |_,_,.eV fn a b as bs ha hb,hg=> .eV fn _ _ as bs (fh.zU ha (fun u hu=>hg u (by simp [jc,hu]))) (fh.zU hb (fun u hu=>hg u (by simp [jc,hu])))
 |_,_,.dU,_=> .dU
theorem fh.zU: ∀{x:List PV} {v:List Value},fh im l1 x v->(∀u,u∈dE tz x-> ∀li,l1 u=amB li->l2 (g u)=amB li)->fh im l2 (xC g x) v
 |_,_,.nil,_=> .nil
 |_,_,.cons x v xs vs h hs,hg=> .cons _ v _ vs (VR.zU h (fun u hu=>hg u (by simp [dE,hu]))) (fh.zU hs (fun u hu=>hg u (by simp [dE,hu])))
end
theorem VR.CE {x:PV} {v:Value} (hg: ∀u,u∈jc tz x-> ∀li,l1 u=amB li->l2 (g u)=amB li) (h:VR im l1 x v):VR im l2 (Vm.CE g x) v:=h.zU hg
theorem fh.CE {x:List PV} {v:List Value} (hg: ∀u,u∈dE tz x-> ∀li,l1 u=amB li->l2 (g u)=amB li) (h:fh im l1 x v):fh im l2 (xC g x) v:=h.zU hg
theorem Bx: ∀(x:List PV),(xC g x).length=amw x
 | []=>rfl
 |x::xs=>by simp [xC,Bx xs]
theorem BR.CE {li:LI} {k:jW} (hg: ∀u,u∈rC k-> ∀li,l1 u=amB li->l2 (g u)=amB li) (h:BR im l1 w li k):BR im l2 w li (zS g k):=by
 cases k with
 |arr e rows=>exact h
 |box cs=>
  obtain ⟨a1,a2,a3,vs,el,a4,a5,a6⟩:=h;exact ⟨by rw [Bx];exact a1,a2,a3,vs,el,a4,a5,a6.CE hg⟩
 |map es=>exact h
 |dead=>trivial
theorem yg (k:jW):(zS g k).bM=k.bM:=by cases k<;>rfl
theorem N9 (E8:CR P rec) {f:FuncId} {args:List PV} {fz:List Nat} {r:nY} {us:List Value}
 (h:uI rec f args aD fz=amB r) (ha:fh im loc args us) (hk:jn im loc aD w r):
 uO P f ⟨us⟩ w fun u w'=> ∃eH bn,VR eH bn r.v u/\tK im loc aD w r eH bn w':=by
 unfold uI at h;have Hl:(oZ (dE (dj aD deep) args)).Nodup:=tP;generalize CP:oZ (dE (dj aD deep) args)=tk at h Hl;split at h
 · cases h
 rename_i a s0 Ff;unfold W4 at Ff;split at Ff
 case isFalse=>cases Ff
 rename_i ar7;simp only [ae4,UV] at ar7;split at Ff
 case h_2=>cases Ff
 rename_i a' s0' hra Xa;simp only [ww,IR] at Ff;obtain ⟨rfl,rfl⟩:=Ff;split at h
 case h_2=>cases h
 rename_i v s hr;unfold EU at h;split at h
 case isFalse=>cases h
 rename_i TV;injection h with h;obtain ⟨KT,Eb⟩:=CF Xa;have hf0:=Fc TV;have ly:(amw tk)<=(amw s):=by
  rcases Nat.eq_zero_or_pos (amw tk) with h0|h0
  · omega
  obtain ⟨y,hy,_⟩:=hf0 (amw tk-1) (s0'[amw tk-1]'(by omega)) (v6 _)
  have:=gI hy;omega
 let Oa:Loc:=fun u=>match tk[u]? with|some t=>loc t|none=>amC
 have Fg:Ren tk loc Oa:=fun u t hu=>by simp only [Oa,hu]
 have hC: ∀u li,Oa u=amB li-> ∃t,tk[u]? =amB t/\loc t=amB li:=by
  intro u li hl;simp only [Oa] at hl;split at hl
  · rename_i t ht;exact ⟨t,ht,hl⟩
  cases hl
 have TW: ∀t k,(t,k)∈r.wr↔ ∃(i:Nat) (b:jW),tk[i]? =amB t/\s[i]? =amB b/\k=zS (kq tk (amw aD)) b:=fun t k=>by rw [<- h];exact Fe
 have aga: ∀u t,tk[u]? =amB t->(t∈r.rd\/ ∃b,(t,b)∈r.wr):=fun u t ht=>by
  have:=gI ht
  exact .inr ⟨_,(TW t _).2 ⟨u,_,ht,v6 (by omega),rfl⟩⟩
 have uN: ∀(u t:Nat) (k:jW),tk[u]? =amB t->s0'[u]? =amB k-> ∃k0:jW,aD[t]? =amB k0/\k.bM=k0.bM:=fun u t k ht hs=>by
  obtain ⟨k0,k',g1,g2,g3⟩:=Eb u t ht;rw [hs] at g3;injection g3 with g3;subst g3;exact ⟨k0,g1,Bm g2⟩
 have hSR:SR im Oa s0' [] w:={
  bH:=hk.bH
  dh:=fun u li hl=>by
   obtain ⟨t,h1,h2⟩:=hC u li hl;obtain ⟨k,gS,sD⟩:=hk.tok t (aga u t h1) li h2;obtain ⟨k0,k',g1,g2,g3⟩:=Eb u t h1;rw [gS] at g1;injection g1 with g1;subst g1;exact ⟨k',g3,HV Fg g2 sD⟩
  iM:=fun t u li lj k k' hl mC hs vA Ec ar9 hb=>by
   obtain ⟨a1,h1,h2⟩:=hC t li hl;obtain ⟨a2,h3,h4⟩:=hC u lj mC;obtain ⟨k0,g1,g2⟩:=uN t a1 k h1 hs;obtain ⟨k0',g1',g2'⟩:=uN u a2 k' h3 vA
   have:=hk.iM a1 a2 li lj k0 k0' (aga t a1 h1) (aga u a2 h3) h2 h4 g1 g1' (by rw [<- g2];exact Ec) (by rw [<- g2'];exact ar9) hb
   subst this;have pw:=afN.1 Hl;obtain ⟨l1,e1⟩:=Do.1 h1;obtain ⟨l2,e2⟩:=Do.1 h3;rcases WF t u with h|h|h
   · exact absurd (e1.trans e2.symm) (pw t u l1 l2 h)
   · exact h
   exact absurd (e2.trans e1.symm) (pw u t l2 l1 h)
  free:=fun t li k hl hs Ec _=>by
   obtain ⟨a1,h1,h2⟩:=hC t li hl;obtain ⟨k0,g1,g2⟩:=uN t a1 k h1 hs;have dM:=gI h1;exact hk.free a1 _ ((TW a1 _).2 ⟨t,_,h1,v6 (by omega),rfl⟩) li k0 h2 g1 (by rw [<- g2];exact Ec)}
 refine (E8 f a' s0' [] v s [] hr im Oa w us hSR (tJ Fg ha hra)).mono fun u w' ⟨eH,Lu,hf⟩=>?_
 let bn:Loc:=fun t=>match loc t with
  |some li=>amB li
  |none=>if (amw aD)<=t/\t-(amw aD)<(amw r.news) then Lu (t-(amw aD)+amw tk) else amC
 have anz:mw loc bn:=fun t li hl=>by simp only [bn,hl]
 have Ht:(ig (amw tk) v s=amD/\r.news=[])\/(ig (amw tk) v s=amE/\r.news=Bk (kq tk (amw aD)) (s.drop (amw tk))):=by
  rw [<- h];cases RP:ig (amw tk) v s with
  |true=>exact .inl ⟨rfl,by simp⟩
  |false=>exact .inr ⟨rfl,by simp⟩
 have anA:ig (amw tk) v s=amE->amw r.news=amw s-(amw tk):=fun h1=>by
  rcases Ht with ⟨h2,_⟩|⟨_,h2⟩
  · rw [h1] at h2;cases h2
  rw [h2];simp [Bw]
 have ar': ∀u li,Lu u=amB li->u<(amw s):=fun u li hl=>let ⟨k,gS,_⟩:=hf.sr.dh u li hl;gI gS
 have TX: ∀j li,bn (amw aD+j)=amB li->j<amw r.news->Lu (amw tk+j)=amB li:=fun j li hl hj=>by
  simp only [bn,hk.fresh j hj] at hl;rw [pp ⟨by omega,by omega⟩] at hl
  rw [show (amw aD)+j-(amw aD)+amw tk=amw tk+j by omega] at hl
  exact hl
 have hg: ∀u,(u<amw tk\/ig (amw tk) v s=amE)-> ∀li,Lu u=amB li->bn (kq tk (amw aD) u)=amB li:=by
  intro u Xk li hl;unfold kq;split
  · rename_i t ht
    rcases hf.nR u li hl with h1|h1
    · obtain ⟨t',h2,h3⟩:=hC u li h1
      rw [ht] at h2;injection h2 with h2;subst h2;exact anz _ _ h3
    have:=gI ht;omega
  rename_i hn
  have hu:(amw tk)<=u:=by simpa using hn
  rcases Xk with Xk|Xk
  · omega
  have dM:=ar' u li hl;have Ht:=anA Xk;simp only [bn,hk.fresh (u-(amw tk)) (by omega)]
  rw [pp ⟨by omega,by omega⟩,show (amw aD)+(u-(amw tk)) -(amw aD)+amw tk=u by omega]
  exact hl
 have RP: ∀u,ig (amw tk) v s=amD->(u∈jc tz v\/ ∃i b,i<amw tk/\s[i]? =amB b/\u∈rC b)->u<(amw tk):=fun u h1 h2=>by
  unfold ig at h1;have h3:=ae4.1 h1 u (by
   rcases h2 with h2|⟨i,b,g1,g2,g3⟩
   · simp [h2]
   refine adm.2 (.inr (List.mem_flatMap.2 ⟨b,?_,g3⟩))
   exact List.mem_of_getElem? (i:=i) (by rw [List.getElem?_take];simp [g1,g2]))
  simpa using h3
 have hgv: ∀u,u∈jc tz v-> ∀li,Lu u=amB li->bn (kq tk (amw aD) u)=amB li:=fun u hu=>hg u (by
  cases hq:ig (amw tk) v s with
  |true=>exact .inl (RP u hq (.inl hu))
  |false=>exact .inr rfl)
 have hgb: ∀i b,i<amw tk->s[i]? =amB b-> ∀u,u∈rC b-> ∀li,Lu u=amB li->bn (kq tk (amw aD) u)=amB li:=fun i b hi hb u hu=>hg u (by
  cases hq:ig (amw tk) v s with
  |true=>exact .inl (RP u hq (.inr ⟨i,b,hi,hb,hu⟩))
  |false=>exact .inr rfl)
 have hMC: ∀u t li,tk[u]? =amB t->loc t=amB li->Lu u=amB li:=fun u t li ht hl=>hf.dV u li (by simp only [Oa,ht];exact hl)
 refine ⟨eH,bn,by rw [<- h];exact hf.vr.CE hgv,?_⟩
 have TY: ∀(j:Nat) (k:jW),r.news[j]? =amB k-> ∃b,s[amw tk+j]? =amB b/\k=zS (kq tk (amw aD)) b:=fun j k hj=>by
  rcases Ht with ⟨_,h0⟩|⟨_,h0⟩
  · rw [h0] at hj;simp at hj
  rw [h0] at hj;simp only [H3,List.getElem?_drop,F0s] at hj;obtain ⟨b,h1,h2⟩:=hj;exact ⟨b,h1,h2.symm⟩
 have Xl: ∀t li,Lu t=amB li->amw tk<=t-> ∀k,s[t]? =amB k->k.bM=amD->w.heap.size<=li.dh:=by
  intro t li hl ht k hs Ec;rcases hf.own t li k hl hs Ec with h1|⟨u,lu,ku,h1,h2,h3,h4⟩
  · exact h1
  exfalso
  obtain ⟨a1,g1,g2⟩:=hC u lu h1;obtain ⟨y,y1,y2⟩:=hf0 u ku h2
  have:=hf.sr.iM u t lu li y k (hMC u a1 lu g1 g2) hl y1 hs (by rw [<- y2];exact h3) Ec h4
  subst this
  have:=gI g1;omega
 exact {
  gH:=hf.gH,dV:=anz
  bH:=hf.sr.bH
  eg:=fun b o hb=>by
   rcases hf.eg b o hb with h1|h1|⟨t,li,k,h1,h2,h3,h4⟩
   · exact .inl h1
   · exact .inr (.inl h1)
   exfalso
   obtain ⟨a1,g1,g2⟩:=hC t li h1;obtain ⟨y,y1,y2⟩:=hf0 t k h2
   have:=hf.sr.free t li y (hMC t a1 li g1 g2) y1 (by rw [<- y2];exact h3) rfl
   rw [h4,hb] at this;cases this
  os:=hf.os,tape:=hf.tape,output:=hf.output,size:=hf.size
  frame:=fun b hb hh=>hf.frame b hb fun t li k hl hs Ec=>by
   obtain ⟨a1,g1,g2⟩:=hC t li hl;obtain ⟨k0,e1,e2⟩:=uN t a1 k g1 hs;have dM:=gI g1;exact hh a1 _ li k0 ((TW a1 _).2 ⟨t,_,g1,v6 (by omega),rfl⟩) g2 e1 (by rw [<- e2];exact Ec)
  RE:=fun t k hm Ec=>by
   obtain ⟨i,b,g1,g2,rfl⟩:=(TW t k).1 hm;rw [yg] at Ec;have dM:=gI g1;have e:=v6 (l:=s0') (i:=i) (by omega)
   obtain ⟨y,y1,y2⟩:=hf0 i _ e;rw [g2] at y1;injection y1 with y1;subst y1;obtain ⟨k0,e1,e2⟩:=uN i t _ g1 e;exact ⟨k0,e1,by rw [<- e2,y2];exact Ec⟩
  wr:=fun t k li hm hl=>by
   obtain ⟨i,b,g1,g2,rfl⟩:=(TW t k).1 hm;obtain ⟨k',gS,sD⟩:=hf.sr.dh i li (hMC i t li g1 hl);rw [g2] at gS;injection gS with gS;subst gS;exact sD.CE (hgb i b (gI g1) g2)
  k9:=fun t li hl=>by
   simp only [bn] at hl;cases KT:loc t with
   |some lj=>rw [KT] at hl;exact .inl hl
   |none=>
    rw [KT] at hl;dsimp only at hl;split at hl
    · rename_i hn
      exact .inr ⟨hn.1,by omega⟩
    cases hl
  news:=fun j k li hj hl=>by
   have N0:j<(amw r.news):=gI hj;obtain ⟨b,hb,rfl⟩:=TY j k hj;have KT:=TX j li hl N0;obtain ⟨k',gS,sD⟩:=hf.sr.dh _ li KT;rw [hb] at gS;injection gS with gS;subst gS;have hq:ig (amw tk) v s=amE:=by
    rcases Ht with ⟨_,h0⟩|⟨h0,_⟩
    · rw [h0] at N0;simp at N0
    exact h0
   refine ⟨sD.CE (fun u _=>hg u (.inr hq)),fun Ec=>?_⟩
   rw [yg] at Ec;exact ⟨hf.sr.free _ li b KT hb Ec rfl,.inl (Xl _ li KT (by omega) b hb Ec)⟩
  distinct:=fun i j ki kj li lj hi hj Xj RU hli hlj hb=>by
   obtain ⟨b1,e1,rfl⟩:=TY i ki hi;obtain ⟨b2,e2,rfl⟩:=TY j kj hj;rw [yg] at Xj RU;have h1:=TX i li hli (gI hi);have h2:=TX j lj hlj (gI hj)
   have:=hf.sr.iM _ _ li lj b1 b2 h1 h2 e1 e2 Xj RU hb
   omega}
end
end Go.Vm
/- A region's run in the order of the text, step by step; what a block holds when amB of its operations are done. -/
namespace Go.Vm
structure yh (F:m8) (rec:Task->Option Out) (ops:List bU) (S:Nat->St) (X:Nat->Option XR):Prop where
 steps: ∀(i:Nat) (o:bU),ops[i]? =amB o->
  (wanted o.guard (S i).env=amB amD/\ ∃x,xD F rec (S i).env (S i).aD (S i).fz o.op=amB x/\x.ok (S i).fz=amD/\X i=amB x/\S (i+1)=x.next o.dst (S i))\/
  (wanted o.guard (S i).env=amB amE/\X i=amC/\S (i+1)={S i with env:=iL o.dst .jA (S i).env})
def zN (x:Option XR) (s:St):Tr:=
 match x with
 |some x=>x.tr (amw s.aD)
 |none=>Tr.idle
def zV (S:Nat->St) (X:Nat->Option XR) (n:Nat):List Tr:=(List.range n).map fun i=>zN (X i) (S i)
theorem Ob (S:Nat->St) (X:Nat->Option XR) (n:Nat):zV S X (n+1)=zN (X 0) (S 0)::zV (fun i=>S (i+1)) (fun i=>X (i+1)) n:=by
 unfold zV;rw [List.range_succ_eq_map];simp [List.map_map,Function.comp_def]
theorem CT {F:m8} {rec:Task->Option Out}: ∀(ops:List bU) (st:St) (tr:List Tr) (kU:St) (RW:List Tr),mD F rec ops st tr=amB (kU,RW)->
 ∃S X,S 0=st/\S (amw ops)=kU/\yh F rec ops S X/\RW=(zV S X (amw ops)).reverse++tr
 | [],st,tr,kU,RW,h=>by
  simp only [mD,ww,IR] at h;obtain ⟨rfl,rfl⟩:=h;exact ⟨fun _=>st,fun _=>amC,rfl,rfl,⟨fun i o h=>by simp at h⟩,by simp [zV]⟩
 |o::l,st,tr,kU,RW,h=>by
  simp only [mD] at h;have mk: ∀(s1:St) (x:Option XR) (t1:Tr),zN x st=t1->mD F rec l s1 (t1::tr)=amB (kU,RW)->
   ((wanted o.guard st.env=amB amD/\ ∃y,xD F rec st.env st.aD st.fz o.op=amB y/\y.ok st.fz=amD/\x=amB y/\s1=y.next o.dst st)\/
    (wanted o.guard st.env=amB amE/\x=amC/\s1={st with env:=iL o.dst .jA st.env}))->
   ∃S X,S 0=st/\S (o::l).length=kU/\yh F rec (o::l) S X/\RW=(zV S X (o::l).length).reverse++tr:=by
   intro s1 x t1 ht he hs;obtain ⟨S,X,h0,hn,cy,htr⟩:=CT l s1 (t1::tr) kU RW he;refine ⟨fun i=>match i with|0=>st|i+1=>S i,fun i=>match i with|0=>x|i+1=>X i,rfl,hn,⟨fun i o' ho=>?_⟩,?_⟩
   · cases i with
     |zero=>
      simp at ho;subst ho;rcases hs with ⟨a,y,b,c,d,e⟩|⟨a,b,c⟩
      · exact .inl ⟨a,y,b,c,d,by rw [<- e];exact h0⟩
      exact .inr ⟨a,b,by rw [<- c];exact h0⟩
     |succ i=>exact cy.steps i o' (by simpa using ho)
   rw [List.length_cons,Ob,htr]
   simp [ht]
  cases hw:wanted o.guard st.env with
  |none=>rw [hw] at h;cases h
  |some b=>
   rw [hw] at h;cases b with
   |false=>exact mk _ amC _ rfl h (.inr ⟨hw,rfl,rfl⟩)
   |true=>
    dsimp only at h;cases hx:xD F rec st.env st.aD st.fz o.op with
    |none=>rw [hx] at h;cases h
    |some x=>
     rw [hx] at h;dsimp only at h;split at h
     · rename_i Au
       exact mk _ (amB x) _ rfl h (.inl ⟨hw,x,hx,Au,rfl,rfl⟩)
     cases h
theorem fK: ∀(wr:List (Nat×jW)) (s:cL),(gg wr s).length=amw s
 | [],s=>rfl
 |(t,b)::r,s=>by rw [gg,fK r];simp
theorem uP: ∀(wr:List (Nat×jW)) (s:cL) (t:Nat),(∀k,(t,k)∉wr)->(gg wr s)[t]? =s[t]?
 | [],s,t,_=>rfl
 |(u,b)::r,s,t,h=>by
  rw [gg,uP r _ t (fun k hk=>h k (by simp [hk]))]
  have:u≠t:=fun e=>h b (by rw [e];simp)
  rw [agB this]
theorem Fh: ∀(wr:List (Nat×jW)) (s:cL),wg wr=amD-> ∀{t:Nat} {k:jW},(t,k)∈wr->t<amw s->(gg wr s)[t]? =amB k
 |(u,b)::r,s,hn,t,k,hm,dM=>by
  simp only [wg,ut,ae4,UV] at hn;rw [gg];rcases afj.1 hm with h|h
  · injection h with h1 h2
    subst h1 h2;rw [uP r _ t fun k' hk=>by simpa using hn.1 (t,k') hk]
    simp [dM]
  exact Fh r _ hn.2 h (by simpa using dM)
section
variable {F : m8} {rec : Task -> Option Out} {ops : List bU} {S : Nat -> St} {X : Nat -> Option XR}
def W (X:Nat->Option XR) (i t:Nat):Prop:=
 match X i with
 |some (.loc r)=> ∃k,(t,k)∈r.wr
 |some (.shr ..)=>True
 |none=>False
def FR (X:Nat->Option XR) (i t:Nat):Prop:=
 match X i with
 |some (.loc r)=>t∈r.fr
 |some (.shr _ _ z)=>t∈z
 |none=>False
def By (S:Nat->St) (X:Nat->Option XR) (n:Nat) (done:Nat->Prop) (t:Nat) (k:jW):Prop:=
 ∃m,m<=n/\(∀i,i<n->W X i t->(done i↔i<m))/\(∀c,c<n->(S c).aD.length<=t->t<(S (c+1)).aD.length->c<m)/\(S m).aD[t]? =amB k
theorem P' {e:Env} {aD:cL} {fz:List Nat} {op:k7} {v:PV} {s:cL} {z:List Nat} (h:xD F rec e aD fz op=amB (.shr v s z)):(amw aD)<=amw s/\ ∀t,t∈fz->t∈z:=by
 have key: ∀{f:FuncId} {args:List PV},fV rec f args aD fz=amB (.shr v s z)->amw aD<=amw s/\ ∀t,t∈fz->t∈z:=by
  intro f args h;unfold fV at h;split at h
  · split at h
    · rename_i hc
      simp only [ut,afg,ae4] at hc;simp only [ww,XR.shr.injEq] at h;obtain ⟨rfl,rfl,rfl⟩:=h;exact ⟨hc.1,fun t ht=>pM.1 (hc.2 t ht)⟩
    cases h
  cases h
 cases op with
 |call m f args=>
  cases m with
  |WM=>simp [xD] at h
  |own=>simp [xD] at h
  |shr=>exact key h
  |fp=>simp [xD] at h
 |xB x args=>
  simp only [xD] at h;split at h
  · split at h
    · exact key h
    simp at h
  cases h
 |_=>simp [xD] at h
theorem yh.agb (hr:yh F rec ops S X) {i:Nat} (hi:i<amw ops):(S i).aD.length<=(S (i+1)).aD.length:=by
 rcases hr.steps i _ (v6 hi) with ⟨_,x,hx,_,_,hn⟩|⟨_,_,hn⟩
 · rw [hn]
   cases x with
   |loc r=>simp [XR.next,rF,fK]
   |shr v s z=>exact (P' hx).1
 rw [hn];exact If _
theorem yh.ik (hr : yh F rec ops S X) {i j : Nat} (lq : i <= j) (hj : j <= (amw ops)) : (S i).aD.length <= (S j).aD.length := by
  induction j with
  | zero => have : i = 0 := by omega
            subst this; exact If _
  | succ j ih =>
    rcases ae8 lq with h | h
    · subst h; exact If _
    exact adc (ih (by omega) (by omega)) (hr.agb (by omega))
theorem yh.same (hr:yh F rec ops S X) {i t:Nat} (hi:i<amw ops) (hw: ¬W X i t) (ht:t<(S i).aD.length):(S (i+1)).aD[t]? =(S i).aD[t]?:=by
 rcases hr.steps i _ (v6 hi) with ⟨_,x,hx,_,hX,hn⟩|⟨_,_,hn⟩
 · rw [hn]
   cases x with
   |loc r=>
    simp only [XR.next,rF]
    rw [EQ (by rw [fK];exact ht)]
    exact uP _ _ _ fun k hk=>hw (by unfold W;rw [hX];exact ⟨k,hk⟩)
   |shr v s z=>exact absurd (by unfold W;rw [hX];trivial) hw
 rw [hn]
theorem yh.zb (hr : yh F rec ops S X) {m m' t : Nat} (hm : m <= m') (CU : m' <= (amw ops)) (hw : ∀ i, m <= i -> i < m' -> ¬ W X i t) (ht : t < (S m).aD.length) : (S m').aD[t]? = (S m).aD[t]? := by
  induction m' with
  | zero => have : m = 0 := by omega
            subst this; rfl
  | succ j ih =>
    rcases ae8 hm with h | h
    · subst h; rfl
    rw [hr.same (by omega) (hw j (by omega) (by omega)) (afb ht (hr.ik (by omega) (by omega)))]
    exact ih (by omega) (by omega) fun i h1 h2 => hw i h1 (by omega)
theorem cO {α:Type} {l:List α} {i:Nat} {x:α} (h:l[i]? =amB x):i<(amw l):=(Do.1 h).1
theorem By.unique (hr:yh F rec ops S X) {done:Nat->Prop} {t:Nat} {k k':jW} (h:By S X (amw ops) done t k) (h':By S X (amw ops) done t k'):k=k':=by
 obtain ⟨m,hm,hw,hc,hs⟩:=h;obtain ⟨m',CU,WV,CL,vA⟩:=h';rcases am0 m m' with h|h
 · have:=hr.zb h CU (fun i h1 h2 hW=>by
    have a:=hw i (by omega) hW
    have b:=WV i (by omega) hW
    have:=a.1 (b.2 h2);omega) (cO hs)
   rw [hs,vA] at this;exact (agp this).symm
 have:=hr.zb h hm (fun i h1 h2 hW=>by
  have a:=hw i (by omega) hW
  have b:=WV i (by omega) hW
  have:=b.1 (a.2 h2);omega) (cO vA)
 rw [hs,vA] at this;exact agp this
theorem yh.TZ (hr:yh F rec ops S X) {i t:Nat} (hi:i<amw ops) (hd:(ops[i]).dst≠amB t):lk t (S (i+1)).env=lk t (S i).env:=by
 have key: ∀(d:Option Nat) (v:PV) (e:Env),d≠amB t->lk t (iL d v e)=lk t e:=by
  intro d v e h;cases d with
  |none=>rfl
  |some s=>
   simp only [iL];rw [rH,rc (fun e=>h (by rw [e]))]
 rcases hr.steps i _ (v6 hi) with ⟨_,x,hx,_,hX,hn⟩|⟨_,_,hn⟩
 · rw [hn]
   cases x with
   |loc r=>exact key _ _ _ hd
   |shr v s z=>exact key _ _ _ hd
 rw [hn];exact key _ _ _ hd
theorem yh.Od (hr : yh F rec ops S X) {m m' t : Nat} (hm : m <= m') (CU : m' <= (amw ops)) (hd : ∀ i (hi : i < (amw ops)), m <= i -> i < m' -> (ops[i]).dst ≠ amB t) : lk t (S m').env = lk t (S m).env := by
  induction m' with
  | zero => have : m = 0 := by omega
            subst this; rfl
  | succ j ih =>
    rcases ae8 hm with h | h
    · subst h; rfl
    rw [hr.TZ (by omega) (hd j (by omega) (by omega) (by omega))]
    exact ih (by omega) (by omega) fun i hi h1 h2 => hd i hi h1 (by omega)
end
end Go.Vm
/- A region: what holds while amB of its operations are done, and that one more keeps it. -/
namespace Go.Vm
def aA (x:bU):List Nat:=(x.op.fA.filterMap fun| .t n=>amB n| .c _=>amC)++(match x.guard with|some (s,_)=>[s]|none=>[])
def vG (ops:Array Oper):Option (Nat×Bool)->Option (Nat×Bool)->Bool
 |none,amC=>amD
 |some (s,b),amB (j,c)=>b==c&&((ops[j]?).bind (·.dst))==amB s
 |_,_=>amE
def rJ (P:Program) (prims:FuncId->Bool) (nt:Nat) (ops:Array Oper) (x:bU) (o:Oper):Bool:=
 x.dst==o.dst&&(match x.dst with|some d=>afx d nt|none=>amD)&&vG ops x.guard o.guard&&xF P prims o.type x.op o.op
def rB (X:Nat->Option XR) (i:Nat):Prop:= ∃v s z,X i=amB (.shr v s z)
def gT (X:Nat->Option XR) (i:Nat):Prop:=
 match X i with
 |some (.loc r)=>r.rd≠[]\/r.fr≠[]\/r.wr≠[]\/r.news≠[]
 |some (.shr ..)=>True
 |none=>False
def A (X:Nat->Option XR) (i t:Nat):Prop:=
 match X i with
 |some (.loc r)=>t∈r.rd\/t∈r.fr
 |_=>False
structure Ord (ops:List bU) (S:Nat->St) (X:Nat->Option XR) (xR:Nat->Nat->Prop):Prop where
 Fi: ∀(i j t:Nat) (x y:bU),i<j->ops[i]? =amB x->ops[j]? =amB y->x.dst=amB t->(t∈aA y\/y.dst=amB t)->xR i j
 T0: ∀(i j t:Nat) (x y:bU),i<j->ops[i]? =amB x->ops[j]? =amB y->y.dst=amB t->t∈aA x->xR i j
 Oe: ∀i j t,i<j->j<amw ops->W X i t->(A X j t\/W X j t)->xR i j
 agc: ∀i j t,i<j->j<amw ops->A X i t->W X j t->xR i j
 age: ∀i j t,i<j->j<amw ops-> ¬rB X i->(S i).aD.length<=t->t<(S (i+1)).aD.length-> ¬rB X j->W X j t->xR i j
 K3: ∀i j,i<j->j<amw ops->(rB X i/\gT X j\/gT X i/\rB X j)->xR i j
 cl: ∀i t,i<amw ops-> ¬rB X i->(A X i t\/W X i t)->t<(S i).aD.length\/ ∀c,i<c->c<amw ops->xR i c
structure Inv (ops:List bU) (S:Nat->St) (X:Nat->Option XR) (im0:Im) (loc0:Loc) (w0:World) (nt:Nat) (done:Nat->Prop) (im:Im) (loc:Loc) (a:Act) (w:World):Prop where
 tm: ∀t,∃m,m<=amw ops/\(∀i x,ops[i]? =amB x->x.dst=amB t->(done i↔i<m))/\VR im loc (lk t (S m).env) (a.tmps.getD t Go.undef)
 bH: ∀b o,im b=amB o->w.heap[b]? =amB o
 tok: ∀t li,loc t=amB li-> ∃k,By S X (amw ops) done t k/\BR im loc w li k
 iM: ∀t u li lj k k',loc t=amB li->loc u=amB lj->By S X (amw ops) done t k->By S X (amw ops) done u k'->k.bM=amD->k'.bM=amD->li.dh=lj.dh->t=u
 free: ∀t li k,loc t=amB li->By S X (amw ops) done t k->k.bM=amD->t∉(S 0).fz->(∀i,i<amw ops->done i-> ¬FR X i t)->im li.dh=amC
 fresh: ∀i,i<amw ops-> ¬done i-> ∀t,(S i).aD.length<=t->t<(S (i+1)).aD.length->loc t=amC
 gH:od im0 im
 dV:mw loc0 loc
 os:w.os=w0.os
 tape:w.tape=w0.tape
 output:w.output=w0.output
 size:w0.heap.size<=w.heap.size
 frame: ∀b,b<w0.heap.size->(∀t li k,loc0 t=amB li->(S 0).aD[t]? =amB k->k.bM=amD->li.dh≠b)->w.heap[b]? =w0.heap[b]?
 eg: ∀b o,im b=amB o->im0 b=amB o\/w0.heap.size<=b\/ ∃t li k,loc0 t=amB li/\(S 0).aD[t]? =amB k/\k.bM=amD/\li.dh=b
 nR: ∀t li,loc t=amB li->loc0 t=amB li\/(S 0).aD.length<=t
 own: ∀t li k,loc t=amB li->By S X (amw ops) done t k->k.bM=amD->(w0.heap.size<=li.dh\/ ∃u lu ku,loc0 u=amB lu/\(S 0).aD[u]? =amB ku/\ku.bM=amD/\lu.dh=li.dh)
 defers:a.defers=[]
 NP:a.tmps.size=nt
def plus (done:Nat->Prop) (i:Nat):Nat->Prop:=fun j=>done j\/j=i
section
variable {F : m8} {rec : Task -> Option Out} {ops : List bU} {S : Nat -> St} {X : Nat -> Option XR} {xR : Nat -> Nat -> Prop} {im0 : Im} {loc0 : Loc} {w0 : World} {nt : Nat}
  {done : Nat -> Prop} {im : Im} {loc : Loc} {a : Act} {w : World} {i : Nat}
structure Place (ops:List bU) (xR:Nat->Nat->Prop) (done:Nat->Prop) (i:Nat):Prop where
 lt:i<amw ops
 nd: ¬done i
 pre: ∀j,j<amw ops->xR j i->done j
 eV: ∀k,k<amw ops->done k-> ∀j,j<amw ops->xR j k->done j
theorem Place.yi (hp:Place ops xR done i) {k:Nat} (hk:k<amw ops) (h:xR i k): ¬done k:=fun hd=>hp.nd (hp.eV k hk hd i hp.lt h)
theorem Inv.slot (hr:yh F rec ops S X) (ho:Ord ops S X xR) (hv:Inv ops S X im0 loc0 w0 nt done im loc a w) (hp:Place ops xR done i) {x:bU} (hx:ops[i]? =amB x) {t:Nat} (ht:t∈aA x):
 VR im loc (lk t (S i).env) (a.tmps.getD t Go.undef):=by
 obtain ⟨m,hm,hd,oV⟩:=hv.tm t;have hwr: ∀j y,ops[j]? =amB y->y.dst=amB t->(done j↔j<i):=by
  intro j y hy Qa;rcases WF j i with h|h|h
  · exact ⟨fun _=>h,fun _=>hp.pre j (cO hy) (ho.Fi j i t y x h hy hx Qa (.inl ht))⟩
  · subst h;exact ⟨fun hd=>absurd hd hp.nd,fun h=>by omega⟩
  exact ⟨fun Lv=>absurd Lv (hp.yi (cO hy) (ho.T0 i j t x y h hx hy Qa ht)),fun h'=>by omega⟩
 have same:lk t (S i).env=lk t (S m).env:=by
  rcases am0 m i with h|h
  · refine hr.Od h (afJ hp.lt) fun j hj h1 h2 tC=>?_
    have a1:=hd j _ (v6 hj) tC;have a2:=hwr j _ (v6 hj) tC
    have:=a1.1 (a2.2 h2);omega
  refine (hr.Od h hm fun j hj h1 h2 tC=>?_).symm
  have a1:=hd j _ (v6 hj) tC;have a2:=hwr j _ (v6 hj) tC
  have:=a2.1 (a1.2 h2);omega
 rw [same];exact oV
theorem Inv.cur (hr:yh F rec ops S X) (ho:Ord ops S X xR) (hv:Inv ops S X im0 loc0 w0 nt done im loc a w) (hp:Place ops xR done i) {t:Nat} {li:LI} (hl:loc t=amB li)
 (ht:(A X i t\/W X i t)) {k:jW} (hc:By S X (amw ops) done t k):(S i).aD[t]? =amB k:=by
 obtain ⟨m,hm,hw,hcr,hs⟩:=hc;have cY:t<(S i).aD.length:=by
  rcases acl t (S i).aD.length with h|h
  · exact h
  exfalso
  have hmi:i<m:=by
   rcases acl i m with h'|h'
   · exact h'
   have:=hr.ik h' (afJ hp.lt);have:=cO hs;omega
  have: ∃c,i<=c/\c<m/\(S c).aD.length<=t/\t<(S (c+1)).aD.length:=by
   have hex: ∀d,i+d<=m->t<(S (i+d)).aD.length-> ∃c,i<=c/\c<i+d/\(S c).aD.length<=t/\t<(S (c+1)).aD.length:=by
    intro d
    induction d with
    |zero=>intro _ h2;exact absurd h2 (by simpa using h)
    |succ d ih=>
     intro h1 h2;rcases acl t (S (i+d)).aD.length with h3|h3
     · obtain ⟨c,c1,c2,c3,c4⟩:=ih (by omega) h3
       exact ⟨c,c1,by omega,c3,c4⟩
     exact ⟨i+d,by omega,by omega,h3,h2⟩
   obtain ⟨c,c1,c2,c3,c4⟩:=hex (m-i) (by omega) (by rw [show i+(m-i)=m by omega];exact cO hs)
   exact ⟨c,c1,by omega,c3,c4⟩
  obtain ⟨c,c1,c2,c3,c4⟩:=this;have hcn:c<(amw ops):=by omega
  have asc: ¬done c:=by
   intro hdc;rcases ae8 c1 with e|e
   · subst e;exact hp.nd hdc
   by_cases hsh:rB X i
   · refine hp.yi hcn (ho.K3 i c e hcn (.inl ⟨hsh,?_⟩)) hdc
     rcases hr.steps c _ (v6 hcn) with ⟨_,x,hx,_,hX,hn⟩|⟨_,_,hn⟩
     · unfold gT;rw [hX]
       cases x with
       |loc r=>
        refine .inr (.inr (.inr fun Hw=>?_))
        rw [hn] at c4;simp [XR.next,rF,fK,Hw] at c4
        omega
       |shr v s z=>trivial
     rw [hn] at c4;simp at c4;omega
   rcases ho.cl i t hp.lt hsh ht with h'|h'
   · omega
   exact hp.yi hcn (h' c e hcn) hdc
  have:=hv.fresh c hcn asc t c3 c4
  rw [hl] at this;cases this
 have hwr: ∀j,j<amw ops->W X j t->(done j↔j<i):=by
  intro j hj hW;rcases WF j i with h|h|h
  · exact ⟨fun _=>h,fun _=>hp.pre j hj (ho.Oe j i t h hp.lt hW ht)⟩
  · subst h;exact ⟨fun hd=>absurd hd hp.nd,fun h=>by omega⟩
  refine ⟨fun Lv=>absurd Lv (hp.yi hj ?_),fun h'=>by omega⟩
  rcases ht with ht|ht
  · exact ho.agc i j t h hj ht hW
  exact ho.Oe i j t h hj ht (.inr hW)
 rcases am0 m i with h|h
 · rw [hr.zb h (afJ hp.lt) (fun j h1 h2 hW=>by
    have a1:=hw j (by have:=hp.lt;omega) hW
    have a2:=hwr j (by have:=hp.lt;omega) hW
    have:=a1.1 (a2.2 h2);omega) (cO hs)]
   exact hs
 rw [<- hr.zb h hm (fun j h1 h2 hW=>by
  have a1:=hw j (by omega) hW
  have a2:=hwr j (by omega) hW
  have:=a2.1 (a1.2 h2);omega) cY]
 exact hs
end
end Go.Vm
/- A region: one more operation keeps what holds. -/
namespace Go.Vm
theorem BR.anB {im eH:Im} {loc bn:Loc} {w w':World} {li:LI} {k:jW} (h:BR im loc w li k) (hi:od im eH) (hl:mw loc bn)
 (hw:k.bM=amD->w'.heap[li.dh]? =w.heap[li.dh]?):BR eH bn w' li k:=by
 cases hs:k.bM with
 |true=>exact h.mono hi hl (hw hs)
 |false=>
  cases k with
  |arr e rows=>
   cases rows with
   |nil=>exact ⟨h.1,h.2.1,fun ec=>absurd rfl ec⟩
   |cons _ _=>cases hs
  |box _=>cases hs
  |map _=>cases hs
  |dead=>trivial
section
variable {F : m8} {rec : Task -> Option Out} {ops : List bU} {S : Nat -> St} {X : Nat -> Option XR} {xR : Nat -> Nat -> Prop} {im0 : Im} {loc0 : Loc} {w0 : World} {nt : Nat}
  {done : Nat -> Prop} {im : Im} {loc : Loc} {a : Act} {w : World} {i : Nat}
theorem yh.anC (hr:yh F rec ops S X) {j:Nat} (hj:j<amw ops): ∀t,t∈(S j).fz->t∈(S (j+1)).fz:=by
 intro t ht;rcases hr.steps j _ (v6 hj) with ⟨_,x,hx,_,_,hn⟩|⟨_,_,hn⟩
 · rw [hn]
   cases x with
   |loc r=>simp only [XR.next];exact agz _ ht
   |shr v s z=>exact (P' hx).2 t ht
 rw [hn];exact ht
theorem yh.Eu (hr : yh F rec ops S X) {m m' : Nat} (h : m <= m') (hm : m' <= (amw ops)) : ∀ t, t ∈ (S m).fz -> t ∈ (S m').fz := by
  induction m' with
  | zero => have : m = 0 := by omega
            subst this; exact fun _ h => h
  | succ j ih =>
    rcases ae8 h with e | e
    · subst e; exact fun _ h => h
    exact fun t ht => hr.anC (by omega) t (ih (by omega) (by omega) t ht)
theorem yh.afh (hr:yh F rec ops S X) {j:Nat} (hj:j<amw ops) {t:Nat} (h:FR X j t):t∈(S (j+1)).fz:=by
 rcases hr.steps j _ (v6 hj) with ⟨_,x,hx,_,hX,hn⟩|⟨_,hX,_⟩
 · rw [hn]
   unfold FR at h;rw [hX] at h;cases x with
   |loc r=>exact agE _ h
   |shr v s z=>exact h
 unfold FR at h;rw [hX] at h;exact h.elim
theorem anD {j t:Nat} (h:FR X j t):A X j t\/W X j t:=by
 unfold FR at h;unfold A W;cases hX:X j with
 |none=>rw [hX] at h;exact h.elim
 |some x=>
  rw [hX] at h;cases x with
  |loc r=>exact .inl (.inr h)
  |shr v s z=>exact .inr trivial
theorem Inv.Fj (hr:yh F rec ops S X) (ho:Ord ops S X xR) (hp:Place ops xR done i) {t:Nat} (hW:W X i t) (hz:t∉(S i).fz):
 t∉(S 0).fz/\ ∀j,j<amw ops->done j-> ¬FR X j t:=by
 refine ⟨fun h=>hz (hr.Eu (ae5 _) (afJ hp.lt) t h),fun j hj hd hf=>?_⟩
 rcases WF j i with h|h|h
 · exact hz (hr.Eu h (afJ hp.lt) t (hr.afh hj hf))
 · subst h;exact hp.nd hd
 exact hp.yi hj (ho.Oe i j t h hj hW (anD hf)) hd
theorem Inv.known (hr:yh F rec ops S X) (ho:Ord ops S X xR) (hv:Inv ops S X im0 loc0 w0 nt done im loc a w) (hp:Place ops xR done i) {r:nY} (hX:X i=amB (.loc r)) (Au:(XR.loc r).ok (S i).fz=amD)
 (hn:(S (i+1)).aD.length=(S i).aD.length+amw r.news):jn im loc (S i).aD w r where
 bH:=hv.bH
 tok:=fun t ht li hl=>by
  obtain ⟨k,hc,sD⟩:=hv.tok t li hl;refine ⟨k,hv.cur hr ho hp hl ?_ hc,sD⟩;rcases ht with ht|ht
  · exact .inl (by unfold A;rw [hX];exact .inl ht)
  exact .inr (by unfold W;rw [hX];exact ht)
 free:=fun t k hm li k' hl hs mc=>by
  have hW:W X i t:=by unfold W;rw [hX];exact ⟨k,hm⟩
  simp only [XR.ok,ut,ae4,UV] at Au;have hz:t∉(S i).fz:=jE.1 (Au.1 (t,k) hm);obtain ⟨h0,h1⟩:=Inv.Fj hr ho hp hW hz;obtain ⟨k2,hc,_⟩:=hv.tok t li hl
  have:=hv.cur hr ho hp hl (.inr hW) hc
  rw [hs] at this;injection this with this;subst this;exact hv.free t li k' hl hc mc h0 h1
 fresh:=fun j hj=>hv.fresh i hp.lt hp.nd _ (by omega) (by omega)
 iM:=fun t u li lj k k' ht hu hl mC hs vA mc H4 hb=>by
  have aw: ∀t,(t∈r.rd\/ ∃b,(t,b)∈r.wr)->A X i t\/W X i t:=fun t h=>by
   rcases h with h|h
   · exact .inl (by unfold A;rw [hX];exact .inl h)
   exact .inr (by unfold W;rw [hX];exact h)
  obtain ⟨k1,DJ,_⟩:=hv.tok t li hl;obtain ⟨k2,E5,_⟩:=hv.tok u lj mC;have e1:=hv.cur hr ho hp hl (aw t ht) DJ;have e2:=hv.cur hr ho hp mC (aw u hu) E5;rw [hs] at e1;injection e1 with e1;subst e1;rw [vA] at e2;injection e2 with e2;subst e2;exact hv.iM t u li lj _ _ hl mC DJ E5 mc H4 hb
theorem Inv.Bz (hr:yh F rec ops S X) (ho:Ord ops S X xR) (hv:Inv ops S X im0 loc0 w0 nt done im loc a w) (hp:Place ops xR done i) {x:bU} (hx:ops[i]? =amB x) {r:nY} (hX:X i=amB (.loc r))
 (Au:(XR.loc r).ok (S i).fz=amD) (hS:S (i+1)=(XR.loc r).next x.dst (S i)) {v':Value} {eH:Im} {bn:Loc} {w':World} (oV:VR eH bn r.v v') (he:tK im loc (S i).aD w r eH bn w')
 (tC: ∀d,x.dst=amB d->d<nt):Inv ops S X im0 loc0 w0 nt (plus done i) eH bn (a.put x.dst v') w':=by
 have cY:(S (i+1)).aD.length=(S i).aD.length+(amw r.news):=by rw [hS];simp [XR.next,rF,fK]
 have sE:=hp.lt;have Bo:wg r.wr=amD:=by simp only [XR.ok,ut] at Au;exact Au.2
 have qu:(S (i+1)).aD=gg r.wr (S i).aD++r.news:=by rw [hS];exact rF _ _
 have anE: ∀t k,(t,k)∈r.wr->t<(S i).aD.length->(S (i+1)).aD[t]? =amB k:=by
  intro t k hm dM;rw [qu,EQ (by rw [fK];exact dM)]
  exact Fh _ _ Bo hm dM
 have agf: ∀j k,r.news[j]? =amB k->(S (i+1)).aD[(S i).aD.length+j]? =amB k:=by
  intro j k hj;rw [qu,M2 (by rw [fK];omega),fK,show (S i).aD.length+j- (S i).aD.length=j by omega]
  exact hj
 have wlt: ∀t li,loc t=amB li->W X i t->t<(S i).aD.length:=by
  intro t li hl hW;obtain ⟨k,hc,_⟩:=hv.tok t li hl;exact cO (hv.cur hr ho hp hl (.inr hW) hc)
 have Jv: ∀t k li,(t,k)∈r.wr->loc t=amB li->By S X (amw ops) (plus done i) t k:=by
  intro t k li hm hl;have hW:W X i t:=by unfold W;rw [hX];exact ⟨k,hm⟩
  have dM:=wlt t li hl hW;refine ⟨i+1,sE,fun j hj Qb=>?_,fun c hc h1 h2=>?_,anE t k hm dM⟩
  · rcases WF j i with h|h|h
    · exact ⟨fun _=>by omega,fun _=> .inl (hp.pre j hj (ho.Oe j i t h sE Qb (.inr hW)))⟩
    · subst h;exact ⟨fun _=>by omega,fun _=> .inr rfl⟩
    refine ⟨fun hd=>?_,fun h'=>by omega⟩
    rcases hd with hd|hd
    · exact absurd hd (hp.yi hj (ho.Oe i j t h hj hW (.inr Qb)))
    omega
  rcases acl c (i+1) with h|h
  · exact h
  have:=hr.ik (show i<=c by omega) (by omega);omega
 have zc: ∀j k,r.news[j]? =amB k->By S X (amw ops) (plus done i) ((S i).aD.length+j) k:=by
  intro j k hj;have N0:=cO hj;refine ⟨i+1,sE,fun q hq hWq=>?_,fun c hc h1 h2=>?_,agf j k hj⟩
  · rcases WF q i with h|h|h
    · refine ⟨fun _=>by omega,fun _=> .inl ?_⟩
      by_cases hs:rB X q
      ·
       refine hp.pre q hq (ho.K3 q i h sE (.inl ⟨hs,?_⟩));unfold gT;rw [hX];exact .inr (.inr (.inr (by intro e;rw [e] at hj;simp at hj)))
      rcases ho.cl q _ hq hs (.inr hWq) with h'|h'
      · have:=hr.ik (show q<=i by omega) (by omega);omega
      exact hp.pre q hq (h' i h sE)
    · subst h;exact ⟨fun _=>by omega,fun _=> .inr rfl⟩
    refine ⟨fun hd=>?_,fun h'=>by omega⟩
    rcases hd with hd|hd
    · exfalso
      by_cases hs:rB X q
      · refine hp.yi hq (ho.K3 i q h hq (.inr ⟨?_,hs⟩)) hd
        unfold gT;rw [hX];exact .inr (.inr (.inr (by intro e;rw [e] at hj;simp at hj)))
      exact hp.yi hq (ho.age i q _ h hq (by rintro ⟨v,s,z,e⟩;rw [hX] at e;cases e) (by omega) (by omega) hs hWq) hd
    omega
  rcases acl c (i+1) with h|h
  · exact h
  have:=hr.ik (show i+1<=c by omega) (by omega);omega
 have Qc: ∀t k,¬W X i t->By S X (amw ops) done t k->By S X (amw ops) (plus done i) t k:=by
  intro t k hW hc;obtain ⟨m,hm,h1,h2,h3⟩:=hc;refine ⟨m,hm,fun j hj Qb=>?_,h2,h3⟩
  have ec:j≠i:=fun e=>hW (e▸Qb)
  have:=h1 j hj Qb
  exact ⟨fun hd=>this.1 (hd.resolve_right ec),fun h=> .inl (this.2 h)⟩
 have aq8: ¬rB X i:=by rintro ⟨v,s,z,e⟩;rw [hX] at e;cases e
 have zd: ∀t li,bn t=amB li->(∃j k,t=(S i).aD.length+j/\r.news[j]? =amB k/\loc t=amC)\/loc t=amB li:=by
  intro t li hl;rcases he.k9 t li hl with h|⟨h1,h2⟩
  · exact .inr h
  refine .inl ⟨t- (S i).aD.length,r.news[t- (S i).aD.length],by omega,v6 (by omega),?_⟩
  exact hv.fresh i sE hp.nd t h1 (by omega)
 have old: ∀t li k,loc t=amB li->By S X (amw ops) (plus done i) t k->k.bM=amD-> ∃k0,By S X (amw ops) done t k0/\k0.bM=amD/\BR im loc w li k0/\(¬W X i t->k0=k)/\(W X i t->(t,k)∈r.wr):=by
  intro t li k hl hc hs;obtain ⟨k0,Fk,sD⟩:=hv.tok t li hl
  by_cases hW:W X i t
  · have Jw:=hW
    unfold W at Jw;rw [hX] at Jw;obtain ⟨k2,hm⟩:=Jw;have e:=(Jv t k2 li hm hl).unique hr hc;subst e;obtain ⟨k3,h3,h4⟩:=he.RE t k2 hm hs
    have:=hv.cur hr ho hp hl (.inr hW) Fk
    rw [h3] at this;injection this with this;subst this;exact ⟨k3,Fk,h4,sD,fun h=>absurd hW h,fun _=>hm⟩
  have e:=(Qc t k0 hW Fk).unique hr hc
  subst e;exact ⟨k0,Fk,hs,sD,fun _=>rfl,fun h=>absurd h hW⟩
 have Jx: ∀t k li k0,(t,k)∈r.wr->loc t=amB li->(S i).aD[t]? =amB k0->By S X (amw ops) done t k0:=by
  intro t k li k0 hm hl hs;obtain ⟨k1,DJ,_⟩:=hv.tok t li hl
  have:=hv.cur hr ho hp hl (.inr (by unfold W;rw [hX];exact ⟨k,hm⟩)) DJ
  rw [hs] at this;injection this with this;subst this;exact DJ
 have T1: ∀t li k0,t∈r.fr->loc t=amB li->(S i).aD[t]? =amB k0->By S X (amw ops) done t k0:=by
  intro t li k0 hm hl hs;obtain ⟨k1,DJ,_⟩:=hv.tok t li hl
  have:=hv.cur hr ho hp hl (.inl (by unfold A;rw [hX];exact .inr hm)) DJ
  rw [hs] at this;injection this with this;subst this;exact DJ
 refine {
  tm:=fun t=>?_
  bH:=he.bH
  tok:=fun t li hl=>?_
  iM:=fun t u li lj k k' hl mC hc CL hs vA hb=>?_
  free:=fun t li k hl hc hs h0 hf=>?_
  fresh:=fun j hj Hl t h1 h2=>?_
  gH:=hv.gH.trans he.gH
  dV:=hv.dV.trans he.dV
  os:=he.os.trans hv.os
  tape:=he.tape.trans hv.tape
  output:=he.output.trans hv.output
  size:=adc hv.size he.size
  frame:=fun b hb hh=>?_
  eg:=fun b o hb=>?_
  nR:=fun t li hl=>?_
  own:=fun t li k hl hc hs=>?_
  defers:=by
   cases hd:x.dst<;>simp [Act.put,hv.defers]
  NP:=by
   cases hd:x.dst<;>simp [Act.put,hv.NP]}
 ·
  by_cases hd:x.dst=amB t
  · refine ⟨i+1,sE,fun j y hy Qa=>?_,?_⟩
    · rcases WF j i with h|h|h
      · exact ⟨fun _=>by omega,fun _=> .inl (hp.pre j (cO hy) (ho.Fi j i t y x h hy hx Qa (.inr hd)))⟩
      · subst h;exact ⟨fun _=>by omega,fun _=> .inr rfl⟩
      refine ⟨fun Lv=>?_,fun h'=>by omega⟩
      rcases Lv with Lv|Lv
      · exact absurd Lv (hp.yi (cO hy) (ho.Fi i j t x y h hx hy hd (.inr Qa)))
      omega
    rw [hS]
    simp only [XR.next,hd,iL,rH,if_true,Act.put]
    have:=tC t hd
    simp [hv.NP,this,oV]
  obtain ⟨m,hm,h1,h2⟩:=hv.tm t
  refine ⟨m,hm,fun j y hy Qa=>?_,?_⟩
  · have ec:j≠i:=by intro e;subst e;rw [hx] at hy;injection hy with hy;subst hy;exact hd Qa
    have:=h1 j y hy Qa
    exact ⟨fun Lv=>this.1 (Lv.resolve_right ec),fun h=> .inl (this.2 h)⟩
  have:=h2.mono he.gH he.dV
  cases hxd:x.dst with
  |none=>simpa [Act.put] using this
  |some d=>
   have ec:d≠t:=fun e=>hd (by rw [hxd,e])
   simpa [Act.put,ae1,ec] using this
 ·
  rcases zd t li hl with ⟨j,k,rfl,hj,_⟩|RQ
  · obtain ⟨h2,_⟩:=he.news j k li hj hl
    exact ⟨k,zc j k hj,h2⟩
  obtain ⟨k0,Fk,sD⟩:=hv.tok t li RQ
  by_cases hW:W X i t
  · have Jw:=hW
    unfold W at Jw;rw [hX] at Jw;obtain ⟨k2,hm⟩:=Jw;exact ⟨k2,Jv t k2 li hm RQ,he.wr t k2 li hm RQ⟩
  refine ⟨k0,Qc t k0 hW Fk,sD.anB he.gH he.dV fun hs=>?_⟩
  refine he.frame _ (sD.lt hs) fun t2 k2 l2 k3 hm Ld hs3 mc Tp=>?_
  have:=hv.iM t2 t l2 li k3 k0 Ld RQ (Jx t2 k2 l2 k3 hm Ld hs3) Fk mc hs Tp
  subst this;exact hW (by unfold W;rw [hX];exact ⟨k2,hm⟩)
 ·
  have T2: ∀t u li lj k k',(∃j k,t=(S i).aD.length+j/\r.news[j]? =amB k/\loc t=amC)->loc u=amB lj->bn t=amB li->By S X (amw ops) (plus done i) t k->By S X (amw ops) (plus done i) u k'->
   k.bM=amD->k'.bM=amD->li.dh=lj.dh->False:=by
   intro t u li lj k k' hj hlu hl hc CL hs vA hb;obtain ⟨j,k1,rfl,hj,_⟩:=hj;have e:=(zc j k1 hj).unique hr hc;subst e;obtain ⟨h2,h3⟩:=he.news j k1 li hj hl;obtain ⟨k0,Fk,Jy,agh,hk0,hw0⟩:=old u lj k' hlu CL vA;have dM:=agh.lt Jy;rcases (h3 hs).2 with h|⟨td,lt,kd,hm,hld,hsd,T3,hbd⟩
   · omega
   have:=hv.iM td u lt lj kd k0 hld hlu (Jx td _ lt kd hm hld hsd) Fk T3 Jy (by rw [hbd,hb])
   subst this;have N7:=hw0 (by unfold W;rw [hX];exact ⟨_,hm⟩)
   have e2:=(Jv td _ lj hm hlu).unique hr (Jv td _ lj N7 hlu);subst e2;cases vA
  rcases zd t li hl with h1|h1
  · rcases zd u lj mC with h2|h2
    · obtain ⟨j1,k1,rfl,hj1,_⟩:=h1
      obtain ⟨j2,k2,rfl,hj2,_⟩:=h2;have e1:=(zc j1 k1 hj1).unique hr hc;have e2:=(zc j2 k2 hj2).unique hr CL;subst e1 e2;rw [he.distinct j1 j2 k1 k2 li lj hj1 hj2 hs vA hl mC hb]
    exact (T2 t u li lj k k' h1 h2 hl hc CL hs vA hb).elim
  rcases zd u lj mC with h2|h2
  · exact (T2 u t lj li k' k h2 h1 mC CL hc vA hs hb.symm).elim
  obtain ⟨k0,Fk,Jy,_⟩:=old t li k h1 hc hs
  obtain ⟨k1,DJ,hs1,_⟩:=old u lj k' h2 CL vA;exact hv.iM t u li lj k0 k1 h1 h2 Fk DJ Jy hs1 hb
 ·
  rcases zd t li hl with ⟨j,k1,rfl,hj,_⟩|RQ
  · have e:=(zc j k1 hj).unique hr hc
    subst e;obtain ⟨h2,h3⟩:=he.news j k1 li hj hl;exact (h3 hs).1
  obtain ⟨k0,Fk,Jy,agh,_,_⟩:=old t li k RQ hc hs
  have hn:=hv.free t li k0 RQ Fk Jy h0 (fun j hj hd=>hf j hj (.inl hd))
  cases hb:eH li.dh with
  |none=>rfl
  |some o=>
   rcases he.eg _ _ hb with h|h|⟨t2,l2,k2,h1,h2,h3,h4,h5⟩
   · rw [hn] at h;cases h
   · have:=agh.lt Jy;omega
   have hm:=pM.1 h1
   have:=hv.iM t2 t l2 li k2 k0 h2 RQ (T1 t2 l2 k2 hm h2 h3) Fk h4 Jy h5
   subst this;exact absurd (by unfold FR;rw [hX];exact hm) (hf i sE (.inr rfl))
 ·
  have Xm:j≠i:=fun e=>Hl (.inr e)
  have agi: ¬done j:=fun h=>Hl (.inl h)
  cases hl:bn t with
  |none=>rfl
  |some li=>
   exfalso;rcases he.k9 t li hl with h|⟨h3,h4⟩
   · rw [hv.fresh j hj agi t h1 h2] at h;cases h
   rcases alt Xm with h|h
   · have:=hr.ik (show j+1<=i by omega) (by omega);omega
   have:=hr.ik (show i+1<=j by omega) (by omega);omega
 ·
  have hb2:b<w.heap.size:=afb hb hv.size;rw [he.frame b hb2 (fun t k li k0 hm hl hs mc Tp=>?_)]
  · exact hv.frame b hb hh
  rcases hv.own t li k0 hl (Jx t k li k0 hm hl hs) mc with h|⟨u,lu,ku,h1,h2,h3,h4⟩
  · omega
  exact hh u lu ku h1 h2 h3 (by omega)
 · rcases he.eg b o hb with h|h|⟨t,li,k,h1,h2,h3,h4,h5⟩
   · exact hv.eg b o h
   · exact .inr (.inl (adc hv.size h))
   rcases hv.own t li k h2 (T1 t li k (pM.1 h1) h2 h3) h4 with h|⟨u,lu,ku,g1,g2,g3,g4⟩
   · exact .inr (.inl (by omega))
   exact .inr (.inr ⟨u,lu,ku,g1,g2,g3,by omega⟩)
 · rcases he.k9 t li hl with h|⟨h,_⟩
   · exact hv.nR t li h
   exact .inr (adc (hr.ik (ae5 _) (by omega)) h)
 rcases zd t li hl with ⟨j,k1,rfl,hj,_⟩|RQ
 · have e:=(zc j k1 hj).unique hr hc
   subst e;obtain ⟨h2,h3⟩:=he.news j k1 li hj hl;rcases (h3 hs).2 with h|⟨td,lt,kd,hm,hld,hsd,T3,hbd⟩
   · exact .inl (adc hv.size h)
   rcases hv.own td lt kd hld (Jx td _ lt kd hm hld hsd) T3 with h|⟨u,lu,ku,g1,g2,g3,g4⟩
   · exact .inl (by omega)
   exact .inr ⟨u,lu,ku,g1,g2,g3,by omega⟩
 obtain ⟨k0,Fk,Jy,_⟩:=old t li k RQ hc hs
 exact hv.own t li k0 RQ Fk Jy
end
end Go.Vm
/- A region: a call that works on the blocks themselves, and a skipped operation. -/
namespace Go.Vm
section
variable {F : m8} {rec : Task -> Option Out} {ops : List bU} {S : Nat -> St} {X : Nat -> Option XR} {xR : Nat -> Nat -> Prop} {im0 : Im} {loc0 : Loc} {w0 : World} {nt : Nat}
  {done : Nat -> Prop} {im : Im} {loc : Loc} {a : Act} {w : World} {i : Nat}
theorem H5 {v:PV} {s:cL} {z:List Nat} (hX:X i=amB (.shr v s z)) (t:Nat):W X i t:=by unfold W;rw [hX];trivial
theorem wC {j t:Nat} (h:W X j t):gT X j:=by
 unfold W at h;unfold gT;cases hX:X j with
 |none=>rw [hX] at h;exact h.elim
 |some x=>
  rw [hX] at h;cases x with
  |loc r=>
   obtain ⟨k,hk⟩:=h;exact .inr (.inr (.inl (by intro e;rw [e] at hk;cases hk)))
  |shr v s z=>trivial
theorem Inv.sr (hr:yh F rec ops S X) (ho:Ord ops S X xR) (hv:Inv ops S X im0 loc0 w0 nt done im loc a w) (hp:Place ops xR done i) {v:PV} {s:cL} {z:List Nat} (hX:X i=amB (.shr v s z)):
 SR im loc (S i).aD (S i).fz w where
 bH:=hv.bH
 dh:=fun t li hl=>by
  obtain ⟨k,hc,hb⟩:=hv.tok t li hl;exact ⟨k,hv.cur hr ho hp hl (.inr (H5 hX t)) hc,hb⟩
 iM:=fun t u li lj k k' hl mC hs vA h h' hb=>by
  obtain ⟨k1,DJ,_⟩:=hv.tok t li hl;obtain ⟨k2,E5,_⟩:=hv.tok u lj mC;have e1:=hv.cur hr ho hp hl (.inr (H5 hX t)) DJ;have e2:=hv.cur hr ho hp mC (.inr (H5 hX u)) E5;rw [hs] at e1;injection e1 with e1;subst e1;rw [vA] at e2;injection e2 with e2;subst e2;exact hv.iM t u li lj _ _ hl mC DJ E5 h h' hb
 free:=fun t li k hl hs h hz=>by
  obtain ⟨k1,DJ,_⟩:=hv.tok t li hl;have e1:=hv.cur hr ho hp hl (.inr (H5 hX t)) DJ;rw [hs] at e1;injection e1 with e1;subst e1;obtain ⟨h0,h1⟩:=Inv.Fj hr ho hp (H5 hX t) (jE.1 hz);exact hv.free t li _ hl DJ h h0 h1
theorem Inv.T4 {S:Nat->St} (ho:Ord ops S X xR) (hp:Place ops xR done i) {x:bU} (hx:ops[i]? =amB x) {v:PV} {v':Value} {eH:Im} {bn:Loc}
 (hv:Inv ops S X im0 loc0 w0 nt done im loc a w) (hi:od im eH) (hl:mw loc bn) (hS:(S (i+1)).env=iL x.dst v (S i).env) (oV:VR eH bn v v') (tC: ∀d,x.dst=amB d->d<nt):
 ∀t,∃m,m<=amw ops/\(∀j y,ops[j]? =amB y->y.dst=amB t->(plus done i j↔j<m))/\VR eH bn (lk t (S m).env) ((a.put x.dst v').tmps.getD t Go.undef):=by
 intro t;have sE:=hp.lt
 by_cases hd:x.dst=amB t
 · refine ⟨i+1,sE,fun j y hy Qa=>?_,?_⟩
   · rcases WF j i with h|h|h
     · exact ⟨fun _=>by omega,fun _=> .inl (hp.pre j (cO hy) (ho.Fi j i t y x h hy hx Qa (.inr hd)))⟩
     · subst h;exact ⟨fun _=>by omega,fun _=> .inr rfl⟩
     refine ⟨fun Lv=>?_,fun h'=>by omega⟩
     rcases Lv with Lv|Lv
     · exact absurd Lv (hp.yi (cO hy) (ho.Fi i j t x y h hx hy hd (.inr Qa)))
     omega
   rw [hS]
   simp only [hd,iL,rH,if_true,Act.put]
   have:=tC t hd
   simp [hv.NP,this,oV]
 obtain ⟨m,hm,h1,h2⟩:=hv.tm t
 refine ⟨m,hm,fun j y hy Qa=>?_,?_⟩
 · have ec:j≠i:=by intro e;subst e;rw [hx] at hy;injection hy with hy;subst hy;exact hd Qa
   have:=h1 j y hy Qa
   exact ⟨fun Lv=>this.1 (Lv.resolve_right ec),fun h=> .inl (this.2 h)⟩
 have:=h2.mono hi hl
 cases hxd:x.dst with
 |none=>simpa [Act.put] using this
 |some d=>
  have ec:d≠t:=fun e=>hd (by rw [hxd,e])
  simpa [Act.put,ae1,ec] using this
theorem put_defers (a:Act) (d:Option Nat) (v:Value):(a.put d v).defers=a.defers:=by cases d<;>rfl
theorem Lw (a:Act) (d:Option Nat) (v:Value):(a.put d v).tmps.size=a.tmps.size:=by cases d<;>simp [Act.put]
theorem Inv.T5 (hr:yh F rec ops S X) (ho:Ord ops S X xR) (hv:Inv ops S X im0 loc0 w0 nt done im loc a w) (hp:Place ops xR done i) {x:bU} (hx:ops[i]? =amB x) {v:PV} {s:cL} {z:List Nat}
 (hX:X i=amB (.shr v s z)) (hS:S (i+1)=(XR.shr v s z).next x.dst (S i)) {v':Value} {eH:Im} {bn:Loc} {w':World} (hf:vE im loc (S i).aD w v s z eH bn w' v')
 (tC: ∀d,x.dst=amB d->d<nt):Inv ops S X im0 loc0 w0 nt (plus done i) eH bn (a.put x.dst v') w':=by
 have sE:=hp.lt;have qu:(S (i+1)).aD=s:=by rw [hS];rfl
 have agk: ∀t li,loc t=amB li-> ∀k,(S i).aD[t]? =amB k->By S X (amw ops) done t k:=by
  intro t li hl k hs;obtain ⟨k1,DJ,_⟩:=hv.tok t li hl;have e1:=hv.cur hr ho hp hl (.inr (H5 hX t)) DJ;rw [hs] at e1;injection e1 with e1;subst e1;exact DJ
 have Xn: ∀t k,s[t]? =amB k->By S X (amw ops) (plus done i) t k:=by
  intro t k hs;refine ⟨i+1,sE,fun j hj Qb=>?_,fun c hc h1 h2=>?_,by rw [qu];exact hs⟩
  · rcases WF j i with h|h|h
    · exact ⟨fun _=>by omega,fun _=> .inl (hp.pre j hj (ho.K3 j i h sE (.inr ⟨wC Qb,⟨v,s,z,hX⟩⟩)))⟩
    · subst h;exact ⟨fun _=>by omega,fun _=> .inr rfl⟩
    refine ⟨fun hd=>?_,fun h'=>by omega⟩
    rcases hd with hd|hd
    · exact absurd hd (hp.yi hj (ho.K3 i j h hj (.inl ⟨⟨v,s,z,hX⟩,wC Qb⟩)))
    omega
  rcases acl c (i+1) with h|h
  · exact h
  have:=hr.ik (show i+1<=c by omega) (by omega)
  have:=cO hs
  rw [qu] at*;omega
 have Jz: ∀t li,bn t=amB li-> ∀k,By S X (amw ops) (plus done i) t k->s[t]? =amB k:=by
  intro t li hl k hc;obtain ⟨k1,h1,_⟩:=hf.sr.dh t li hl
  have:=hc.unique hr (Xn t k1 h1)
  subst this;exact h1
 refine {
  tm:=Inv.T4 ho hp hx hv hf.gH hf.dV (by rw [hS];rfl) hf.vr tC
  bH:=hf.sr.bH
  tok:=fun t li hl=>by
   obtain ⟨k,h1,h2⟩:=hf.sr.dh t li hl;exact ⟨k,Xn t k h1,h2⟩
  iM:=fun t u li lj k k' hl mC hc CL hs vA hb=>hf.sr.iM t u li lj k k' hl mC (Jz t li hl k hc) (Jz u lj mC k' CL) hs vA hb
  free:=fun t li k hl hc hs h0 sC=>by
   refine hf.sr.free t li k hl (Jz t li hl k hc) hs (jE.2 ?_)
   have:=sC i sE (.inr rfl)
   unfold FR at this;rw [hX] at this;exact this
  fresh:=fun j hj Hl t h1 h2=>?_
  gH:=hv.gH.trans hf.gH
  dV:=hv.dV.trans hf.dV
  os:=hf.os.trans hv.os
  tape:=hf.tape.trans hv.tape
  output:=hf.output.trans hv.output
  size:=adc hv.size hf.size
  frame:=fun b hb hh=>?_
  eg:=fun b o hb=>?_
  nR:=fun t li hl=>?_
  own:=fun t li k hl hc hs=>?_
  defers:=by rw [put_defers];exact hv.defers
  NP:=by rw [Lw];exact hv.NP}
 · have Xm:j≠i:=fun e=>Hl (.inr e)
   have agi: ¬done j:=fun h=>Hl (.inl h)
   cases hl:bn t with
   |none=>rfl
   |some li=>
    exfalso;obtain ⟨k,hk,_⟩:=hf.sr.dh t li hl;have dM:=cO hk;rcases hf.nR t li hl with h|h
    · rw [hv.fresh j hj agi t h1 h2] at h;cases h
    rcases alt Xm with h'|h'
    · have:=hr.ik (show j+1<=i by omega) (by omega);omega
    have:=hr.ik (show i+1<=j by omega) (by omega)
    rw [qu] at this;omega
 · rw [hf.frame b (afb hb hv.size) fun t li k hl hs mc Tp=>?_]
   · exact hv.frame b hb hh
   rcases hv.own t li k hl (agk t li hl k hs) mc with h|⟨u,lu,ku,g1,g2,g3,g4⟩
   · omega
   exact hh u lu ku g1 g2 g3 (by omega)
 · rcases hf.eg b o hb with h|h|⟨t,li,k,h1,h2,h3,h4⟩
   · exact hv.eg b o h
   · exact .inr (.inl (adc hv.size h))
   rcases hv.own t li k h1 (agk t li h1 k h2) h3 with h|⟨u,lu,ku,g1,g2,g3,g4⟩
   · exact .inr (.inl (by omega))
   exact .inr (.inr ⟨u,lu,ku,g1,g2,g3,by omega⟩)
 · rcases hf.nR t li hl with h|h
   · exact hv.nR t li h
   exact .inr (adc (hr.ik (ae5 _) (by omega)) h)
 rcases hf.own t li k hl (Jz t li hl k hc) hs with h|⟨u,lu,ku,h1,h2,h3,h4⟩
 · exact .inl (adc hv.size h)
 rcases hv.own u lu ku h1 (agk u lu h1 ku h2) h3 with h|⟨u',lu',ku',g1,g2,g3,g4⟩
 · exact .inl (by omega)
 exact .inr ⟨u',lu',ku',g1,g2,g3,by omega⟩
theorem Inv.step_skip (_hr:yh F rec ops S X) (ho:Ord ops S X xR) (hv:Inv ops S X im0 loc0 w0 nt done im loc a w) (hp:Place ops xR done i) {x:bU} (hx:ops[i]? =amB x)
 (hX:X i=amC) (hS:S (i+1)={S i with env:=iL x.dst .jA (S i).env}) (tC: ∀d,x.dst=amB d->d<nt):Inv ops S X im0 loc0 w0 nt (plus done i) im loc (a.put x.dst Go.undef) w:=by
 have sE:=hp.lt;have hnW: ∀t,¬W X i t:=fun t h=>by unfold W at h;rw [hX] at h;exact h
 have qu:(S (i+1)).aD=(S i).aD:=by rw [hS]
 have Xn: ∀t k,By S X (amw ops) done t k->By S X (amw ops) (plus done i) t k:=by
  intro t k ⟨m,hm,h1,h2,h3⟩;refine ⟨m,hm,fun j hj Qb=>?_,h2,h3⟩
  have ec:j≠i:=fun e=>hnW t (e▸Qb)
  have:=h1 j hj Qb
  exact ⟨fun hd=>this.1 (hd.resolve_right ec),fun h=> .inl (this.2 h)⟩
 have Jz: ∀t k,By S X (amw ops) (plus done i) t k->By S X (amw ops) done t k:=by
  intro t k ⟨m,hm,h1,h2,h3⟩;refine ⟨m,hm,fun j hj Qb=>?_,h2,h3⟩
  have ec:j≠i:=fun e=>hnW t (e▸Qb)
  have:=h1 j hj Qb
  exact ⟨fun hd=>this.1 (.inl hd),fun h=>(this.2 h).resolve_right ec⟩
 refine {
  tm:=Inv.T4 ho hp hx hv (.refl _) (.refl _) (by rw [hS]) .jA tC
  bH:=hv.bH
  tok:=fun t li hl=>let ⟨k,h1,h2⟩:=hv.tok t li hl;⟨k,Xn t k h1,h2⟩
  iM:=fun t u li lj k k' hl mC hc CL hs vA hb=>hv.iM t u li lj k k' hl mC (Jz t k hc) (Jz u k' CL) hs vA hb
  free:=fun t li k hl hc hs h0 sC=>hv.free t li k hl (Jz t k hc) hs h0 fun j hj hd=>sC j hj (.inl hd)
  fresh:=fun j hj Hl t h1 h2=>hv.fresh j hj (fun h=>Hl (.inl h)) t h1 h2
  gH:=hv.gH
  dV:=hv.dV
  os:=hv.os
  tape:=hv.tape
  output:=hv.output
  size:=hv.size
  frame:=hv.frame
  eg:=hv.eg
  nR:=hv.nR
  own:=fun t li k hl hc hs=>hv.own t li k hl (Jz t k hc) hs
  defers:=by rw [put_defers];exact hv.defers
  NP:=by rw [Lw];exact hv.NP}
theorem Inv.start {st:St} (h0:S 0=st) (kM:SR im0 loc0 st.aD st.fz w0) (her:ER im0 loc0 st.env a.tmps) (hd:a.defers=[]) (hn:a.tmps.size=nt) (hr:yh F rec ops S X):
 Inv ops S X im0 loc0 w0 nt (fun _=>False) im0 loc0 a w0:=by
 subst h0;have dM: ∀t li,loc0 t=amB li->t<(S 0).aD.length:=fun t li hl=>let ⟨k,h,_⟩:=kM.dh t li hl;cO h
 have cur: ∀t li k,loc0 t=amB li->By S X (amw ops) (fun _=>False) t k->(S 0).aD[t]? =amB k:=by
  intro t li k hl ⟨m,hm,h1,h2,h3⟩;rw [<- hr.zb (ae5 m) hm (fun j _ hj hW=>(h1 j (by omega) hW).2 hj) (dM t li hl)]
  exact h3
 exact {
  tm:=fun t=>⟨0,ae5 _,fun j y _ _=>⟨fun h=>h.elim,fun h=>by omega⟩,her t⟩
  bH:=kM.bH
  tok:=fun t li hl=>by
   obtain ⟨k,h1,h2⟩:=kM.dh t li hl;refine ⟨k,⟨0,ae5 _,fun j _ _=>⟨fun h=>h.elim,fun h=>by omega⟩,fun c hc h3 h4=>?_,h1⟩,h2⟩
   have:=dM t li hl
   have:=hr.ik (ae5 c) (by omega)
   omega
  iM:=fun t u li lj k k' hl mC hc CL=>kM.iM t u li lj k k' hl mC (cur t li k hl hc) (cur u lj k' mC CL)
  free:=fun t li k hl hc hs hz _=>kM.free t li k hl (cur t li k hl hc) hs (jE.2 hz)
  fresh:=fun j hj _ t h1 h2=>by
   cases hl:loc0 t with
   |none=>rfl
   |some li=>
    have:=dM t li hl
    have:=hr.ik (ae5 j) (by omega)
    omega
  gH:= .refl _
  dV:= .refl _
  os:=rfl
  tape:=rfl
  output:=rfl
  size:=If _
  frame:=fun _ _ _=>rfl
  eg:=fun _ _ h=> .inl h
  nR:=fun _ _ h=> .inl h
  own:=fun t li k hl hc hs=> .inr ⟨t,li,k,hl,cur t li k hl hc,hs,rfl⟩
  defers:=hd
  NP:=hn}
structure Kept (im0:Im) (loc0:Loc) (jd:cL) (w0:World) (st:St) (im:Im) (loc:Loc) (w:World):Prop where
 sr:SR im loc st.aD st.fz w
 gH:od im0 im
 dV:mw loc0 loc
 os:w.os=w0.os
 tape:w.tape=w0.tape
 output:w.output=w0.output
 size:w0.heap.size<=w.heap.size
 frame: ∀b,b<w0.heap.size->(∀t li k,loc0 t=amB li->jd[t]? =amB k->k.bM=amD->li.dh≠b)->w.heap[b]? =w0.heap[b]?
 eg: ∀b o,im b=amB o->im0 b=amB o\/w0.heap.size<=b\/ ∃t li k,loc0 t=amB li/\jd[t]? =amB k/\k.bM=amD/\li.dh=b
 nR: ∀t li,loc t=amB li->loc0 t=amB li\/amw jd<=t
 own: ∀t li k,loc t=amB li->st.aD[t]? =amB k->k.bM=amD->(w0.heap.size<=li.dh\/ ∃u lu ku,loc0 u=amB lu/\jd[u]? =amB ku/\ku.bM=amD/\lu.dh=li.dh)
theorem Inv.finish (hr : yh F rec ops S X) (hv : Inv ops S X im0 loc0 w0 nt done im loc a w) (hd : ∀ j, j < (amw ops) -> done j) :
    Kept im0 loc0 (S 0).aD w0 (S (amw ops)) im loc w /\ ER im loc (S (amw ops)).env a.tmps /\ a.defers = [] /\ a.tmps.size = nt := by
  have cur : ∀ t k, By S X (amw ops) done t k -> (S (amw ops)).aD[t]? = amB k := by
    intro t k ⟨m, hm, h1, h2, h3⟩
    rw [hr.zb hm (If _) (fun j h4 h5 hW => by have := (h1 j h5 hW).1 (hd j h5); omega) (cO h3)]
    exact h3
  have Xo : ∀ t li k, loc t = amB li -> (S (amw ops)).aD[t]? = amB k -> By S X (amw ops) done t k := by
    intro t li k hl hs
    obtain ⟨k1, hc, _⟩ := hv.tok t li hl
    have := cur t k1 hc
    rw [hs] at this; injection this with this; subst this; exact hc
  refine ⟨{
    sr := { bH := hv.bH
            dh := fun t li hl => let ⟨k, h1, h2⟩ := hv.tok t li hl; ⟨k, cur t k h1, h2⟩
            iM := fun t u li lj k k' hl mC hs vA => hv.iM t u li lj k k' hl mC (Xo t li k hl hs) (Xo u lj k' mC vA)
            free := fun t li k hl hs mc hz => by
              have hz := jE.1 hz
              refine hv.free t li k hl (Xo t li k hl hs) mc (fun h => hz (hr.Eu (ae5 _) (If _) t h)) fun j hj _ hf => ?_
              exact hz (hr.Eu (show j + 1 <= (amw ops) from hj) (If _) t (hr.afh hj hf)) }
    gH := hv.gH, dV := hv.dV, os := hv.os, tape := hv.tape, output := hv.output, size := hv.size, frame := hv.frame, eg := hv.eg, nR := hv.nR
    own := fun t li k hl hs => hv.own t li k hl (Xo t li k hl hs) }, fun t => ?_, hv.defers, hv.NP⟩
  obtain ⟨m, hm, h1, h2⟩ := hv.tm t
  rw [hr.Od hm (If _) fun j hj h3 h4 tC => ?_]
  · exact h2
  have := (h1 j _ (v6 hj) tC).1 (hd j hj); omega
end
end Go.Vm
/- One operation of a region, in the model. -/
namespace Go.Vm
theorem CV {P:Program} {o:Oper} {a:Act} {w:World} {f:FuncId} {us:Array Value} {R:Value->World->Prop} {next:Act->World->Prop} {Q:Exit->Act->World->Prop}
 (h:(execOp a.eval o).run P w=(callFunc f us).run P w) (hc:uO P f us w R) (hR: ∀v w',R v w'->next (a.put o.dst v) w'):o.wp P a w next Q:=by
 unfold Oper.wp;rw [h];rcases hc with ⟨v,w',h1,h2⟩|⟨h1,h2⟩
 · rw [h1,Oper.upon_value];exact hR v w' h2
 rw [h1,Oper.upon_enter]
 refine h2.mono fun e w' ⟨v,he,hv⟩=>?_
 subst he;exact hR v w' hv
theorem Of {im:Im} {loc:Loc} {e:Env} {a:Act} (x:fH) (h: ∀t,x= .t t->VR im loc (lk t e) (a.tmps.getD t Go.undef)) (o:Operand) (hc:bE x o=amD):VR im loc (x.ev e) (a.eval o):=by
 unfold bE at hc;split at hc
 · rename_i n m
   have:n=m:=by simpa using hc
   subst this;exact h n rfl
 · exact Jh hc
 · rename_i f g
   have:f=g:=by simpa using hc
   subst this;exact .eV f [] [] [] [] .nil .nil
 · exact .undef _
 cases hc
section
variable {P : Program} {F : m8} {rec : Task -> Option Out} {ops : List bU} {S : Nat -> St} {X : Nat -> Option XR} {xR : Nat -> Nat -> Prop} {im0 : Im} {loc0 : Loc} {w0 : World} {nt : Nat}
  {done : Nat -> Prop} {im : Im} {loc : Loc} {a : Act} {w : World} {i : Nat} {prims : FuncId -> Bool} {iT : Array Oper}
theorem VR.Xp {v:Value} (h:VR im loc .jA v):v=Go.undef:=by
 cases h;rfl
theorem wD {r:nY} {d:Option Nat} {st:St}:((XR.loc r).next d st).aD.length=amw st.aD+(amw r.news):=by simp [XR.next,rF,fK]
theorem H6 {x:bU} {o:Oper} {e:Env} {b:Bool} (hc:vG iT x.guard o.guard=amD) (hs: ∀s c,x.guard=amB (s,c)->VR im loc (lk s e) (a.tmps.getD s Go.undef)) (h:wanted x.guard e=amB b):
 Region.wanted o (yielded iT a.tmps)=b:=by
 unfold Region.wanted;cases hg:x.guard with
 |none=>
  rw [hg] at hc h;cases ho:o.guard with
  |none=>simp [wanted] at h;subst h;rfl
  |some q=>rw [ho] at hc;simp [vG] at hc
 |some q=>
  obtain ⟨s,c⟩:=q;rw [hg] at hc h;cases ho:o.guard with
  |none=>rw [ho] at hc;simp [vG] at hc
  |some q'=>
   obtain ⟨j,c'⟩:=q';rw [ho] at hc;simp only [vG,ut,beq_iff_eq] at hc;obtain ⟨rfl,hd⟩:=hc;have hv:=hs s c hg;dsimp only;unfold yielded;rw [hd];simp only [wanted] at h;simp only [Option.bind_some];split at h
   · rename_i b' hl
     rw [hl] at hv
     have:=hv.jD
     have ht:a.tmps[s]? =amB (.bool b'):=by
      simp only [ae2] at this;cases hq:a.tmps[s]? with
      |none=>rw [hq] at this;simp [Go.undef] at this
      |some u=>rw [hq] at this;exact congrArg amB this
     rw [ht];rw [ww] at h;rw [<- h];cases b'<;>cases c<;>rfl
   · rename_i hl
     rw [hl] at hv
     have:a.tmps.getD s Go.undef=Go.undef:=hv.Xp
     injection h with h;subst h;have ht: ∀b',a.tmps[s]?≠amB (.bool b'):=by
      intro b' hq;simp only [ae2,hq,Option.getD_some,Go.undef] at this;cases this
     split
     · rename_i b' hq
       exact absurd hq (ht b')
     rfl
   cases h
structure JA (P:Program) (F:m8) (rec:Task->Option Out):Prop where
 func:CR P rec
 kg:za P F
theorem Inv.wpOp (hE:JA P F rec) (hr:yh F rec ops S X) (ho:Ord ops S X xR) (hv:Inv ops S X im0 loc0 w0 nt done im loc a w) (hp:Place ops xR done i) {x:bU} {o:Oper} (hx:ops[i]? =amB x) (hmo:iT[i]? =amB o)
 (hc:rJ P prims nt iT x o=amD) {Q:Exit->Act->World->Prop} {K:Act->World->Prop}
 (hK: ∀eH bn a' w',Inv ops S X im0 loc0 w0 nt (plus done i) eH bn a' w'->K a' w'):Go.wpOp P iT Q i K a w:=by
 unfold rJ at hc;simp only [ut,beq_iff_eq] at hc;obtain ⟨⟨⟨tC,hnt⟩,hg⟩,fF⟩:=hc;have hd: ∀d,x.dst=amB d->d<nt:=by
  intro d h;rw [h] at hnt;simpa using hnt
 have afi: ∀t,t∈aA x->VR im loc (lk t (S i).env) (a.tmps.getD t Go.undef):=fun t ht=>hv.slot hr ho hp hx ht
 have RX: ∀y∈x.op.fA,∀o',bE y o'=amD->VR im loc (y.ev (S i).env) (a.eval o'):=by
  intro y hy o' hco;refine Of y (fun t ht=>afi t ?_) o' hco
  subst ht;exact agE _ (List.mem_filterMap.2 ⟨.t t,hy,rfl⟩)
 have hgs: ∀s c,x.guard=amB (s,c)->VR im loc (lk s (S i).env) (a.tmps.getD s Go.undef):=by
  intro s c h;refine afi s (agz _ ?_);rw [h];simp
 unfold Go.wpOp;simp only [hmo];rcases hr.steps i x hx with ⟨hw,xr,gx,Au,hX,hS⟩|⟨hw,hX,hS⟩
 · rw [H6 hg hgs hw]
   simp only [if_true];left;have Fl: ∀{own:Bool} {f:FuncId} {args:List PV} {us:List Value} {r:nY},xr= .loc r->dy F rec own f args (S i).aD (S i).fz=amB r->fh im loc args us->
    (execOp a.eval o).run P w=(callFunc f ⟨us⟩).run P w->o.wp P a w K Q:=by
    intro own f args us r hxr hcp xU cy;subst hxr;have hk:=hv.known hr ho hp hX Au (by rw [hS];exact wD)
    refine CV cy (Ju hE.func hE.kg hcp xU hk) fun v' w' ⟨eH,bn,oV,xQ⟩=>?_
    exact hK _ _ _ _ (tC▸hv.Bz hr ho hp hx hX Au hS oV xQ hd)
   have Lx: ∀{f:FuncId} {args:List PV} {us:List Value},fV rec f args (S i).aD (S i).fz=amB xr->fh im loc args us->
    (execOp a.eval o).run P w=(callFunc f ⟨us⟩).run P w->o.wp P a w K Q:=by
    intro f args us mE xU cy;unfold fV at mE;split at mE
    · rename_i v s z E8
      split at mE
      · injection mE with mE;subst mE
        refine CV cy (hE.func f args _ _ v s z E8 im loc w us (hv.sr hr ho hp hX) xU) fun v' w' ⟨eH,bn,hf⟩=>?_
        exact hK _ _ _ _ (tC▸hv.T5 hr ho hp hx hX hS hf hd)
      cases mE
    cases mE
   have agm: ∀{r:nY},xr= .loc r->bG (S i).env (S i).aD (S i).fz x.op=amB r->o.wp P a w K Q:=by
    intro r hxr he;subst hxr;have hk:=hv.known hr ho hp hX Au (by rw [hS];exact wD)
    obtain ⟨nx,w',bn,cy,hnx,xQ⟩:=TL fF RX he hk;unfold Oper.wp;rw [cy];rcases hnx with ⟨rfl,hu⟩|⟨v,rfl,oV⟩
    · rw [Oper.upon_skip]
      exact hK _ _ _ _ (tC▸hv.Bz hr ho hp hx hX Au hS (by rw [hu];exact .undef _) xQ hd)
    rw [Oper.upon_value]
    exact hK _ _ _ _ (tC▸hv.Bz hr ho hp hx hX Au hS oV xQ hd)
   cases WT:x.op with
   |call m f args=>
    rw [WT] at gx fF RX;have T6: ∃as WU,o.op= .call {callee:= .value (.func f),args:=as,argTypes:=WU}/\fj args as.toList=amD:=by
     cases Tq:o.op with
     |call c=>
      obtain ⟨callee,as,WU⟩:=c;rw [Tq] at fF;cases callee with
      |value g=>
       cases g with
       |func g=>
        simp only [xF,ut,beq_iff_eq] at fF;obtain ⟨⟨rfl,_⟩,h⟩:=fF;exact ⟨as,WU,rfl,h⟩
       |_=>simp [xF] at fF
      |_=>simp [xF] at fF
     |_=>rw [Tq] at fF;simp [xF] at fF
    obtain ⟨as,WU,Tq,hco⟩:=T6;have vD:fh im loc (EO (S i).env args) (as.toList.map a.eval):=nB (fun y hy=>RX y (by simpa [k7.fA] using hy)) hco
    have cy:(execOp a.eval o).run P w=(callFunc f ⟨as.toList.map a.eval⟩).run P w:=by
     have:(⟨as.toList.map a.eval⟩:Array Value)=as.map a.eval:=by apply amm;simp
     rw [this];simp [execOp,Tq,resolve,Act.eval,Deferred.ofValue,invoke]
    cases m with
    |WM=>
     simp only [xD,F0s] at gx;obtain ⟨r,Qd,NQ⟩:=gx;exact Fl NQ.symm Qd vD cy
    |own=>
     simp only [xD,F0s] at gx;obtain ⟨r,Qd,NQ⟩:=gx;exact Fl NQ.symm Qd vD cy
    |shr=>exact Lx gx vD cy
    |fp=>
     simp only [xD,F0s] at gx;obtain ⟨r,Qd,NQ⟩:=gx;subst NQ;have hk:=hv.known hr ho hp hX Au (by rw [hS];exact wD)
     refine CV cy (N9 hE.func Qd vD hk) fun v' w' ⟨eH,bn,oV,xQ⟩=>?_
     exact hK _ _ _ _ (tC▸hv.Bz hr ho hp hx hX Au hS oV xQ hd)
   |xB y args=>
    rw [WT] at gx fF RX;have T6: ∃t as WU,o.op= .call {callee:= .value (.tmp t),args:=as,argTypes:=WU}/\bE y (.tmp t)=amD/\fj args as.toList=amD:=by
     cases Tq:o.op with
     |call c=>
      obtain ⟨callee,as,WU⟩:=c;rw [Tq] at fF;cases callee with
      |value g=>
       cases g with
       |tmp g=>
        simp only [xF,ut] at fF;exact ⟨g,as,WU,rfl,fF.1,fF.2⟩
       |_=>simp [xF] at fF
      |_=>simp [xF] at fF
     |_=>rw [Tq] at fF;simp [xF] at fF
    obtain ⟨t,as,WU,Tq,hcy,hco⟩:=T6;have vD:fh im loc (EO (S i).env args) (as.toList.map a.eval):=nB (fun y hy=>RX y (by simp [k7.fA,hy])) hco
    have hy:=RX y (by simp [k7.fA]) (.tmp t) hcy
    simp only [xD] at gx;split at gx
    · rename_i f p q T7
      rw [T7] at hy;generalize hgv:a.eval (.tmp t)=gv at hy;cases hy with
      |eV _ _ _ us vs h1 h2=>
      have lf:=(h1.append vD).append h2;have cy:(execOp a.eval o).run P w=(callFunc f ⟨us++as.toList.map a.eval++vs⟩).run P w:=by
       have:(⟨us++as.toList.map a.eval++vs⟩:Array Value)=(⟨us⟩++as.map a.eval)++⟨vs⟩:=by apply amm;simp
       rw [this];simp [execOp,Tq,resolve,hgv,Deferred.ofValue,invoke]
      split at gx
      · exact Lx gx lf cy
      rw [F0s] at gx
      obtain ⟨r,Qd,NQ⟩:=gx;exact Fl NQ.symm Qd lf cy
    cases gx
   |_=>
    rw [WT] at gx;simp only [xD,F0s] at gx;obtain ⟨r,Qd,NQ⟩:=gx;exact agm NQ.symm (by rw [WT];exact Qd)
 rw [H6 hg hgs hw]
 simp only [PP,if_false];exact hK _ _ _ _ (tC▸hv.step_skip hr ho hp hx hX hS hd)
end
end Go.Vm
/- A region, in the order of the text or in a drawn one. -/
namespace Go.Vm
def vH (P:Program) (prims:FuncId->Bool) (nt:Nat) (iT:Array Oper):List bU->List Oper->Bool
 | [],[]=>amD
 |x::xs,o::os=>rJ P prims nt iT x o&&vH P prims nt iT xs os
 |_,_=>amE
theorem BA {P:Program} {prims:FuncId->Bool} {nt:Nat} {iT:Array Oper}: ∀{xs:List bU} {os:List Oper},vH P prims nt iT xs os=amD->
 (amw xs)=amw os/\ ∀(i:Nat) (x:bU) (o:Oper),xs[i]? =amB x->os[i]? =amB o->rJ P prims nt iT x o=amD
 | [],[],_=>⟨rfl,fun i x o h=>by simp at h⟩
 |x::xs,o::os,h=>by
  simp only [vH,ut] at h;obtain ⟨h1,h2⟩:=BA h.2;refine ⟨by simp [h1],fun i y p hy hp=>?_⟩
  cases i with
  |zero=>simp at hy hp;subst hy hp;exact h.1
  |succ i=>exact h2 i y p (by simpa using hy) (by simpa using hp)
 | [],_::_,h=>by simp [vH] at h
 |_::_,[],h=>by simp [vH] at h
def bit (m i:Nat):Bool:=Nat.testBit m i
def nD (jo:List Nat) (j:Nat):List Edge->Option Nat
 | []=>amB 0
 |e::es=>match nD jo j es with
  |some m=>if Region.binds .any e then (if afx e.on j then amB (m|||((jo.getD e.on 0)|||(1<<<e.on))) else amC) else amB m
  |none=>amC
def vI (jo:List Nat):Nat->List Nat->List Oper->Bool
 |_,[],[]=>amD
 |j,m::ms,o::os=>(match nD jo j o.after.toList with|some m'=>m==m'|none=>amE)&&vI jo (j+1) ms os
 |_,_,_=>amE
def vJ (i : Nat) (x : bU) (ux : List Nat) : List bU -> List Nat -> Bool
  | [], _ => amD
  | y :: ys, m :: ms => (bit m i || ((match x.dst with
      | some d => !has (aA y) d && (match y.dst with | some d' => !(AC d d') | none => amD)
      | none => amD) && (match y.dst with | some d => !has ux d | none => amD))) && vJ i x ux ys ms
  | _ :: _, [] => amE
def vK:Nat->List bU->List Nat->Bool
 |_,[],_=>amD
 |i,x::xs,_::ms=>vJ i x (aA x) xs ms&&vK (i+1) xs ms
 |_,_::_,[]=>amE
def CW (P:Program) (prims:FuncId->Bool) (nt:Nat) (draw:Option (List Nat)) (agn:List bU) (iT:Array Oper) (flag:Bool):Bool:=
 vH P prims nt iT agn iT.toList&&match draw with
 |none=>!flag
 |some bf=>flag&&AC (amw bf) (amw agn)&&vI bf 0 bf iT.toList&&vK 0 agn bf
section
variable {P : Program} {F : m8} {rec : Task -> Option Out} {ops : List bU} {S : Nat -> St} {X : Nat -> Option XR} {xR : Nat -> Nat -> Prop} {im0 : Im} {loc0 : Loc} {w0 : World} {nt : Nat}
  {done : Nat -> Prop} {im : Im} {loc : Loc} {a : Act} {w : World} {i : Nat} {prims : FuncId -> Bool} {iT : Array Oper}
theorem Ord.text:Ord ops S X (· < ·) where
 Fi:=fun _ _ _ _ _ h _ _ _ _=>h
 T0:=fun _ _ _ _ _ h _ _ _ _=>h
 Oe:=fun _ _ _ h _ _ _=>h
 agc:=fun _ _ _ h _ _ _=>h
 age:=fun _ _ _ h _ _ _ _ _ _=>h
 K3:=fun _ _ h _ _=>h
 cl:=fun _ _ _ _ _=> .inr fun _ h _=>h
theorem Fm (hE:JA P F rec) (hr:yh F rec ops S X) (hc: ∀(i:Nat) (x:bU) (o:Oper),ops[i]? =amB x->iT[i]? =amB o->rJ P prims nt iT x o=amD) (cY:(amw ops)=iT.size)
 {Q:Exit->Act->World->Prop} (hQ: ∀im loc a w,Inv ops S X im0 loc0 w0 nt (fun i=>i<amw ops) im loc a w->Q .normal a w):
 ∀(d n:Nat) (im:Im) (loc:Loc) (a:Act) (w:World),n+d=amw ops->Inv ops S X im0 loc0 w0 nt (fun i=>i<n) im loc a w->wpOps P iT Q (List.range' n d) a w
 |0,n,im,loc,a,w,hn,hv=>by
  have:n=(amw ops):=by omega
  subst this;exact hQ im loc a w hv
 |d+1,n,im,loc,a,w,hn,hv=>by
  rw [List.range'_succ,wpOps_cons];have hx:=v6 (show n<(amw ops) by omega)
  have ho:=afW (show n<iT.size by omega)
  refine Inv.wpOp hE hr Ord.text hv {lt:=by omega,nd:=by omega,pre:=fun j _ h=>h,eV:=fun k _ h1 j _ h2=>by omega} hx ho (hc n _ _ hx ho) fun eH bn a' w' h'=>?_
  refine Fm hE hr hc cY hQ d (n+1) eH bn a' w' (by omega) ?_
  have e:plus (fun i=>i<n) n=fun i=>i<n+1:=by
   funext j;unfold plus;apply propext;omega
  rw [e] at h';exact h'
def Xq (jo:List Nat) (i j:Nat):Prop:=bit (jo.getD j 0) i=amD
theorem wE {jo:List Nat} {j:Nat}: ∀{es:List Edge} {m:Nat},nD jo j es=amB m->(∀e∈es,Region.binds .any e=amD->e.on<j)/\
 ∀i,bit m i=amD-> ∃e∈es,Region.binds .any e=amD/\(e.on=i\/bit (jo.getD e.on 0) i=amD)
 | [],m,h=>by
  simp only [nD,ww] at h;subst h;exact ⟨fun e h=>(by cases h),fun i h=>by simp [bit] at h⟩
 |e::es,m,h=>by
  simp only [nD] at h;split at h
  · rename_i m' CU
    obtain ⟨h1,h2⟩:=wE CU;split at h
    · rename_i hb
      split at h
      · rename_i dM
        injection h with h;subst h;refine ⟨fun e' Cw Bf=>?_,fun i hi=>?_⟩
        · rcases afj.1 Cw with rfl|Cw
          · simpa using dM
          exact h1 e' Cw Bf
        simp only [bit,Nat.testBit_or,agy] at hi
        rcases hi with hi|hi|hi
        · obtain ⟨e',Cw,h3⟩:=h2 i hi
          exact ⟨e',afy _ Cw,h3⟩
        · exact ⟨e,by simp,hb,.inr hi⟩
        refine ⟨e,by simp,hb,.inl ?_⟩
        rw [Nat.one_shiftLeft,Nat.testBit_two_pow] at hi;simpa using hi
      cases h
    rename_i hb
    injection h with h;subst h;refine ⟨fun e' Cw Bf=>?_,fun i hi=>?_⟩
    · rcases afj.1 Cw with rfl|Cw
      · exact absurd Bf hb
      exact h1 e' Cw Bf
    obtain ⟨e',Cw,h3⟩:=h2 i hi
    exact ⟨e',afy _ Cw,h3⟩
  cases h
theorem DM {jo:List Nat}: ∀{j:Nat} {ms:List Nat} {os:List Oper},vI jo j ms os=amD->amw ms=amw os/\
 ∀(k:Nat) (m:Nat) (o:Oper),ms[k]? =amB m->os[k]? =amB o->nD jo (j+k) o.after.toList=amB m
 |j,[],[],_=>⟨rfl,fun k m o h=>by simp at h⟩
 |j,m::ms,o::os,h=>by
  simp only [vI,ut] at h;obtain ⟨h1,h2⟩:=h;obtain ⟨h3,h4⟩:=DM h2;refine ⟨by simp [h3],fun k m' o' hm ho=>?_⟩
  cases k with
  |zero=>
   simp at hm ho;subst hm ho;split at h1
   · rename_i m2 N7
     have:m=m2:=by simpa using h1
     subst this;exact N7
   cases h1
  |succ k=>
   have:=h4 k m' o' (by simpa using hm) (by simpa using ho)
   rw [show j+(k+1)=j+1+k by omega];exact this
 |j,[],_::_,h=>by simp [vI] at h
 |j,_::_,[],h=>by simp [vI] at h
theorem BB {i:Nat} {x:bU} {ux:List Nat}: ∀{ys:List bU} {ms:List Nat},vJ i x ux ys ms=amD-> ∀(k:Nat) (y:bU),ys[k]? =amB y->
 bit (ms.getD k 0) i=amD\/((∀d,x.dst=amB d->d∉aA y/\y.dst≠amB d)/\ ∀d,y.dst=amB d->d∉ux)
 | [],_,_,k,y,h=>by simp at h
 |z::ys,[],h,k,y,hy=>by simp [vJ] at h
 |z::ys,m::ms,h,k,y,hy=>by
  simp only [vJ,ut,agy] at h;obtain ⟨h1,h2⟩:=h;cases k with
  |succ k=>simpa using BB h2 k y (by simpa using hy)
  |zero=>
   simp at hy;subst hy;rcases h1 with h1|⟨h1,h3⟩
   · exact .inl (by simpa using h1)
   refine .inr ⟨fun d hd=>?_,fun d hd=>?_⟩
   · rw [hd] at h1
     simp only [ut,UV] at h1;refine ⟨jE.1 h1.1,fun hz=>?_⟩
     rw [hz] at h1;simp at h1
   rw [hd] at h3
   simp only [UV] at h3;exact jE.1 h3
theorem yj: ∀{i0:Nat} {xs:List bU} {ms:List Nat},vK i0 xs ms=amD-> ∀(i j:Nat) (x y:bU),i<j->xs[i]? =amB x->xs[j]? =amB y->
 bit (ms.getD j 0) (i0+i)=amD\/((∀d,x.dst=amB d->d∉aA y/\y.dst≠amB d)/\ ∀d,y.dst=amB d->d∉aA x)
 |i0,[],_,_,i,j,x,y,_,hx,_=>by simp at hx
 |i0,z::xs,[],h,i,j,x,y,_,hx,_=>by simp [vK] at h
 |i0,z::xs,m::ms,h,i,j,x,y,lq,hx,hy=>by
  simp only [vK,ut] at h;obtain ⟨h1,h2⟩:=h;cases j with
  |zero=>omega
  |succ j=>
   cases i with
   |zero=>
    simp at hx;subst hx;simpa using BB h1 j y (by simpa using hy)
   |succ i=>
    have:=yj h2 i j x y (by omega) (by simpa using hx) (by simpa using hy)
    rw [show i0+(i+1)=i0+1+i by omega]
    simpa using this
theorem H7 {i:Nat} {t:Tr}: ∀{l:List (Tr×Nat)},Jc i t l=amD-> ∀(k:Nat) (b:Tr) (m:Nat),l[k]? =amB (b,m)->t.vt b=amD->bit m i=amD
 | [],_,k,b,m,h,_=>by simp at h
 |(b',m')::r,h,k,b,m,hk,hc=>by
  simp only [Jc,ut,agy,UV] at h;cases k with
  |zero=>
   simp at hk;obtain ⟨rfl,rfl⟩:=hk;rcases h.1 with h1|h1
   · rw [hc] at h1;cases h1
   exact h1
  |succ k=>exact H7 h.2 k b m (by simpa using hk) hc
theorem Fo: ∀{i0:Nat} {l:List (Tr×Nat)},rG i0 l=amD->(∀(i:Nat) (t:Tr) (m:Nat),l[i]? =amB (t,m)->t.cl=amD)/\
 ∀(i j:Nat) (t b:Tr) (m m':Nat),i<j->l[i]? =amB (t,m)->l[j]? =amB (b,m')->t.vt b=amD->bit m' (i0+i)=amD
 |_,[],_=>⟨fun i t m h=>by simp at h,fun i j t b m m' _ h=>by simp at h⟩
 |i0,(t0,m0)::r,h=>by
  simp only [rG,ut] at h;obtain ⟨⟨h1,h2⟩,h3⟩:=h;obtain ⟨h4,h5⟩:=Fo h3;refine ⟨fun i t m hi=>?_,fun i j t b m m' lq hi hj hc=>?_⟩
  · cases i with
    |zero=>simp at hi;obtain ⟨rfl,rfl⟩:=hi;exact h1
    |succ i=>exact h4 i t m (by simpa using hi)
  cases j with
  |zero=>omega
  |succ j=>
   cases i with
   |zero=>
    simp at hi;obtain ⟨rfl,rfl⟩:=hi;exact H7 h2 j b m' (by simpa using hj) hc
   |succ i=>
    rw [show i0+(i+1)=i0+1+i by omega]
    exact h5 i j t b m m' (by omega) (by simpa using hi) (by simpa using hj) hc
theorem Fp {l m:List Nat} {t:Nat} (h1:t∈l) (h2:t∈m):meets l m=amD:=by
 unfold meets;rw [am4];exact ⟨t,h1,pM.2 h2⟩
theorem Ord.drawn (hr : yh F rec ops S X) {jo : List Nat} (KU : (amw jo) = (amw ops)) (hs : vK 0 ops jo = amD) (ho : rG 0 ((zV S X (amw ops)).zip jo) = amD) : Ord ops S X (Xq jo) := by
  obtain ⟨Bg, hcz⟩ := Fo ho
  have Eb : ∀ i, i < (amw ops) -> ((zV S X (amw ops)).zip jo)[i]? = amB (zN (X i) (S i), jo.getD i 0) := by
    intro i hi
    rw [List.getElem?_zip_eq_some]
    refine ⟨?_, ?_⟩
    · unfold zV; simp [hi]
    rw [afM, v6 (by omega)]; rfl
  have vt : ∀ i j, i < j -> j < (amw ops) -> (zN (X i) (S i)).vt (zN (X j) (S j)) = amD -> Xq jo i j := by
    intro i j lq hj hc
    have := hcz i j _ _ _ _ lq (Eb i (by omega)) (Eb j hj) hc
    unfold Xq; simpa using this
  have tch : ∀ j, gT X j -> (zN (X j) (S j)).gT = amD := by
    intro j h
    unfold gT at h
    unfold zN
    cases hX : X j with
    | none => rw [hX] at h; exact h.elim
    | some x =>
      rw [hX] at h
      cases x with
      | shr v s z => rfl
      | loc r =>
        simp only [XR.tr, Tr.gT, Bool.or_false]
        rcases h with h | h | h | h
        · cases Hr : r.rd with
          | nil => exact absurd Hr h
          | cons _ _ => simp
        · cases Hr : r.fr with
          | nil => exact absurd Hr h
          | cons _ _ => simp
        · cases Hr : r.wr with
          | nil => exact absurd Hr h
          | cons _ _ => simp
        cases Hr : r.news with
        | nil => exact absurd Hr h
        | cons _ _ => simp
  have brr : ∀ j, rB X j -> (zN (X j) (S j)).K3 = amD := by
    rintro j ⟨v, s, z, h⟩; rw [h]; rfl
  have tW : ∀ j t, W X j t -> gT X j := fun j t h => wC h
  have tA : ∀ j t, A X j t -> gT X j := by
    intro j t h
    unfold A at h; unfold gT
    cases hX : X j with
    | none => rw [hX] at h; exact h.elim
    | some x =>
      rw [hX] at h
      cases x with
      | shr v s z => exact h.elim
      | loc r =>
        rcases h with h | h
        · exact .inl (by intro e; rw [e] at h; cases h)
        exact .inr (.inl (by intro e; rw [e] at h; cases h))
  have K3 : ∀ i j, i < j -> j < (amw ops) -> (rB X i /\ gT X j \/ gT X i /\ rB X j) -> Xq jo i j := by
    intro i j lq hj h
    refine vt i j lq hj ?_
    unfold Tr.vt
    rcases h with ⟨h1, h2⟩ | ⟨h1, h2⟩
    · rw [brr i h1, tch j h2]; simp
    rw [brr j h2, tch i h1]; simp
  have wrT : ∀ j t, W X j t -> ¬ rB X j -> t ∈ (zN (X j) (S j)).wr := by
    intro j t h hn
    unfold W at h
    cases hX : X j with
    | none => rw [hX] at h; exact h.elim
    | some x =>
      rw [hX] at h
      cases x with
      | shr v s z => exact absurd ⟨v, s, z, hX⟩ hn
      | loc r =>
        obtain ⟨k, hk⟩ := h
        exact List.mem_map.2 ⟨(t, k), hk, rfl⟩
  have rdT : ∀ j t, A X j t -> t ∈ (zN (X j) (S j)).rd := by
    intro j t h
    unfold A at h
    cases hX : X j with
    | none => rw [hX] at h; exact h.elim
    | some x =>
      rw [hX] at h
      cases x with
      | shr v s z => exact h.elim
      | loc r => exact adm.2 h
  exact {
    Fi := fun i j t x y lq hx hy hd hu => by
      rcases yj hs i j x y lq hx hy with h | ⟨h, _⟩
      · unfold Xq; simpa using h
      rcases hu with hu | hu
      · exact absurd hu (h t hd).1
      exact absurd hu (h t hd).2
    T0 := fun i j t x y lq hx hy hd hu => by
      rcases yj hs i j x y lq hx hy with h | ⟨_, h⟩
      · unfold Xq; simpa using h
      exact absurd hu (h t hd)
    Oe := fun i j t lq hj hW hAW => by
      by_cases hi : rB X i
      · exact K3 i j lq hj (.inl ⟨hi, hAW.elim (tA j t) (tW j t)⟩)
      by_cases RU : rB X j
      · exact K3 i j lq hj (.inr ⟨tW i t hW, RU⟩)
      refine vt i j lq hj ?_
      unfold Tr.vt
      rcases hAW with h | h
      · rw [Fp (wrT i t hW hi) (rdT j t h)]; simp
      rw [Fp (wrT i t hW hi) (wrT j t h RU)]; simp
    agc := fun i j t lq hj hA hW => by
      by_cases RU : rB X j
      · exact K3 i j lq hj (.inr ⟨tA i t hA, RU⟩)
      refine vt i j lq hj ?_
      unfold Tr.vt
      rw [Fp (rdT i t hA) (wrT j t hW RU)]; simp
    age := fun i j t lq hj Xj h1 h2 RU hW => by
      refine vt i j lq hj ?_
      unfold Tr.vt
      have : ((zN (X j) (S j)).wr.any fun t => ae3 (zN (X i) (S i)).lo t && afx t (zN (X i) (S i)).hi) = amD := by
        rw [am4]
        refine ⟨t, wrT j t hW RU, ?_⟩
        rcases hr.steps i _ (v6 (show i < (amw ops) by omega)) with ⟨_, x, hx, _, hX, hn⟩ | ⟨_, hX, hn⟩
        · cases x with
          | shr v s z => exact absurd ⟨v, s, z, hX⟩ Xj
          | loc r =>
            rw [hn, wD] at h2
            rw [hX]
            simp only [zN, XR.tr, ut, afg]
            exact ⟨h1, by simpa using h2⟩
        rw [hn] at h2; dsimp only at h2; omega
      rw [this]; simp
    K3 := K3
    cl := fun i t hi Xj hAW => by
      left
      have hc := Bg i _ _ (Eb i hi)
      cases hX : X i with
      | none => rcases hAW with h | h
                · unfold A at h; rw [hX] at h; exact h.elim
                unfold W at h; rw [hX] at h; exact h.elim
      | some x =>
        cases x with
        | shr v s z => exact absurd ⟨v, s, z, hX⟩ Xj
        | loc r =>
          have hb : ∀ u v : Nat, afx u v = amD -> u < v := fun u v h => by simpa using h
          rw [hX] at hc
          simp only [zN, XR.tr, ut, ae4] at hc
          rcases hAW with h | h
          · unfold A at h; rw [hX] at h
            exact hb _ _ (hc.1 t (adm.2 h))
          unfold W at h; rw [hX] at h
          obtain ⟨k, hk⟩ := h
          exact hb _ _ (hc.2 (t, k) hk) }
end
end Go.Vm
/- A region: the theorem. -/
namespace Go.Vm
section
variable {P : Program} {F : m8} {rec : Task -> Option Out} {ops : List bU} {S : Nat -> St} {X : Nat -> Option XR} {im0 : Im} {loc0 : Loc} {w0 : World} {nt : Nat}
  {im : Im} {loc : Loc} {a : Act} {w : World} {i : Nat} {prims : FuncId -> Bool} {iT : Array Oper} {jo : List Nat}
def kr (l:Array Bool) (i:Nat):Prop:=l.getD i amE=amD
theorem Ly (hE:JA P F rec) (hr:yh F rec ops S X) (ho:Ord ops S X (Xq jo)) (hc: ∀(i:Nat) (x:bU) (o:Oper),ops[i]? =amB x->iT[i]? =amB o->rJ P prims nt iT x o=amD) (cY:(amw ops)=iT.size)
 (hm: ∀(k:Nat) (o:Oper),iT[k]? =amB o->nD jo k o.after.toList=amB (jo.getD k 0))
 {Q:Exit->Act->World->Prop} (hQ: ∀im loc a w (done:Nat->Prop),(∀i,i<amw ops->done i)->Inv ops S X im0 loc0 w0 nt done im loc a w->Q .normal a w):
 ∀(AG:Nat) (l:Array Bool) (im:Im) (loc:Loc) (a:Act) (w:World),l.size=amw ops->AG+l.toList.count amD=amw ops->(∀k j,kr l k->Xq jo j k->kr l j)->
  Inv ops S X im0 loc0 w0 nt (kr l) im loc a w->wpAny P .any iT Q AG l a w:=by
 have full: ∀l:Array Bool,l.size=amw ops->Region.ready .any iT l=[]-> ∀i,i<amw ops->kr l i:=by
  intro l hl Hw i
  induction i using Nat.strongRecOn with
  |_ i ih=>
   intro hi
   by_cases h:kr l i
   · exact h
   exfalso
   have zM:i∈Region.ready .any iT l:=by
    rw [mem_ready];have ho:=afW (show i<iT.size by omega)
    refine ⟨?_,_,ho,fun e he hb=>?_⟩
    · unfold kr at h
      have dM:i<l.size:=by omega
      simp [dM] at h ⊢;exact h
    have:=(wE (hm i _ ho)).1 e (by simpa using he) hb
    exact ih e.on this (by omega)
   rw [Hw] at zM;cases zM
 intro AG
 induction AG with
 |zero=>
  intro l im loc a w hl anL Xr hv;have rI: ∀b∈l.toList,amD=b:=by
   have:l.toList.count amD=(amw l.toList):=by simp only [Array.length_toList];omega
   exact List.count_eq_length.1 this
  have Qe: ∀i,i<amw ops->kr l i:=by
   intro i hi;have dM:i<l.size:=by omega
   have:=rI (l[i]) (by simp)
   unfold kr;simp [dM,<- this]
  refine ⟨?_,hQ im loc a w _ Qe hv⟩;cases Hr:Region.ready .any iT l with
  |nil=>rfl
  |cons x xs=>
   exfalso;have zM:x∈Region.ready .any iT l:=by rw [Hr];simp
   obtain ⟨h0,o,hox,_⟩:=mem_ready.1 zM;have dM:=(NE.1 hox).1
   have:=Qe x (by omega)
   unfold kr at this;have Lz:x<l.size:=by omega
   simp [Lz] at this h0;rw [this] at h0;cases h0
 |succ AG ih=>
  intro l im loc a w hl anL Xr hv;refine ⟨fun Hw=>hQ im loc a w _ (full l hl Hw) hv,fun i hi=>?_⟩
  obtain ⟨h0,o,hox,rI⟩:=mem_ready.1 hi;have dM:=(NE.1 hox).1;have Lz:i<l.size:=by omega
  have hx:=v6 (show i<(amw ops) by omega)
  have anM: ∀j,Xq jo j i->kr l j:=by
   intro j hj;obtain ⟨e,he,hb,h⟩:=(wE (hm i o hox)).2 j hj;have ly:kr l e.on:=rI e (by simpa using he) hb
   rcases h with rfl|h
   · exact ly
   exact Xr _ _ ly h
  have Hl: ¬kr l i:=by
   unfold kr;simp [Lz] at h0 ⊢;exact h0
  refine Inv.wpOp hE hr ho hv {lt:=by omega,nd:=Hl,pre:=fun j _ h=>anM j h,eV:=fun k _ h1 j _ h2=>Xr k j h1 h2} hx hox (hc i _ _ hx hox) fun eH bn a' w' h'=>?_
  have e:plus (kr l) i=kr (l.setIfInBounds i amD):=by
   funext j
   apply propext;unfold plus kr
   by_cases lq:i=j
   · subst lq;simp [Lz]
   simp only [getD_set_ne amE lq]
   exact ⟨fun h=>h.elim id fun h=>absurd h.symm lq,.inl⟩
  rw [e] at h';refine ih _ eH bn a' w' (by simpa using hl) ?_ ?_ h'
  · rw [Array.toList_setIfInBounds,List.count_set (by simpa using Lz)]
    have:l.toList[i]=amE:=by simp [Lz] at h0;simpa using h0
    rw [this];simp only [Array.count_toList] at anL ⊢;simp;omega
  intro k j hk hj
  rw [<- e] at hk ⊢;rcases hk with hk|rfl
  · exact .inl (Xr k j hk hj)
  exact .inl (anM j hj)
theorem ER.fU {st:Env} {fU:List Nat} (h:ER im loc st a.tmps):ER im loc (fU.map fun s=>(s,lk s st)) a.tmps:=by
 intro t
 have:lk t (fU.map fun s=>(s,lk s st))=lk t st\/lk t (fU.map fun s=>(s,lk s st))= .undef:=by
  induction fU with
  |nil=>exact .inr rfl
  |cons s r ih=>
   simp only [List.map_cons,rH];split
   · rename_i e;subst e;exact .inl rfl
   exact ih
 rcases this with h'|h'
 · rw [h'];exact h t
 rw [h'];exact .undef _
structure xH (im:Im) (loc:Loc) (nt:Nat) (st:St) (a:Act):Prop where
 env:ER im loc st.env a.tmps
 defers:a.defers=[]
 NP:a.tmps.size=nt
theorem Kept.world {jd : cL} {st : St} {w1 : World} (h : Kept im0 loc0 jd w1 st im loc w) (hh : w1.heap = w0.heap) (ho : w1.os = w0.os) (ht : w1.tape = w0.tape) (hp : w1.output = w0.output) : Kept im0 loc0 jd w0 st im loc w :=
  { sr := h.sr, gH := h.gH, dV := h.dV, os := h.os.trans ho, tape := h.tape.trans ht, output := h.output.trans hp, size := by have := h.size; rw [hh] at this; exact this
    frame := by have := h.frame; rw [hh] at this; exact this
    eg := by have := h.eg; rw [hh] at this; exact this
    nR := h.nR
    own := by have := h.own; rw [hh] at this; exact this }
theorem SR.world {aD:cL} {fz:List Nat} {w1:World} (h:SR im loc aD fz w) (hh:w1.heap=w.heap):SR im loc aD fz w1 where
 bH:=by rw [hh];exact h.bH
 dh:=fun t li hl=>let ⟨k,h1,h2⟩:=h.dh t li hl;⟨k,h1,h2.mono (.refl _) (.refl _) (by rw [hh])⟩
 iM:=h.iM
 free:=h.free
theorem Og (hE:JA P F rec) (qv:P.follows .mixedOrders=amD) {draw:Option (List Nat)} {fU:List Nat} {id:Nat} {flag:Bool} {st kU:St}
 (hc:CW P prims nt draw ops iT flag=amD) (gx:lz F rec draw ops fU st=amB kU) (kM:SR im0 loc0 st.aD st.fz w0) (ha:xH im0 loc0 nt st a) {Q:Exit->Act->World->Prop}
 (hQ: ∀im loc a' w',Kept im0 loc0 st.aD w0 kU im loc w'->xH im loc nt kU a'->Q .normal a' w'):(Code.region id iT flag).wp P Q a w0:=by
 unfold CW at hc;simp only [ut] at hc;obtain ⟨RY,hd⟩:=hc;obtain ⟨cY,Xs⟩:=BA RY;have cY:(amw ops)=iT.size:=by simpa using cY
 have Xs: ∀(i:Nat) (x:bU) (o:Oper),ops[i]? =amB x->iT[i]? =amB o->rJ P prims nt iT x o=amD:=fun i x o hx ho=>Xs i x o hx (by simpa using ho)
 unfold lz at gx;cases he:mD F rec ops st [] with
 |none=>rw [he] at gx;cases gx
 |some q=>
  obtain ⟨ob,tr⟩:=q;rw [he] at gx;dsimp only at gx;obtain ⟨S,X,h0,hn,hr,htr⟩:=CT ops st [] ob tr he;have fin: ∀(w1:World),w1.heap=w0.heap->w1.os=w0.os->w1.tape=w0.tape->w1.output=w0.output->kU={ob with env:=fU.map fun s=>(s,lk s ob.env)}-> ∀im loc a' w' (done:Nat->Prop),(∀i,i<amw ops->done i)->
   Inv ops S X im0 loc0 w1 nt done im loc a' w'->Q .normal a' w':=by
   intro w1 q1 q2 q3 q4 cq im loc a' w' done hdn hv;obtain ⟨hk,her,hdf,hns⟩:=hv.finish hr hdn;rw [hn] at hk her;rw [h0] at hk;subst cq;have hk:=hk.world q1 q2 q3 q4;exact hQ im loc a' w' {sr:=hk.sr,gH:=hk.gH,dV:=hk.dV,os:=hk.os,tape:=hk.tape,output:=hk.output,size:=hk.size,frame:=hk.frame,eg:=hk.eg,nR:=hk.nR,own:=hk.own} ⟨her.fU,hdf,hns⟩
  cases draw with
  |none=>
   dsimp only at hd gx
   have:flag=amE:=by simpa using hd
   subst this;injection gx with gx;refine wp_region ?_;rw [List.range_eq_range'];refine Fm hE hr Xs cY (fun im loc a w hv=>fin w0 rfl rfl rfl rfl gx.symm im loc a w _ (fun i h=>h) hv) iT.size 0 im0 loc0 a w0 (by omega) ?_
   have:=Inv.start (ops:=ops) (X:=X) (w0:=w0) h0 kM ha.env ha.defers ha.NP hr
   have e:(fun _:Nat=>False)=fun i=>i<0:=by funext i;apply propext;exact ⟨fun h=>h.elim,fun h=>by omega⟩
   rw [e] at this;exact this
  |some bf=>
   dsimp only at hd gx;simp only [ut] at hd;obtain ⟨⟨⟨rfl,hbl⟩,hmk⟩,WR⟩:=hd;have hbl:(amw bf)=(amw ops):=by simpa using hbl
   split at gx
   · rename_i Tq
     injection gx with gx;have asm:tr.reverse=zV S X (amw ops):=by rw [htr];simp
     rw [asm] at Tq;obtain ⟨_,hmk⟩:=DM hmk;refine wp_region_any qv ?_;refine Ly (w0:={w0 with drawn:=w0.drawn+1}) (im0:=im0) (loc0:=loc0) hE hr (Ord.drawn hr hbl WR Tq) Xs cY ?_ (fun im loc a w done hdn hv=>fin {w0 with drawn:=w0.drawn+1} rfl rfl rfl rfl gx.symm im loc a w done hdn hv) iT.size _ im0 loc0 a _ (by simp [cY]) ?_ ?_ ?_
     · intro k o ho
       have dM:=(NE.1 ho).1;have hk:bf[k]? =amB (bf.getD k 0):=by
        rw [afM,v6 (by omega)];rfl
       simpa using hmk k _ o hk (by simpa using ho)
     · simp [cY,List.count_replicate]
     · intro k j h
       unfold kr at h
       by_cases hk:k<iT.size<;>simp [hk] at h
     have:=Inv.start (ops:=ops) (X:=X) (w0:={w0 with drawn:=w0.drawn+1}) h0 (kM.world rfl) ha.env ha.defers ha.NP hr
     have e:(fun _:Nat=>False)=kr (afa iT.size amE):=by
      funext i;apply propext
      unfold kr
      by_cases hk:i<iT.size<;>simp [hk]
     rw [e] at this;exact this
   cases gx
end
end Go.Vm
/- What a function keeps from its beginning on; the head of a loop. -/
namespace Go.Vm
theorem Kept.trans {im0 Es Et:Im} {loc0 dm qZ:Loc} {jd:cL} {w0 w1 w2:World} {ob D':St} (h1:Kept im0 loc0 jd w0 ob Es dm w1) (h2:Kept Es dm ob.aD w1 D' Et qZ w2) (hl:(amw jd)<=amw ob.aD):
 Kept im0 loc0 jd w0 D' Et qZ w2 where
 sr:=h2.sr
 gH:=h1.gH.trans h2.gH
 dV:=h1.dV.trans h2.dV
 os:=h2.os.trans h1.os
 tape:=h2.tape.trans h1.tape
 output:=h2.output.trans h1.output
 size:=adc h1.size h2.size
 frame:=fun b hb hh=>by
  rw [h2.frame b (afb hb h1.size) fun t li k hl hs mc Tp=>?_]
  · exact h1.frame b hb hh
  rcases h1.own t li k hl hs mc with h|⟨u,lu,ku,g1,g2,g3,g4⟩
  · omega
  exact hh u lu ku g1 g2 g3 (by omega)
 eg:=fun b o hb=>by
  rcases h2.eg b o hb with h|h|⟨t,li,k,g1,g2,g3,g4⟩
  · exact h1.eg b o h
  · exact .inr (.inl (adc h1.size h))
  rcases h1.own t li k g1 g2 g3 with h|⟨u,lu,ku,k1,k2,k3,k4⟩
  · exact .inr (.inl (by omega))
  exact .inr (.inr ⟨u,lu,ku,k1,k2,k3,by omega⟩)
 nR:=fun t li h=>by
  rcases h2.nR t li h with h|h
  · exact h1.nR t li h
  exact .inr (adc hl h)
 own:=fun t li k hl hs mc=>by
  rcases h2.own t li k hl hs mc with h|⟨u,lu,ku,g1,g2,g3,g4⟩
  · exact .inl (adc h1.size h)
  rcases h1.own u lu ku g1 g2 g3 with h|⟨u',lu',ku',k1,k2,k3,k4⟩
  · exact .inl (by omega)
  exact .inr ⟨u',lu',ku',k1,k2,k3,by omega⟩
structure zW (im0:Im) (loc0:Loc) (jd:cL) (w0:World) (st:St) (im:Im) (loc:Loc) (w:World):Prop where
 kept:Kept im0 loc0 jd w0 st im loc w
 kn:st.kn=amw jd
 len:(amw jd)<=amw st.aD
 dom: ∀t li,loc0 t=amB li->t<amw jd
theorem Fq {F:m8} {rec:Task->Option Out}: ∀(ops:List bU) (st:St) (tr:List Tr) (kU:St) (RW:List Tr),mD F rec ops st tr=amB (kU,RW)->kU.kn=st.kn
 | [],st,tr,kU,RW,h=>by simp only [mD,ww,IR] at h;rw [h.1]
 |o::l,st,tr,kU,RW,h=>by
  simp only [mD] at h;split at h
  · split at h
    · rename_i x hx
      split at h
      · have:=Fq l _ _ kU RW h
        rw [this];cases x<;>rfl
      cases h
    cases h
  · have:=Fq l _ _ kU RW h
    exact this
  cases h
theorem JB {F:m8} {rec:Task->Option Out} {draw:Option (List Nat)} {ops:List bU} {fU:List Nat} {st kU:St} (h:lz F rec draw ops fU st=amB kU):kU.kn=st.kn/\amw st.aD<=(amw kU.aD):=by
 unfold lz at h;cases he:mD F rec ops st [] with
 |none=>rw [he] at h;cases h
 |some q=>
  obtain ⟨ob,tr⟩:=q;rw [he] at h;dsimp only at h;obtain ⟨S,X,h0,hn,hr,_⟩:=CT ops st [] ob tr he;have h1:=Fq ops st [] ob tr he;have h2:=hr.ik (ae5 (amw ops)) (If _);rw [h0,hn] at h2;cases draw with
  |none=>dsimp only at h;injection h with h;subst h;exact ⟨h1,h2⟩
  |some bf=>
   dsimp only at h;split at h
   · injection h with h;subst h;exact ⟨h1,h2⟩
   cases h
section
variable {im : Im} {loc dm : Loc} {m : List Nat}
theorem LA {fz:List Nat}: ∀{l:List Nat} {i0 u t:Nat},l[u]? =amB t->(i0+u)∉xZ fz i0 l->t∉fz
 | [],i0,u,t,h,_=>by simp at h
 |s::r,i0,u,t,h,hn=>by
  simp only [xZ] at hn;cases u with
  |zero=>
   simp at h;subst h;intro hf;rw [pp (pM.2 hf)] at hn;exact hn (by simp)
  |succ u=>
   refine LA (l:=r) (i0:=i0+1) (u:=u) (by simpa using h) fun zM=>?_
   rw [show i0+(u+1)=i0+1+u by omega] at hn
   split at hn
   · exact hn (afy _ zM)
   exact hn zM
theorem Fs {aD:cL}: ∀{n:Nat} {ts seen:List Nat} {m:List Nat},reach aD n ts seen=amB m->(∃l,m=seen++l)/\(seen.Nodup->m.Nodup)
 |_,[],seen,m,h=>by
  have h:amB seen=amB m:=by rw [<- h];unfold reach;cases ‹Nat› <;>rfl
  injection h with h;subst h;exact ⟨⟨[],by simp⟩,id⟩
 |0,_::_,seen,m,h=>by simp [reach] at h
 |n+1,t::ts,seen,m,h=>by
  simp only [reach] at h;split at h
  · exact Fs h
  rename_i hn
  split at h
  · obtain ⟨⟨l,hl⟩,h2⟩:=Fs h
    refine ⟨⟨t::l,by rw [hl];simp⟩,fun hd=>h2 ?_⟩
    rw [am1];refine ⟨hd,by simp,fun a ha b hb=>?_⟩
    have:b=t:=by simpa using hb
    subst this;intro e;subst e;exact hn (pM.2 ha)
  cases h
theorem LB: ∀{n i:Nat},i<n->(vq n)[i]? =amB i
 |n+1,i,h=>by
  have hl: ∀n,(vq n).length=n:=by
   intro n;induction n with
   |zero=>rfl
   |succ n ih=>simp [vq,ih]
  simp only [vq];rcases acl i n with h'|h'
  · rw [EQ (by rw [hl];exact h')];exact LB h'
  rw [M2 (by rw [hl];exact h'),hl]
  have:i=n:=by omega
  subst this;simp
theorem LC: ∀{n i:Nat},i∈vq n->i<n
 |n+1,i,h=>by
  simp only [vq,adm,ae9] at h;rcases h with h|h
  · have:=LC h;omega
  omega
theorem Ft: ∀n,(vq n).Nodup
 |0=>by simp [vq]
 |n+1=>by
  simp only [vq];rw [am1];refine ⟨Ft n,by simp,fun a ha b hb=>?_⟩
  have:=LC ha
  have:b=n:=by simpa using hb
  omega
end
end Go.Vm
/- The head of a loop. -/
namespace Go.Vm
def RZ (s2:cL):Prop:= ∀(j:Nat) (k:jW),s2[j]? =amB k-> ∃e,k= .arr e []
theorem VR.HT {im:Im} {loc:Loc} {x:PV} {u:Value} (h:VR im loc x u): ∀k:Option Nat,VR im loc (HT k x) u
 |none=>h
 |some _=>by
  cases h with
  |own t esz off len cap ex li a c7 hl he hn hc hx hk h=>exact .own t esz off len cap amE li a c7 hl he hn hc hx (fun h=>by cases h) h
  |undef=>exact .undef _
  |jA=>exact .jA
  |int k n=>exact .int k n
  |bool b=>exact .bool b
  |str s=>exact .str s
  |agg cs vs h=>exact .agg cs vs h
  |cw cs vs h=>exact .cw cs vs h
  |sl e c r a cap h1 h2 h3=>exact .sl e c r a cap h1 h2 h3
  |ptr t e r o li h1 h2 h3=>exact .ptr t e r o li h1 h2 h3
  |bJ cs off b o vs h hv=>exact .bJ cs off b o vs h hv
  |mp t li hl=>exact .mp t li hl
  |eV fn a b as bs ha hb=>exact .eV fn a b as bs ha hb
  |dU=>exact .dU
theorem AH {im:Im} {loc dm:Loc} {m:List Nat} {e:Env} {tmps:Array Value} (hm:Ren m loc dm) (he:ER im loc e tmps): ∀{live:List (Nat×Option Nat)} {nx:Nat} {e1:Env} {s2:cL},rD e m nx live=amB (e1,s2)->
 RZ s2/\((∀(j:Nat) (esz:Nat),s2[j]? =amB (.arr esz [])->dm (nx+j)=amB ⟨0,0,esz,0,0⟩)->ER im dm e1 tmps)
 | [],nx,e1,s2,h=>by
  simp only [rD,ww,IR] at h;obtain ⟨rfl,rfl⟩:=h;exact ⟨fun j k h=>by simp at h,fun _ t=> .undef _⟩
 |(s,k)::r,nx,e1,s2,h=>by
  have hs:=he s;simp only [rD] at h;split at h
  · rename_i esz e' vL
    rw [F0s] at h;obtain ⟨⟨e2,s3⟩,h1,h2⟩:=h;simp only [IR] at h2;obtain ⟨rfl,rfl⟩:=h2;obtain ⟨g1,g2⟩:=AH hm he h1;refine ⟨fun j k hj=>?_,fun hl t=>?_⟩
    · cases j with
      |zero=>simp at hj;exact ⟨_,hj.symm⟩
      |succ j=>exact g1 j k (by simpa using hj)
    rw [rH]
    split
    · rename_i e;subst e
      rw [vL] at hs;generalize hg:tmps.getD s Go.undef=v at hs;cases hs with
      |sl _ _ _ a cap h1 h2 h3=>
      have:cap=0:=by simpa using h2 rfl
      subst this;exact .own nx esz 0 0 0 amE ⟨0,0,esz,0,0⟩ a 0 (by simpa using hl 0 esz rfl) rfl (If _) (If _) (If _) (fun h=>by cases h) (.inl rfl)
    refine g2 (fun j asn hj=>?_) t
    have:=hl (j+1) asn (by simpa using hj)
    rw [show nx+1+j=nx+(j+1) by omega];exact this
  split at h
  · rename_i v' p h1 h2
    injection h with h;simp only [IR] at h;obtain ⟨rfl,rfl⟩:=h;obtain ⟨g1,g2⟩:=AH hm he (e1:=p.1) (s2:=p.2) h2;refine ⟨g1,fun hl t=>?_⟩
    rw [rH];split
    · rename_i e;subst e
      exact (Tw hm hs h1).HT _
    exact g2 hl t
  cases h
theorem fh.setAt {im:Im} {loc:Loc} {x:PV}: ∀{xs:List PV} {vs:List Value} {c:Nat} {y:PV},fh im loc xs vs->xs[c]? =amB y->(∀v,VR im loc y v->VR im loc x v)->fh im loc (xs.set c x) vs
 | [],_,c,y,h,hc,_=>by simp at hc
 |z::zs,vs,c,y,h,hc,hx=>by
  cases h with
  |cons _ v _ us g1 g2=>
   cases c with
   |zero=>simp at hc;subst hc;exact .cons _ _ _ _ (hx v g1) g2
   |succ c=>exact .cons _ _ _ _ g1 (fh.setAt g2 (by simpa using hc) hx)
theorem Oh {im0 im:Im} {loc0 loc:Loc} {jd:cL} {w0 w:World} {nt:Nat} {st:St} {a:Act} (t c esz:Nat) (hk:zW im0 loc0 jd w0 st im loc w) (ha:xH im loc nt st a):
 ∃dm,zW im0 loc0 jd w0 (rE st t c esz) im dm w/\xH im dm nt (rE st t c esz) a:=by
 unfold rE;split
 · rename_i cs hb
   split
   · rename_i e hc
     have sr:=hk.kept.sr;have anO: ∀u li,loc u=amB li->u<(amw st.aD):=fun u li h=>by obtain ⟨k,h1,_⟩:=sr.dh u li h;exact cO h1
     have hn:loc (amw st.aD)=amC:=by
      cases h:loc (amw st.aD) with
      |none=>rfl
      |some li=>exact absurd (anO _ _ h) (Nat.lt_irrefl _)
     let dm:Loc:=fun u=>if u=(amw st.aD) then amB ⟨0,0,esz,0,0⟩ else loc u
     have ly:mw loc dm:=fun u li h=>by
      have:=anO u li h
      simp only [dm,show u≠(amw st.aD) by omega,if_false];exact h
     have back: ∀u li,dm u=amB li->u≠amw st.aD->loc u=amB li:=fun u li h hu=>by
      simpa only [dm,hu,if_false] using h
     have Oi:t<(amw st.aD):=cO hb;have get: ∀u,u<amw st.aD->(st.aD.set t (.box (cs.set c (.own (amw st.aD) esz 0 0 0 amE)))++[.arr esz []])[u]? =if t=u then amB (.box (cs.set c (.own (amw st.aD) esz 0 0 0 amE))) else st.aD[u]?:=fun u hu=>by
      rw [EQ (by simpa using hu),am2]
      split
      · rename_i e;subst e;simp
      rfl
     have anP:(st.aD.set t (.box (cs.set c (.own (amw st.aD) esz 0 0 0 amE)))++[.arr esz []])[amw st.aD]? =amB (.arr esz []):=by
      rw [M2 (by simp)];simp
     have bM: ∀(u:Nat) (k:jW),(st.aD.set t (.box (cs.set c (.own (amw st.aD) esz 0 0 0 amE)))++[.arr esz []])[u]? =amB k->k.bM=amD->u≠amw st.aD/\ ∃k0:jW,st.aD[u]? =amB k0/\k0.bM=amD:=by
      intro u k hu hs;have dM:=cO hu;simp only [af3,am6,List.length_singleton] at dM;have ec:u≠(amw st.aD):=by
       intro e;subst e;rw [anP] at hu;injection hu with hu;subst hu;cases hs
      refine ⟨ec,?_⟩;rw [get u (by omega)] at hu
      split at hu
      · rename_i e;subst e;exact ⟨_,hb,rfl⟩
      exact ⟨k,hu,hs⟩
     refine ⟨dm,⟨⟨?_,hk.kept.gH,hk.kept.dV.trans ly,hk.kept.os,hk.kept.tape,hk.kept.output,hk.kept.size,hk.kept.frame,hk.kept.eg,fun u li h=>?_,fun u li k h hs mc=>?_⟩,hk.kn,?_,hk.dom⟩,⟨ha.env.mono (od.refl _) ly,ha.defers,ha.NP⟩⟩
     · refine {
        bH:=sr.bH
        dh:=fun u li hl=>?_
        iM:=fun u u' li lj k k' hl mC hs vA mc H4 hbk=>?_
        free:=fun u li k hl hs mc hz=>?_}
       · by_cases hu:u=amw st.aD
         · subst hu
           simp only [dm,if_true] at hl;injection hl with hl;subst hl;exact ⟨_,anP,rfl,rfl,fun h=>absurd rfl h⟩
         have KT:=back u li hl hu
         obtain ⟨k,h1,h2⟩:=sr.dh u li KT
         show∃k,(st.aD.set t (.box (cs.set c (.own (amw st.aD) esz 0 0 0 amE)))++[.arr esz []])[u]? =amB k/\BR im dm w li k
         rw [get u (cO h1)];split
         · rename_i et;subst et
           rw [hb] at h1;injection h1 with h1;subst h1;obtain ⟨g1,g2,g3,vs,el,g4,g5,g6⟩:=h2;refine ⟨_,rfl,by simpa using g1,g2,g3,vs,el,g4,g5,(g6.mono (od.refl _) ly).setAt hc fun v hv=>?_⟩
           cases hv with
           |sl _ _ _ a' cap h1 h2 h3=>
           have:cap=0:=by simpa using h2 rfl
           subst this;exact .own _ esz 0 0 0 amE ⟨0,0,esz,0,0⟩ a' 0 (by simp only [dm,if_true]) rfl (If _) (If _) (If _) (fun h=>by cases h) (.inl rfl)
         exact ⟨k,h1,h2.mono (od.refl _) ly rfl⟩
       · obtain ⟨n1,k0,g1,g2⟩:=bM u k hs mc
         obtain ⟨n2,k0',g1',g2'⟩:=bM u' k' vA H4;exact sr.iM u u' li lj k0 k0' (back _ _ hl n1) (back _ _ mC n2) g1 g1' g2 g2' hbk
       obtain ⟨n1,k0,g1,g2⟩:=bM u k hs mc
       exact sr.free u li k0 (back _ _ hl n1) g1 g2 hz
     · by_cases hu:u=amw st.aD
       · right;have:=hk.len;omega
       exact hk.kept.nR u li (back u li h hu)
     · obtain ⟨n1,k0,g1,g2⟩:=bM u k hs mc
       exact hk.kept.own u li k0 (back _ _ h n1) g1 g2
     have:=hk.len
     show (amw jd)<=(st.aD.set t (.box (cs.set c (.own (amw st.aD) esz 0 0 0 amE)))++[jW.arr esz []]).length;simp only [af3,am6];omega
   exact ⟨loc,hk,ha⟩
 exact ⟨loc,hk,ha⟩
theorem qw {im0 im:Im} {loc0:Loc} {jd:cL} {w0 w:World} {nt:Nat} {a:Act}: ∀(live:List (Nat×Option Nat)) {st:St} {loc:Loc},zW im0 loc0 jd w0 st im loc w->xH im loc nt st a->
 ∃dm,zW im0 loc0 jd w0 (kK live st) im dm w/\xH im dm nt (kK live st) a
 | [],st,loc,hk,ha=>⟨loc,hk,ha⟩
 |(s,k)::r,st,loc,hk,ha=>by
  simp only [kK];split
  · split
    · split
      · rename_i t _
        obtain ⟨dm,h1,h2⟩:=Oh t _ _ hk ha;exact qw r h1 h2
      exact qw r hk ha
    exact qw r hk ha
  exact qw r hk ha
theorem LD {im0 im:Im} {loc0 loc:Loc} {jd:cL} {w0 w:World} {nt:Nat} {live:List (Nat×Option Nat)} {st ob:St} {a:Act} (h:ES live st=amB ob) (hk:zW im0 loc0 jd w0 st im loc w) (ha:xH im loc nt st a):
 ∃dm,zW im0 loc0 jd w0 ob im dm w/\xH im dm nt ob a:=by
 unfold ES at h;split at h
 · cases h
 rename_i m ago
 split at h
 · rename_i s1 e1 s2 hs1 hlv
   injection h with h;subst h;refine (fun hh: ∃dm,zW im0 loc0 jd w0 {env:=e1,aD:=s1++s2,fz:=xZ st.fz 0 m,kn:=st.kn} im dm w/\xH im dm nt {env:=e1,aD:=s1++s2,fz:=xZ st.fz 0 m,kn:=st.kn} a=>
    let ⟨_,g1,g2⟩:=hh;qw live g1 g2) ?_
   obtain ⟨⟨ml,KU⟩,Hl⟩:=Fs ago;have Hl:=Hl (Ft _);obtain ⟨HX,Eb⟩:=CF hs1;have anQ: ∀n,(vq n).length=n:=by
    intro n;induction n with
    |zero=>rfl
    |succ n ih=>simp [vq,ih]
   have hid: ∀t,t<st.kn->m[t]? =amB t:=by
    intro t ht;rw [KU,EQ (by rw [anQ];exact ht)]
    exact LB ht
   have avI:st.kn<=(amw m):=by rw [KU];simp [anQ]
   let dm:Loc:=fun u=>if u<(amw m) then (match m[u]? with|some t=>loc t|none=>amC) else match s2[u-(amw m)]? with
    |some (.arr e [])=>amB ⟨0,0,e,0,0⟩
    |_=>amC
   have Fg:Ren m loc dm:=by
    intro u t hu
    have:=cO hu
    simp only [dm,this,if_true,hu]
   obtain ⟨aso,her⟩:=AH Fg ha.env hlv;have old: ∀u li,dm u=amB li->u<amw m-> ∃t,m[u]? =amB t/\loc t=amB li:=by
    intro u li hl hu;have e:=v6 hu;rw [Fg u _ e] at hl;exact ⟨_,e,hl⟩
   have anR: ∀u,u<amw m->(s1++s2)[u]? =s1[u]?:=fun u hu=>EQ (by rw [HX];exact hu)
   have anS: ∀u,¬u<amw m->(s1++s2)[u]? =s2[u-(amw m)]?:=fun u hu=>by rw [M2 (by rw [HX];omega),HX]
   have ze: ∀(u:Nat) (k:jW),(s1++s2)[u]? =amB k->k.bM=amD->u<(amw m):=by
    intro u k hs mc;rcases acl u (amw m) with h|h
    · exact h
    rw [anS u (by omega)] at hs
    obtain ⟨e,rfl⟩:=aso _ _ hs;cases mc
   have back: ∀(u:Nat) (k:jW),(s1++s2)[u]? =amB k-> ∀t,m[u]? =amB t-> ∃k0:jW,st.aD[t]? =amB k0/\k.bM=k0.bM:=by
    intro u k hs t ht;obtain ⟨k0,k',g1,g2,g3⟩:=Eb u t ht;rw [anR u (cO ht),g3] at hs;injection hs with hs;subst hs;exact ⟨k0,g1,Bm g2⟩
   have sr:=hk.kept.sr;have agq:SR im dm (s1++s2) (xZ st.fz 0 m) w:=by
    refine {
     bH:=sr.bH
     dh:=fun u li hl=>?_
     iM:=fun u u' li lj k k' hl mC hs vA mc H4 hb=>?_
     free:=fun u li k hl hs mc hz=>?_}
    · by_cases hu:u<amw m
      · obtain ⟨t,ht,dM⟩:=old u li hl hu
        obtain ⟨k0,h1,h2⟩:=sr.dh t li dM;obtain ⟨k1,k',g1,g2,g3⟩:=Eb u t ht;rw [h1] at g1;injection g1 with g1;subst g1;exact ⟨k',by rw [anR u hu];exact g3,HV Fg g2 h2⟩
      simp only [dm,hu,if_false] at hl
      split at hl
      · rename_i e he
        injection hl with hl;subst hl;exact ⟨.arr e [],by rw [anS u hu];exact he,rfl,rfl,fun h=>absurd rfl h⟩
      cases hl
    · have hu:=ze u k hs mc
      have Cy:=ze u' k' vA H4;obtain ⟨t,ht,dM⟩:=old u li hl hu;obtain ⟨t',Qf,Lz⟩:=old u' lj mC Cy;obtain ⟨k0,g1,g2⟩:=back u k hs t ht;obtain ⟨k0',g1',g2'⟩:=back u' k' vA t' Qf
      have:=sr.iM t t' li lj k0 k0' dM Lz g1 g1' (by rw [<- g2];exact mc) (by rw [<- g2'];exact H4) hb
      subst this;have pw:=afN.1 Hl;have e1:=(Do.1 ht).2;have e2:=(Do.1 Qf).2;rcases WF u u' with h|h|h
      · exact absurd (e1.trans e2.symm) (pw u u' hu Cy h)
      · exact h
      exact absurd (e2.trans e1.symm) (pw u' u Cy hu h)
    have hu:=ze u k hs mc
    obtain ⟨t,ht,dM⟩:=old u li hl hu;obtain ⟨k0,g1,g2⟩:=back u k hs t ht;refine sr.free t li k0 dM g1 (by rw [<- g2];exact mc) (jE.2 ?_)
    exact LA (i0:=0) ht (by have:=jE.1 hz;simpa using this)
   refine ⟨dm,⟨⟨agq,hk.kept.gH,fun t li hl=>?_,hk.kept.os,hk.kept.tape,hk.kept.output,hk.kept.size,hk.kept.frame,hk.kept.eg,fun t li hl=>?_,fun u li k hl hs mc=>?_⟩,hk.kn,?_,hk.dom⟩,
    ⟨her fun j esz hj=>?_,ha.defers,ha.NP⟩⟩
   · have h1:=hk.kept.dV t li hl
     have ht:t<st.kn:=by rw [hk.kn];exact hk.dom t li hl
     rw [Fg t t (hid t ht)];exact h1
   · rcases acl t st.kn with ht|ht
     · rw [Fg t t (hid t ht)] at hl
       exact hk.kept.nR t li hl
     right;rw [hk.kn] at ht;exact ht
   · have hu:=ze u k hs mc
     obtain ⟨t,ht,dM⟩:=old u li hl hu;obtain ⟨k0,g1,g2⟩:=back u k hs t ht;exact hk.kept.own t li k0 dM g1 (by rw [<- g2];exact mc)
   · rw [<- hk.kn]
     simp only [af3];omega
   simp only [dm,show¬amw m+j<(amw m) by omega,if_false,show (amw m)+j-(amw m)=j by omega,hj]
 exact (by cases h)
theorem Xt {im0 im:Im} {loc0 loc:Loc} {jd:cL} {w0 w:World} {nt:Nat} {live:List (Nat×Option Nat)} {st ob:St} {a:Act} (h:norm live st=amB ob) (hk:zW im0 loc0 jd w0 st im loc w) (ha:xH im loc nt st a):
 ∃dm,zW im0 loc0 jd w0 ob im dm w/\xH im dm nt ob a:=by
 unfold norm at h;cases h1:ES live st with
 |none=>rw [h1] at h;cases h
 |some s=>
  rw [h1] at h;dsimp only at h;obtain ⟨dm,gS,tM⟩:=LD h1 hk ha;split at h
  · exact LD h gS tM
  injection h with h
  subst h;exact ⟨dm,gS,tM⟩
end Go.Vm
/- The code of a function; what it returns. -/
namespace Go.Vm
def gz (P:Program) (prims:FuncId->Bool) (nt:Nat):jX->Code->Bool
 | .skip,.skip=>amD
 | .region d ops _,.region _ iT flag=>CW P prims nt d ops iT flag
 | .seq a b,.seq c d=>gz P prims nt a c&&gz P prims nt b d
 | .cond c a b,.cond c' a' b'=>bE c c'&&gz P prims nt a a'&&gz P prims nt b b'
 | .block id b,.block id' b'=>id==id'&&gz P prims nt b b'
 | .loop _ b,.loop b'=>gz P prims nt b b'
 | .exit id,.exit id'=>id==id'
 | .ret,.ret=>amD
 |_,_=>amE
def hJ.out:hJ->Exit
 | .normal=> .normal
 | .exit id=> .exit id
 | .ret=> .ret
section
variable {P : Program} {F : m8} {rec : Task -> Option Out} {im0 : Im} {loc0 : Loc} {jd : cL} {w0 : World} {nt : Nat} {prims : FuncId -> Bool}
structure At (im0:Im) (loc0:Loc) (jd:cL) (w0:World) (nt:Nat) (st:St) (a:Act) (w:World):Prop where
 ex: ∃im loc,zW im0 loc0 jd w0 st im loc w/\xH im loc nt st a
def CX (P : Program) (prims : FuncId -> Bool) (rec : Task -> Option Out) : Prop :=
  ∀ (live : List (Nat × Option Nat)) (x : jX) (st : St) (e : hJ) (kU : St), rec (.loop live x st) = amB (.code e kU) ->
    ∀ (c : Code) (nt : Nat) (im0 : Im) (loc0 : Loc) (jd : cL) (w0 : World) (a : Act) (w : World), gz P prims nt x c = amD -> At im0 loc0 jd w0 nt st a w ->
      ∀ (b : Frame) (k : List Item) (cs : List Frame), ∃ a' w', At im0 loc0 jd w0 nt kU a' w' /\ Arrives P (lone (b.at a (.code c :: .inLoop c :: k)) cs w) b k cs e.out a' w'
theorem kN (hE:JA P F rec) (hL:CX P prims rec) (qv:P.follows .mixedOrders=amD): ∀(x:jX) (c:Code) (st:St) (e:hJ) (kU:St),gz P prims nt x c=amD->tB F rec x st=amB (e,kU)->
 ∀(a:Act) (w:World),At im0 loc0 jd w0 nt st a w-> ∀(Q:Exit->Act->World->Prop),(∀a' w',At im0 loc0 jd w0 nt kU a' w'->Q e.out a' w')->c.wp P Q a w
 | .skip,c,st,e,kU,hc,gx,a,w,ha,Q,hQ=>by
  cases c<;>simp only [gz,PP] at hc
  simp only [tB,ww,IR] at gx;obtain ⟨rfl,rfl⟩:=gx;exact wp_skip (hQ _ _ ha)
 | .region d ops fU,c,st,e,kU,hc,gx,a,w,ha,Q,hQ=>by
  cases c<;>simp only [gz,PP] at hc
  simp only [tB,F0s] at gx;obtain ⟨ob,gx,h⟩:=gx;simp only [IR] at h;obtain ⟨rfl,rfl⟩:=h;obtain ⟨im,loc,hk,Fu⟩:=ha.ex;refine Og hE qv hc gx hk.kept.sr Fu fun eH bn a' w' LF Fv=>hQ a' w' ⟨eH,bn,?_,Fv⟩
  obtain ⟨h1,h2⟩:=JB gx;exact ⟨hk.kept.trans LF hk.len,by rw [h1];exact hk.kn,adc hk.len h2,hk.dom⟩
 | .seq x y,c,st,e,kU,hc,gx,a,w,ha,Q,hQ=>by
  cases c<;>simp only [gz,PP,ut] at hc
  obtain ⟨h1,h2⟩:=hc;simp only [tB] at gx;refine wp_seq ?_;cases hx:tB F rec x st with
  |none=>rw [hx] at gx;cases gx
  |some q=>
   obtain ⟨e1,ob⟩:=q;rw [hx] at gx;refine kN hE hL qv x _ st e1 ob h1 hx a w ha _ fun a' w' Fv=>?_
   cases e1 with
   |normal=>exact kN hE hL qv y _ ob e kU h2 gx a' w' Fv Q hQ
   |exit id=>
    simp only [ww,IR] at gx;obtain ⟨rfl,rfl⟩:=gx;exact hQ a' w' Fv
   |ret=>
    simp only [ww,IR] at gx;obtain ⟨rfl,rfl⟩:=gx;exact hQ a' w' Fv
 | .cond cc x y,c,st,e,kU,hc,gx,a,w,ha,Q,hQ=>by
  cases c<;>simp only [gz,PP,ut] at hc
  obtain ⟨⟨h0,h1⟩,h2⟩:=hc;obtain ⟨im,loc,hk,Fu⟩:=ha.ex;have hv:=Of (a:=a) (e:=st.env) cc (fun t _=>Fu.env t) _ h0
  simp only [tB] at gx;split at gx
  · rename_i hb
    rw [hb] at hv;exact wp_cond_true hv.jD (kN hE hL qv x _ st e kU h1 gx a w ha Q hQ)
  · rename_i hb
    rw [hb] at hv;exact wp_cond_false hv.jD (kN hE hL qv y _ st e kU h2 gx a w ha Q hQ)
  cases gx
 | .block id x,c,st,e,kU,hc,gx,a,w,ha,Q,hQ=>by
  cases c<;>simp only [gz,PP,ut,beq_iff_eq] at hc
  obtain ⟨rfl,h1⟩:=hc;refine wp_block ?_;simp only [tB] at gx;cases hx:tB F rec x st with
  |none=>rw [hx] at gx;cases gx
  |some q=>
   obtain ⟨e1,ob⟩:=q;rw [hx] at gx;refine kN hE hL qv x _ st e1 ob h1 hx a w ha _ fun a' w' Fv=>?_
   cases e1 with
   |normal=>
    simp only [ww,IR] at gx;obtain ⟨rfl,rfl⟩:=gx;exact hQ a' w' Fv
   |ret=>
    simp only [ww,IR] at gx;obtain ⟨rfl,rfl⟩:=gx;exact hQ a' w' Fv
   |exit j=>
    dsimp only at gx;simp only [hJ.out,Exit.inBlock];split at gx
    · rename_i hj
      have:j=id:=by simpa using hj
      simp only [ww,IR] at gx;obtain ⟨rfl,rfl⟩:=gx;rw [pp this];exact hQ a' w' Fv
    rename_i hj
    have:j≠id:=by simpa using hj
    simp only [ww,IR] at gx;obtain ⟨rfl,rfl⟩:=gx;rw [rc this];exact hQ a' w' Fv
 | .loop live x,c,st,e,kU,hc,gx,a,w,ha,Q,hQ=>by
  cases c<;>simp only [gz,PP] at hc
  simp only [tB] at gx;split at gx
  · rename_i e1 ob hr
    simp only [ww,IR] at gx;obtain ⟨rfl,rfl⟩:=gx;intro b k cs;obtain ⟨a',w',h1,h2⟩:=hL live x st _ _ hr _ nt im0 loc0 jd w0 a w hc ha b k cs;exact ⟨_,a',w',hQ a' w' h1,.of_steps (.one step_loop) h2⟩
  cases gx
 | .exit id,c,st,e,kU,hc,gx,a,w,ha,Q,hQ=>by
  cases c<;>simp only [gz,PP,beq_iff_eq] at hc
  subst hc;simp only [tB,ww,IR] at gx;obtain ⟨rfl,rfl⟩:=gx;exact wp_exit (hQ _ _ ha)
 | .ret,c,st,e,kU,hc,gx,a,w,ha,Q,hQ=>by
  cases c<;>simp only [gz,PP] at hc
  simp only [tB,ww,IR] at gx;obtain ⟨rfl,rfl⟩:=gx;exact wp_ret (hQ _ _ ha)
theorem R0 (hE:JA P F rec) (hL:CX P prims rec) (qv:P.follows .mixedOrders=amD):CX P prims (step F rec):=by
 intro live x st e kU h c nt im0 loc0 jd w0 a w hc ha b k cs;simp only [step] at h;cases hn:norm live st with
 |none=>rw [hn] at h;cases h
 |some ob=>
  rw [hn] at h;dsimp only at h;obtain ⟨im,loc,hk,Fu⟩:=ha.ex;obtain ⟨dm,gS,tM⟩:=Xt hn hk Fu;have de:At im0 loc0 jd w0 nt ob a w:=⟨im,dm,gS,tM⟩;cases hx:tB F rec x ob with
  |none=>rw [hx] at h;cases h
  |some q=>
   obtain ⟨e1,D'⟩:=q;rw [hx] at h;have hw:=kN hE hL qv x c ob e1 D' hc hx a w de (fun e' a' w'=>e'=e1.out/\At im0 loc0 jd w0 nt D' a' w') fun a' w' h=>⟨rfl,h⟩
   obtain ⟨e',a1,w1,⟨rfl,hq⟩,Hx⟩:=hw b (.inLoop c::k) cs;cases e1 with
   |normal=>
    dsimp only at h;obtain ⟨a',w',h1,h2⟩:=hL live x D' e kU h c nt im0 loc0 jd w0 a1 w1 hc hq b k cs;exact ⟨a',w',h1,.of_steps (Steps.trans Hx (.one step_inLoop)) h2⟩
   |exit id=>
    simp only [ww,Out.code.injEq] at h;obtain ⟨rfl,rfl⟩:=h;exact ⟨a1,w1,hq,.pass (x:= .inLoop c) rfl (fun _ _=> .inl (by simp [hJ.out])) Hx⟩
   |ret=>
    simp only [ww,Out.code.injEq] at h;obtain ⟨rfl,rfl⟩:=h;exact ⟨a1,w1,hq,.pass (x:= .inLoop c) rfl (fun _ _=> .inl (by simp [hJ.out])) Hx⟩
def o8 (P:Program):List RV->List ResultVar->Bool
 | [],[]=>amD
 | .tmp t::r,.tmp t'::s=>t==t'&&o8 P r s
 | .cell t agg::r,.cell t' ty::s=>t==t'&&Bl P ty agg&&o8 P r s
 |_,_=>amE
def Oj (tmps:Array Value):ResultVar->Sem Value
 | .tmp t=>pure (tmps.getD t undef)
 | .cell a t=>do loadVar t (<- asAddr (tmps.getD a undef))
theorem R2 {im:Im} {loc:Loc} {aD:cL} {agg:Option Nat} {p:PV} {u:Value} {r:nY} (hp:VR im loc p u) (h:oY aD agg p=amB r): ∃ad,u= .pointer (amB ad):=by
 cases hp<;>first|(simp [oY] at h;done)|exact ⟨_,rfl⟩
theorem SR.known {im:Im} {loc:Loc} {aD:cL} {fz:List Nat} {w:World} (h:SR im loc aD fz w) {r:nY} (hn:r.news=[]) (hw:r.wr=[]):jn im loc aD w r where
 bH:=h.bH
 tok:=fun t _ li hl=>h.dh t li hl
 free:=fun t k hm=>by rw [hw] at hm;cases hm
 fresh:=fun j hj=>by rw [hn] at hj;simp at hj
 iM:=fun t u li lj k k' _ _=>h.iM t u li lj k k'
theorem Ol {aD:cL} {agg:Option Nat} {p:PV} {r:nY} (h:oY aD agg p=amB r):r.news=[]/\r.wr=[]:=by
 unfold oY at h;split at h
 · split at h
   · split at h
     · rw [F0s] at h;obtain ⟨_,_,rfl⟩:=h;exact ⟨rfl,rfl⟩
     cases h
   · split at h
     · rw [F0s] at h;obtain ⟨_,_,rfl⟩:=h;exact ⟨rfl,rfl⟩
     cases h
   cases h
 · rw [F0s] at h;obtain ⟨_,_,rfl⟩:=h;exact ⟨rfl,rfl⟩
 cases h
theorem T8 {im : Im} {loc : Loc} {st : St} {a : Act} {w : World} (kM : SR im loc st.aD st.fz w) (ha : ER im loc st.env a.tmps) : ∀ {rs : List RV} {vs : List PV} {os : List ResultVar}, o8 P rs os = amD -> oa st rs = amB vs ->
    ∃ us, (os.mapM (Oj a.tmps)).run P w = .ok us w /\ fh im loc vs us
  | [], vs, os, hc, h => by
    cases os <;> simp only [o8, PP] at hc
    simp only [oa, ww] at h; subst h
    exact ⟨[], by simp, .nil⟩
  | r :: rs, vs, [], hc, h => by cases r <;> simp [o8] at hc
  | r :: rs, vs, o :: os, hc, h => by
    simp only [oa] at h
    split at h
    · rename_i v NN h1 h2
      injection h with h; subst h
      have Bo : ∃ u, (Oj a.tmps o).run P w = .ok u w /\ VR im loc v u /\ o8 P rs os = amD := by
        cases r with
        | tmp t =>
          cases o with
          | tmp t' =>
            simp only [o8, ut, beq_iff_eq] at hc
            obtain ⟨rfl, hc⟩ := hc
            simp only [EV, ww] at h1; subst h1
            exact ⟨_, rfl, ha t, hc⟩
          | cell _ _ => simp [o8] at hc
        | cell t agg =>
          cases o with
          | tmp t' => simp [o8] at hc
          | cell t' ty =>
            simp only [o8, ut, beq_iff_eq] at hc
            obtain ⟨⟨rfl, hag⟩, hc⟩ := hc
            simp only [EV, F0s] at h1
            obtain ⟨rr, h3, rfl⟩ := h1
            obtain ⟨g1, g2⟩ := Ol h3
            obtain ⟨u, cy, oV, _⟩ := K9 (P := P) (ha t) hag h3 (kM.known g1 g2)
            obtain ⟨ad, had⟩ := R2 (ha t) h3
            refine ⟨u, ?_, oV, hc⟩
            simp only [Oj, had, asAddr]
            rw [had] at cy
            simpa [Instr.loadAt, Instr.sureAddr] using cy
      obtain ⟨u, hu, oV, hc⟩ := Bo
      obtain ⟨us, xU, asr⟩ := T8 kM ha hc h2
      refine ⟨u :: us, ?_, .cons _ _ _ _ oV asr⟩
      rw [List.mapM_cons]
      simp only [afK, hu, afX, xU, amq]
    cases h
theorem Fw {im:Im} {loc:Loc} {st:St} {a:Act} {w:World} {fn:Func} (kM:SR im loc st.aD st.fz w) (ha:ER im loc st.env a.tmps) {rs:List RV} {vs:List PV} (hc:o8 P rs fn.results.toList=amD) (h:oa st rs=amB vs):
 ∃u,(results fn a.tmps).run P w= .ok u w/\VR im loc (results1 vs) u:=by
 obtain ⟨us,h1,h2⟩:=T8 (P:=P) kM ha hc h;have e:fn.results.mapM (Oj a.tmps)=List.toArray<$>fn.results.toList.mapM (Oj a.tmps):=Array.mapM_eq_mapM_toList;have h3:(fn.results.mapM (Oj a.tmps)).run P w= .ok us.toArray w:=by
  rw [e];rw [map_eq_pure_bind,afK,h1];rfl
 have BC:results fn a.tmps=(do let vs <- fn.results.mapM (Oj a.tmps);pure (if h:vs.size=1 then vs[0] else .tuple vs)):=by
  unfold results
  congr 1
 rw [BC];simp only [afK,h3,afX,amq];refine ⟨_,rfl,?_⟩;cases h2 with
 |nil=>exact .cw _ _ .nil
 |cons x u xs us g2 g3=>
  cases g3 with
  |nil=>exact g2
  |cons y v ys vs g4 g5=>exact .cw _ _ (.cons _ _ _ _ g2 (.cons _ _ _ _ g4 g5))
end
end Go.Vm
/- What the logical machine answers, the model answers. -/
namespace Go.Vm
def ax (P:Program) (prims:FuncId->Bool) (x:aK) (f:FuncId):Bool:=
 match P.funcs[f]? with
 |some fn=>!(fn.name== "runtime.NumGoroutine")&&ae3 x.DE fn.ntmps&&o8 P x.res fn.results.toList&&(match fn.body with|some c=>gz P prims fn.ntmps x.code c|none=>amE)
 |none=>amE
section
variable {P : Program} {F : m8} {rec : Task -> Option Out} {prims : FuncId -> Bool}
def LG (P:Program) (prims:FuncId->Bool) (F:m8):Prop:= ∀f x,F f=amB (.code x)->ax P prims x f=amD
theorem LH: ∀(args:List PV) (i t:Nat),lk t (vu i args)=if i<=t then (args[t-i]?).getD .undef else .undef
 | [],i,t=>by simp [vu,lk]
 |v::r,i,t=>by
  simp only [vu,rH];rw [LH r (i+1) t]
  by_cases h:i=t
  · subst h;simp
  rw [rc h]
  by_cases h2:i<=t
  · rw [pp h2,pp (by omega)]
    have:t-i=(t- (i+1))+1:=by omega
    rw [this];simp
  rw [rc h2,rc (by omega)]
theorem H8 {im:Im} {loc:Loc} {args:List PV} {us:List Value} (h:fh im loc args us) (n:Nat):ER im loc (vu 0 args) ((⟨us⟩:Array Value)++afa n Go.undef):=by
 intro t;rw [LH];simp only [ae5,if_true,Nat.sub_zero];cases ha:args[t]? with
 |none=>exact .undef _
 |some x=>
  obtain ⟨v,hv,hr⟩:=h.get t x ha
  have:((⟨us⟩:Array Value)++afa n Go.undef).getD t Go.undef=v:=by
   have dM:=cO hv;simp only [ae2];rw [Array.getElem?_append_left (by simpa using dM)]
   simp [hv]
  rw [this];exact hr
theorem iq {f:FuncId} {fn:Func} {c:Code} {us:Array Value} {w:World} (hf:P.funcs[f]? =amB fn) (hn:(fn.name== "runtime.NumGoroutine")=amE) (hb:fn.body=amB c):(callFunc f us).run P w= .ok (.enter f us) w:=by
 unfold callFunc;have hn: ¬fn.name= "runtime.NumGoroutine" :=by simpa using hn
 simp [afK,hf,hn,hb]
theorem R3 (hE:JA P F rec) (hL:CX P prims rec) (hT:LG P prims F) (qv:P.follows .mixedOrders=amD):CR P (step F rec):=by
 intro f args aD fz v vF Js h im loc w us kM xU;simp only [step] at h;split at h
 · rename_i x hF
   have hc:=hT f x hF;unfold ax at hc;cases hf:P.funcs[f]? with
   |none=>rw [hf] at hc;cases hc
   |some fn=>
    rw [hf] at hc;simp only [ut,UV] at hc;obtain ⟨⟨⟨qx,hna⟩,BC⟩,qy⟩:=hc;cases hb:fn.body with
    |none=>rw [hb] at qy;cases qy
    |some c=>
     rw [hb] at qy;dsimp only at qy;refine .inr ⟨iq hf qx hb,calls_of_wp hf hb ?_⟩;split at h
     · rename_i cY
       have cY:(amw args)=x.DE:=by simpa using cY
       have hna:x.DE<=fn.ntmps:=by simpa using hna
       have axr:=xU.m9
       let st0:St:={env:=vu 0 args,aD,fz,kn:=amw aD}
       let a0:Act:={tmps:=(⟨us⟩:Array Value)++afa (fn.ntmps- (⟨us⟩:Array Value).size) Go.undef,defers:=[]}
       have de:At im loc aD w fn.ntmps st0 a0 w:=by
        refine ⟨im,loc,⟨⟨kM,.refl _,.refl _,rfl,rfl,rfl,If _,fun _ _ _=>rfl,fun _ _ h=> .inl h,fun _ _ h=> .inl h,fun t li k hl hs mc=> .inr ⟨t,li,k,hl,hs,mc,rfl⟩⟩,rfl,If _,fun t li hl=>?_⟩,⟨H8 xU _,rfl,?_⟩⟩
        · obtain ⟨k,hk,_⟩:=kM.dh t li hl
          exact cO hk
        simp only [a0,am3,agG]
        show (amw us)+_=_
        have:(⟨us⟩:Array Value).size=(amw us):=rfl
        rw [this];omega
       have fin: ∀(st:St),(oa st x.res).map (fun vs=>Out.func (results1 vs) st.aD st.fz)=amB (.func v vF Js)-> ∀a' w',At im loc aD w fn.ntmps st a' w'->
        a'.defers=[]/\ ∃u,(results fn a'.tmps).run P w'= .ok u w'/\ ∃v',Ending.returned u= .returned v'/\ ∃eH bn,vE im loc aD w v vF Js eH bn w' v':=by
        intro st cq a' w' de
        obtain ⟨eH,bn,hk,Fu⟩:=de.ex;rw [F0s] at cq;obtain ⟨vs,Jn,he⟩:=cq;simp only [Out.func.injEq] at he;obtain ⟨rfl,rfl,rfl⟩:=he;obtain ⟨u,hu,oV⟩:=Fw (P:=P) (fn:=fn) hk.kept.sr Fu.env BC Jn;have K:=hk.kept;exact ⟨Fu.defers,u,hu,u,rfl,eH,bn,⟨K.gH,K.dV,oV,K.sr,K.os,K.tape,K.output,K.size,K.frame,K.eg,K.nR,K.own⟩⟩
       split at h
       · rename_i st gx
         exact kN hE hL qv x.code c st0 .normal st qy gx a0 w de _ fun a' w' agr=>fin st h a' w' agr
       · rename_i st gx
         exact kN hE hL qv x.code c st0 .ret st qy gx a0 w de _ fun a' w' agr=>fin st h a' w' agr
       cases h
     cases h
 · rename_i p hF
   obtain ⟨fn,c,hf,qx,hb,key⟩:=hE.kg.2 f p hF;rw [F0s] at h;obtain ⟨⟨v1,s1,z1⟩,hp,he⟩:=h;simp only [Out.func.injEq] at he;obtain ⟨rfl,rfl,rfl⟩:=he;exact key args aD fz _ _ _ hp im loc w us kM xU
 cases h
theorem afk (hT:LG P prims F) (Bv:za P F) (qv:P.follows .mixedOrders=amD): ∀n,CR P (run F n)/\CX P prims (run F n)
 |0=>⟨fun f args aD fz v vF Js h=>by simp [run] at h,fun live x st e kU h=>by simp [run] at h⟩
 |n+1=>by
  obtain ⟨h1,h2⟩:=afk hT Bv qv n;have hE:JA P F (run F n):=⟨h1,Bv⟩;exact ⟨R3 hE h2 hT qv,R0 hE h2 qv⟩
theorem R4 (hT:LG P prims F) (Bv:za P F) (qv:P.follows .mixedOrders=amD) {n:Nat} {f:FuncId} {args:List PV} {v:PV} {vF:cL} {Js:List Nat} (h:run F n (.func f args [] [])=amB (.func v vF Js))
 {im:Im} {w:World} {us:List Value} (Xi: ∀b o,im b=amB o->w.heap[b]? =amB o) (xU:fh im gl args us):
 Calls P f ⟨us⟩ w fun e w'=> ∃u,e= .returned u/\(∃eH bn,VR eH bn v u/\SR eH bn vF Js w')/\w'.os=w.os/\w'.tape=w.tape/\w'.output=w.output/\w.heap.size<=w'.heap.size/\ ∀b,b<w.heap.size->w'.heap[b]? =w.heap[b]?:=by
 have key:=(afk hT Bv qv n).1 f args [] [] v vF Js h im gl w us (SR.empty Xi) xU;rcases key with ⟨u,w',h1,h2⟩|⟨h1,h2⟩
 · exfalso
   cases n with
   |zero=>simp [run] at h
   |succ n=>
    have h:step F (run F n) (.func f args [] [])=amB (.func v vF Js):=h;simp only [step] at h;split at h
    · rename_i x hF
      have hc:=hT f x hF;unfold ax at hc;cases hf:P.funcs[f]? with
      |none=>rw [hf] at hc;cases hc
      |some fn=>
       rw [hf] at hc;simp only [ut,UV] at hc;cases hb:fn.body with
       |none=>rw [hb] at hc;exact (by have hzz:=hc.2;cases hzz)
       |some c=>
        rw [iq hf hc.1.1.1 hb] at h1;cases h1
    · rename_i p hF
      obtain ⟨fn,c,hf,qx,hb,key⟩:=Bv.2 f p hF;rw [iq hf qx hb] at h1;cases h1
    cases h
 refine h2.mono fun e w' ⟨u,he,eH,bn,hp⟩=>⟨u,he,⟨eH,bn,hp.vr,hp.sr⟩,hp.os,hp.tape,hp.output,hp.size,fun b hb=>hp.frame b hb fun t li k hl=>by cases hl⟩
end
end Go.Vm
/- Functions that are known without their code: math/bits.Add64 and Sub64, slices.Clone. -/
namespace Go.Vm
section
variable {P : Program}
theorem Om {im:Im} {w:World} {v:PV} {u:Value} (kM:SR im gl [] [] w) (hv:VR im gl v u):vE im gl [] w v [] [] im gl w u where
 gH:= .refl _
 dV:= .refl _
 vr:=hv
 sr:=kM
 os:=rfl
 tape:=rfl
 output:=rfl
 size:=If _
 frame:=fun _ _ _=>rfl
 eg:=fun _ _ h=> .inl h
 nR:=fun _ _ h=> .inl h
 own:=fun t li k h=>by cases h
theorem On {im:Im} {loc:Loc} {k1 k2 k3:IntKind} {a b c:Int} {us:List Value} (h:fh im loc [.int k1 a,.int k2 b,.int k3 c] us):us=[.int k1 a,.int k2 b,.int k3 c]:=by
 cases h with
 |cons _ _ _ _ h1 h=>
  cases h with
  |cons _ _ _ _ h2 h=>
   cases h with
   |cons _ _ _ _ h3 h=>
    cases h;rw [h1.gu,h2.gu,h3.gu]
theorem Oo {f:FuncId} {fn:Func} (hf:P.funcs[f]? =amB fn) (qx:(fn.name== "runtime.NumGoroutine")=amE) (hb:fn.body.isNone=amD) (hn:Extern.findNext fn=amC) (he:Extern.find fn=amB add64Entry):Jt P f As:=by
 intro args v news hp im w us kM xU;unfold As at hp;split at hp
 · rename_i a b c
   split at hp
   · rename_i hc
     have hc:c<=1:=by simpa using hc
     simp only [ww,IR] at hp;obtain ⟨rfl,rfl⟩:=hp;obtain rfl:=On xU;refine .inl ⟨_,w,?_,im,gl,Om kM (.cw _ [.int .u64 (((a:Int)+b+c)%18446744073709551616),.int .u64 (((a:Int)+b+c) / 18446744073709551616)] (.cons _ _ _ _ ?_ (.cons _ _ _ _ ?_ .nil)))⟩
     · rw [run_callFunc_extern hf qx hb hn he]
       have:=run_add64 (P:=P) (a:Int) b c (by omega) (by omega) (by omega) (by omega) w
       simp only [afB];rw [this];rfl
     · have:akc ((a+b+c)%18446744073709551616)=((a:Int)+b+c)%18446744073709551616:=by
        simp only [afB];omega
       rw [this];exact .int _ _
     have:akc ((a+b+c) / 18446744073709551616)=((a:Int)+b+c) / 18446744073709551616:=by
      simp only [afB];omega
     rw [this];exact .int _ _
   cases hp
 cases hp
def xcA (esz:Nat):jX:= .region amC [⟨amB 2,.Tj (.c (.sl esz amD [])),amC⟩] [0]
def xcN (esz:Nat):jX:= .seq (.region amC [⟨amB 2,.Tj (.c (.sl esz amD [])),amC⟩] [2]) .ret
def xcC (esz:Nat) (zero:Row):jX:= .seq (.region amC [⟨amB 5,.Bj esz 0 zero [],amC⟩,⟨amB 6,.Tj (.t 0),amC⟩,⟨amB 7,.append esz (.t 5) (.t 6),amC⟩,⟨amB 2,.Tj (.t 7),amC⟩] [2]) .ret
def T9 (P:Program) (o:Oper):Bool:=
 o.guard.isNone&&o.dst==amB 4&&(match o.op with
  | .binOp .eql t x (.const (.slice amC 0 0)) _=>bE (.t 3) x&&sA P t
  |_=>amE)
def LJ (P:Program) (esz:Nat) (zero:Row) (f:FuncId):Bool:=
 match P.funcs[f]? with
 |some fn=>!(fn.name== "runtime.NumGoroutine")&&afx 7 fn.ntmps&&o8 P [.tmp 2] fn.results.toList&&(match fn.body with
  |some (.seq a (.seq (.seq (.region _ ops amE) (.cond c n .skip)) r))=>
   gz P (fun _=>amD) fn.ntmps (xcA esz) a&&gz P (fun _=>amD) fn.ntmps (xcN esz) n&&gz P (fun _=>amD) fn.ntmps (xcC esz zero) r&&bE (.t 4) c&&
    (match ops.toList with
    | [o1,o2]=>rJ P (fun _=>amD) fn.ntmps ops ⟨amB 3,.Tj (.t 0),amC⟩ o1&&T9 P o2
    |_=>amE)
  |_=>amE)
 |none=>amE
theorem Xu:JA P (fun _=>amC) (fun _=>amC):=⟨(fun _ _args _sto _fz _v _sto' _fz' h=>(by cases h)),⟨(fun _ _k _p h=>(by cases h)),(fun _ _p h=>(by cases h))⟩⟩
theorem Qg {prims:FuncId->Bool}:CX P prims (fun _=>amC):=fun _ _x _st _e _st' h=>(by cases h)
theorem na (qv:P.follows .mixedOrders=amD) {esz:Nat} {zero:Row} {f:FuncId} (hc:LJ P esz zero f=amD):Jt P f (fI esz):=by
 intro args v news hp im w us kM xU;unfold LJ at hc;cases hf:P.funcs[f]? with
 |none=>rw [hf] at hc;cases hc
 |some fn=>
  rw [hf] at hc;simp only [ut,UV] at hc;obtain ⟨⟨⟨qx,hnt⟩,BC⟩,qy⟩:=hc;have hnt:7<fn.ntmps:=by simpa using hnt
  split at qy
  · rename_i ca id ops cc cn cr hb
    simp only [ut] at qy;obtain ⟨⟨⟨⟨hA,hN⟩,hC⟩,NX⟩,RY⟩:=qy;split at RY
    · rename_i o1 o2 hl
      simp only [ut] at RY;obtain ⟨ho1,ho2⟩:=RY;have asu: ∃e c rows,args=[.sl e c rows]:=by
       unfold fI at hp;split at hp
       · exact ⟨_,_,_,rfl⟩
       cases hp
      obtain ⟨e,cl,rows,rfl⟩:=asu;obtain ⟨u,rfl⟩: ∃u,us=[u]:=by
       cases xU with
       |cons _ u _ us h1 h2=>cases h2;exact ⟨u,rfl⟩
      refine .inr ⟨iq hf qx hb,calls_of_wp hf hb ?_⟩
      let st0:St:={env:=[(0,.sl e cl rows)],aD:=[],fz:=[],kn:=0}
      let a0:Act:={tmps:=(⟨[u]⟩:Array Value)++afa (fn.ntmps- (⟨[u]⟩:Array Value).size) Go.undef,defers:=[]}
      have asv:At im gl [] w fn.ntmps st0 a0 w:=by
       refine ⟨im,gl,⟨⟨kM,.refl _,.refl _,rfl,rfl,rfl,If _,fun _ _ _=>rfl,fun _ _ h=> .inl h,fun _ _ h=> .inl h,fun t li k hl=>by cases hl⟩,rfl,If _,fun t li hl=>by cases hl⟩,⟨H8 xU _,rfl,?_⟩⟩
       simp only [a0,am3,agG];show 1+(fn.ntmps-1)=_;omega
      have fin: ∀(st:St) (v':PV),lk 2 st.env=v'-> ∀a' w',At im gl [] w fn.ntmps st a' w'->
       a'.defers=[]/\ ∃u,(results fn a'.tmps).run P w'= .ok u w'/\ ∃v'':Value,Ending.returned u= .returned v''/\ ∃eH bn,vE im gl [] w v' st.aD st.fz eH bn w' v'':=by
       intro st v' hv' a' w' de
       obtain ⟨eH,bn,hk,Fu⟩:=de.ex;obtain ⟨u,hu,oV⟩:=Fw (P:=P) (fn:=fn) hk.kept.sr Fu.env BC (vs:=[v']) (by simp [oa,EV,hv'])
       have K:=hk.kept;exact ⟨Fu.defers,u,hu,u,rfl,eH,bn,⟨K.gH,K.dV,oV,K.sr,K.os,K.tape,K.output,K.size,K.frame,K.eg,K.nR,K.own⟩⟩
      refine wp_seq ?_;refine kN Xu Qg qv (xcA esz) _ st0 .normal {env:=[(0,.sl e cl rows)],aD:=[],fz:=[],kn:=0} hA rfl a0 w asv _ fun a1 w1 asw=>?_
      refine wp_seq (wp_seq ?_);refine wp_region ?_;have anT:ops= #[o1,o2]:=amm (by simpa using hl)
      subst anT;obtain ⟨Es,dm,gS,LK⟩:=asw.ex;have JC:=LK.env 0;have JC:VR Es dm (.sl e cl rows) (a1.tmps.getD 0 Go.undef):=JC;obtain ⟨ad,cap,Xk,Ho,WN,lB⟩:=JC.oe;unfold rJ at ho1;simp only [ut,beq_iff_eq] at ho1;obtain ⟨⟨⟨hd1,_⟩,Ts⟩,T'⟩:=ho1;have asx:o1.guard=amC:=by
       cases hg:o1.guard with
       |none=>rfl
       |some q=>rw [hg] at Ts;simp [vG] at Ts
      have anU: ∃x,(o1.op= .move x\/o1.op= .assign x)/\bE (.t 0) x=amD:=by
       cases ho:o1.op<;>rw [ho] at T'<;>simp only [xF] at T'<;>first|exact ⟨_,.inl rfl,T'⟩|exact ⟨_,.inr rfl,T'⟩|simp at T'
      obtain ⟨x1,Hy,ags⟩:=anU;have asz:a1.eval x1= .slice ad (amw rows) cap:=by
       have h:=Of (a:=a1) (e:=[(0,PV.sl e cl rows)]) (.t 0) (fun t ht=>by injection ht with ht;subst ht;exact LK.env 0) x1 ags
       cases x1 with
       |tmp t=>
        have:(0:Nat)=t:=by simpa [bE] using ags
        subst this;simpa [Act.eval] using Xk
       |_=>simp [bE] at ags
      have anV:(execOp a1.eval o1).run P w1= .ok (.value (.slice ad (amw rows) cap)) w1:=by
       rcases Hy with h|h<;>simp [execOp,h,asz]
      unfold T9 at ho2;simp only [ut,beq_iff_eq,Option.isNone_iff_eq_none] at ho2;obtain ⟨⟨hg2,hd2⟩,Xv⟩:=ho2;split at Xv
      case h_2=>cases Xv
      rename_i ty x2 ub anX;simp only [ut] at Xv;obtain ⟨Xw,cq⟩:=Xv;have asA:x2= .tmp 3:=by
       cases x2 with
       |tmp t=>
        have:(3:Nat)=t:=by simpa [bE] using Xw
        subst this;rfl
       |_=>simp [bE] at Xw
      subst asA;unfold sA at cq;split at cq
      case h_2=>cases cq
      rename_i el nW;have asB:a1.tmps.size=fn.ntmps:=LK.NP
      let a2:Act:=a1.put (amB 3) (.slice ad (amw rows) cap)
      have Ji:a2.tmps.getD 3 Go.undef= .slice ad (amw rows) cap:=by
       simp only [a2,Act.put,ae2];rw [af5 (by omega)];rfl
      have anY:(execOp a2.eval o2).run P w1= .ok (.value (.bool ad.isNone)) w1:=by
       simp only [execOp,anX];refine eW ?_;have e3:a2.eval (.tmp 3)= .slice ad (amw rows) cap:=by simpa [Act.eval] using Ji
       rw [e3];have hg:(eqGuard .eql ty (.tmp 3) (.const (.slice amC 0 0)) (.slice ad (amw rows) cap) (a2.eval (.const (.slice amC 0 0)))).run P w1= .ok () w1:=by
        unfold eqGuard;simp
       simp only [afK,hg,afX];exact Lib.run_eql_slice_nil w1 ty el ad (amw rows) cap 0 0 nW
      let a3:Act:=a2.put (amB 4) (.bool ad.isNone)
      have agt:At im gl [] w fn.ntmps {env:=[(0,.sl e cl rows)],aD:=[],fz:=[],kn:=0} a3 w1:=by
       refine ⟨Es,dm,gS,⟨fun t=>?_,LK.defers,by simp [a3,a2,Act.put,asB]⟩⟩
       have h:=LK.env t;simp only [rH] at h ⊢
       by_cases ht:t=0
       · subst ht
         simp only [if_true] at h ⊢;simpa [a3,a2,Act.put,ae1] using h
       rw [rc (fun e=>ht e.symm)];exact .undef _
      have KS:a3.eval cc= .bool ad.isNone:=by
       cases cc with
       |tmp t=>
        have:(4:Nat)=t:=by simpa [bE] using NX
        subst this;simp only [Act.eval,a3,Act.put,ae2];rw [af5 (by simp [a2,Act.put];omega)];rfl
       |_=>simp [bE] at NX
      have agu:List.range #[o1,o2].size=[0,1]:=rfl;rw [agu];simp only [wpOps];have e0:(#[o1,o2]:Array Oper)[0]? =amB o1:=rfl;have e1:(#[o1,o2]:Array Oper)[1]? =amB o2:=rfl;rw [e0];dsimp only;have hw1:Region.wanted o1 (yielded #[o1,o2] a1.tmps)=amD:=by unfold Region.wanted;rw [asx]
      rw [hw1,pp rfl];refine .inl ?_;unfold Oper.wp;rw [anV,Oper.upon_value,<- hd1,e1];dsimp only;have Xg:Region.wanted o2 (yielded #[o1,o2] (a1.put (amB 3) (.slice ad (amw rows) cap)).tmps)=amD:=by unfold Region.wanted;rw [hg2]
      rw [Xg,pp rfl];refine .inl ?_;rw [show a1.put (amB 3) (.slice ad (amw rows) cap)=a2 from rfl,anY,Oper.upon_value,hd2];show (Code.cond cc cn .skip).wp P _ a3 w1;cases had:ad with
      |none=>
       have Hw:rows=[]:=by
        rcases rows with _|⟨r,rs⟩
        · rfl
        obtain ⟨b,o,h,_⟩:=lB (by simp)
        rw [had] at h;cases h
       subst Hw;simp only [fI,ww,IR] at hp;obtain ⟨rfl,rfl⟩:=hp;refine wp_cond_true (by rw [KS,had];rfl) ?_
       refine kN Xu Qg qv (xcN esz) _ _ .ret {env:=[(2,.sl esz amD [])],aD:=[],fz:=[],kn:=0} hN rfl a3 w1 agt _ fun a4 w4 Ua=>?_
       obtain ⟨hdf,u',Cy,v'',asC,eH,bn,WW⟩:=fin _ _ rfl a4 w4 Ua;refine ⟨hdf,u',Cy,v'',asC,eH,bn.set 1 ⟨0,0,esz,0,0⟩,?_⟩;have Qh: ∀t,bn t=amC:=fun t=>by
        cases hl:bn t with
        |none=>rfl
        |some li=>obtain ⟨k,hk,_⟩:=WW.sr.dh t li hl;simp at hk
       obtain ⟨ad',c7,hv3,_,asD,_⟩:=WW.vr.oe;have Fk:c7=0:=by simpa using asD rfl
       subst Fk;exact {
        gH:=WW.gH,dV:=fun t li h=>by cases h
        vr:=by rw [hv3];exact .own 1 esz 0 0 0 amE ⟨0,0,esz,0,0⟩ ad' 0 (Loc.eX _ _ _) rfl (If _) (If _) (If _) (fun h=>by cases h) (.inl rfl)
        sr:={
         bH:=WW.sr.bH
         dh:=fun t li h=>by
          unfold Loc.set at h;split at h
          · rename_i ht;subst ht;injection h with h;subst h
            exact ⟨_,rfl,rfl,rfl,fun h=>absurd rfl h⟩
          rw [Qh t] at h;cases h
         iM:=fun t u li lj k k' h h' hs vA Ec=>by
          unfold Loc.set at h;split at h
          · rename_i ht;subst ht;simp at hs;subst hs;cases Ec
          rw [Qh t] at h;cases h
         free:=fun t li k h hs Ec=>by
          unfold Loc.set at h;split at h
          · rename_i ht;subst ht;simp at hs;subst hs;cases Ec
          rw [Qh t] at h;cases h}
        os:=WW.os,tape:=WW.tape,output:=WW.output,size:=WW.size,frame:=WW.frame,eg:=WW.eg
        nR:=fun t li h=> .inr (ae5 _)
        own:=fun t li k h hs Ec=>by
         unfold Loc.set at h;split at h
         · rename_i ht;subst ht;simp at hs;subst hs;cases Ec
         rw [Qh t] at h;cases h}
      |some ad'=>
       refine wp_cond_false (by rw [KS,had];rfl) (wp_skip ?_)
       rcases rows with _|⟨r,rs⟩
       · simp only [fI,ww,IR] at hp
         obtain ⟨rfl,rfl⟩:=hp;exact kN Xu Qg qv (xcC esz zero) _ _ .ret {env:=[(2,.own 1 esz 0 0 0 amE)],aD:=[.arr esz [],.arr esz []],fz:=[],kn:=0} hC rfl a3 w1 agt _ fun a4 w4 Ua=>fin _ _ rfl a4 w4 Ua
       simp only [fI] at hp
       split at hp
       case isFalse=>cases hp
       rename_i P5;simp only [ut,alX,afg] at P5;obtain ⟨rfl,ij⟩:=P5;simp only [ww,IR] at hp;obtain ⟨rfl,rfl⟩:=hp;have hap:iR [.arr e []] [] e (.own 0 e 0 0 0 amD) (.sl e cl (r::rs))=amB {v:= .own 1 e 0 (0+(amw rs+1)) (0+(amw rs+1)) amE,news:=[.arr e (r::rs)],rd:=[0]}:=by
        have h1:AC e e=amD:=by simp
        have h2:ae3 (amw rs+1) 0=amE:=rfl;have h3:ae3 (0+(amw rs+1)) eu=amD:=by simpa using ij
        simp only [iR,rowsOf,h1,if_true];simp [h2,ij,iQ]
       refine kN Xu Qg qv (xcC e zero) _ _ .ret {env:=[(2,.own 1 e 0 (0+(amw rs+1)) (0+(amw rs+1)) amE)],aD:=[.arr e [],.arr e (r::rs)],fz:=[],kn:=0} hC ?_ a3 w1 agt _ fun a4 w4 Ua=>fin _ _ rfl a4 w4 Ua
       simp only [xcC,tB,lz,mD,wanted,xD,bG,fH.ev,lk];simp [qk,XR.ok,wg,XR.next,iL,K4,gg,lk,hap]
    cases RY
  cases qy
end
end Go.Vm
/- slices.Insert of one row: what it leaves of the memory. -/
namespace Go.Vm
section
variable {P : Program} {im eH : Im} {loc bn : Loc} {aD : cL} {fz : List Nat} {w w' : World}
theorem pN (w:World) (dT sT ty el:TypeId) (esz g o agv asF:Nat) (a:Addr) (uM sCap:Nat) (cur:Array Value) (t:TypeId) (cs:List Value)
 (hu:P.underlying dT=amB (.slice el)) (hs:(P.info? el).map (·.size)=amB esz)
 (hg:w.heap[g]? =amB (.cells cur t (0,0))) (hn:Nat.min uM agv*esz=amw cs)
 (asG: ∀j v,cs[j]? =amB v->w.cell? (a.add j)=amB v) (qY:o+amw cs<=cur.size) (h1: ∀v∈cs,v.oneCell'=amD):
 (Builtin.copy_ #[dT,sT] ty #[.slice (amB ⟨g,o,amC⟩) agv asF,.slice (amB a) uM sCap]).run P w=
  .ok (goInt (Nat.min uM agv)) (w.setRow g (mP o cs cur.toList).toArray):=by
 have hl:=run_loadCells_list (P:=P) w a cs asG;have cq:=run_storeCells_at P g o t cs 0 cur w hg (by simpa using qY) h1
 cases hq:P.info? el with
 |none=>simp [hq] at hs
 |some i=>
  have hi:i.size=esz:=by simpa [hq] using hs
  simp [Builtin.copy_,run_underlying hu,Builtin.lenOf,Builtin.firstCells,sizeOf,typeInfo,hq,hi,hn,hl,cq,mP]
theorem BR.fU {li:LI} {k:jW} (h:BR im loc w li k) (hi:od im eH) (hl:mw loc bn) (hw:k.bM=amD->w'.heap[li.dh]? =w.heap[li.dh]?):BR eH bn w' li k:=by
 cases hs:k.bM with
 |true=>exact h.mono hi hl (hw hs)
 |false=>
  cases k with
  |arr e rows=>
   cases rows with
   |nil=>exact ⟨h.1,h.2.1,fun ec=>absurd rfl ec⟩
   |cons r rs=>cases hs
  |box cs=>cases hs
  |map es=>cases hs
  |dead=>trivial
theorem zf {r:nY} {t:Nat} {u:Value} (kM:SR im loc aD fz w) (he:tK im loc aD w r eH bn w') (sC:r.fr=[]) (hw:r.wr=[(t,.dead)]) (ht:t<amw aD) (hv:VR eH bn r.v u):
 vE im loc aD w r.v (aD.set t .dead++r.news) fz eH bn w' u:=by
 have cY:(aD.set t .dead).length=(amw aD):=by simp
 have old: ∀t' li,loc t'=amB li->t'<(amw aD):=fun t' li h=>by
  obtain ⟨k,hk,_⟩:=kM.dh t' li h;exact (Do.1 hk).1
 have R5: ∀t' li k,loc t'=amB li->(aD.set t .dead++r.news)[t']? =amB k->k.bM=amD->t'≠t/\aD[t']? =amB k:=by
  intro t' li k h hk hs;have dM:=old t' li h;rw [EQ (by omega),am2] at hk
  split at hk
  · first|(injection hk with hk;subst hk;cases hs)|(split at hk<;>first|(injection hk with hk;subst hk;cases hs)|cases hk)
  rename_i ec;exact ⟨fun e=>ec e.symm,hk⟩
 have R6: ∀t' k,amw aD<=t'->(aD.set t .dead++r.news)[t']? =amB k->r.news[t'-(amw aD)]? =amB k:=by
  intro t' k h hk
  rwa [M2 (by omega),cY] at hk
 have H9: ∀t' li,bn t'=amB li->loc t'=amB li\/(amw aD<=t'/\t'=amw aD+(t'-(amw aD))):=by
  intro t' li h;rcases he.k9 t' li h with h|⟨h,_⟩
  · exact .inl h
  exact .inr ⟨h,by omega⟩
 have imn: ∀b o,eH b=amB o->im b=amB o\/w.heap.size<=b:=by
  intro b o h;rcases he.eg b o h with h|h|⟨t0,li,k,h,_⟩
  · exact .inl h
  · exact .inr h
  rw [sC] at h;cases h
 have anZ: ∀t' li k,loc t'=amB li->aD[t']? =amB k->t'≠t->k.bM=amD->BR im loc w li k->w'.heap[li.dh]? =w.heap[li.dh]?:=by
  intro t' li k hl hk ec hs hb;refine he.frame li.dh (hb.lt hs) fun t0 k1 l0 k0 hm KT hk0 Jy e=>?_
  rw [hw] at hm;obtain ⟨rfl,rfl⟩:t0=t/\k1= .dead:=by simpa using hm
  exact ec (kM.iM _ _ _ _ _ _ hl KT hk hk0 hs Jy e.symm)
 have Xx: ∀t' li k,bn t'=amB li->amw aD<=t'->r.news[t'-(amw aD)]? =amB k->BR eH bn w' li k/\
  (k.bM=amD->eH li.dh=amC/\(w.heap.size<=li.dh\/ ∃lt k0,loc t=amB lt/\aD[t]? =amB k0/\k0.bM=amD/\lt.dh=li.dh)):=by
  intro t' li k hl ly hk;obtain ⟨h1,h2⟩:=he.news (t'-(amw aD)) k li hk (by rw [show (amw aD)+(t'-(amw aD))=t' by omega];exact hl)
  refine ⟨h1,fun hs=>⟨(h2 hs).1,?_⟩⟩
  rcases (h2 hs).2 with h|⟨t0,lt,k0,hm,a,b,c,d⟩
  · exact .inl h
  rw [hw] at hm
  obtain rfl:t0=t:=by have:=ae9.1 hm;injection this
  exact .inr ⟨lt,k0,a,b,c,d⟩
 have apart: ∀t1 u1 li lj k k',loc t1=amB li->t1≠t->aD[t1]? =amB k->k.bM=amD->bn u1=amB lj->amw aD<=u1->r.news[u1-(amw aD)]? =amB k'->k'.bM=amD->li.dh≠lj.dh:=by
  intro t1 u1 li lj k k' hl ec hk hs mC ly LF vA e;obtain ⟨k2,Cx,hb⟩:=kM.dh t1 li hl;rw [hk] at Cx;injection Cx with Cx;subst Cx;rcases ((Xx u1 lj k' mC ly LF).2 vA).2 with h|⟨lt,k0,a,b,c,d⟩
  · have:=hb.lt hs;omega
  exact ec (kM.iM _ _ _ _ _ _ hl a hk b hs c (by rw [e,d]))
 exact {
  gH:=he.gH,dV:=he.dV,vr:=hv
  sr:={
   bH:=he.bH
   dh:=fun t' li h=>by
    rcases H9 t' li h with ho|⟨ly,_⟩
    · obtain ⟨k,hk,hb⟩:=kM.dh t' li ho
      have dM:=old t' li ho
      by_cases e:t'=t
      · subst e
        exact ⟨.dead,by rw [EQ (by omega),List.getElem?_set_self (by omega)],trivial⟩
      refine ⟨k,by rw [EQ (by omega),agB (fun x=>e x.symm)];exact hk,hb.fU he.gH he.dV fun hs=>anZ t' li k ho hk e hs hb⟩
    have hn:t'-(amw aD)<(amw r.news):=by
     rcases he.k9 t' li h with ho|⟨_,h2⟩
     · have:=old t' li ho;omega
     omega
    obtain ⟨hb,_⟩:=Xx t' li _ h ly (v6 hn);exact ⟨_,by rw [M2 (by omega),cY];exact v6 hn,hb⟩
   iM:=fun t1 u1 li lj k k' hl mC hk LF hs vA e=>by
    rcases H9 t1 li hl with h1|⟨h1,_⟩<;>rcases H9 u1 lj mC with h2|⟨h2,_⟩
    · obtain ⟨n1,e1⟩:=R5 _ _ _ h1 hk hs
      obtain ⟨n2,e2⟩:=R5 _ _ _ h2 LF vA;exact kM.iM _ _ _ _ _ _ h1 h2 e1 e2 hs vA e
    · obtain ⟨n1,e1⟩:=R5 _ _ _ h1 hk hs
      exact absurd e (apart _ _ _ _ _ _ h1 n1 e1 hs mC h2 (R6 _ _ h2 LF) vA)
    · obtain ⟨n2,e2⟩:=R5 _ _ _ h2 LF vA
      exact absurd e.symm (apart _ _ _ _ _ _ h2 n2 e2 vA hl h1 (R6 _ _ h1 hk) hs)
    have:=he.distinct (t1-(amw aD)) (u1-(amw aD)) k k' li lj (R6 _ _ h1 hk) (R6 _ _ h2 LF) hs vA (by rw [show (amw aD)+(t1-(amw aD))=t1 by omega];exact hl) (by rw [show (amw aD)+(u1-(amw aD))=u1 by omega];exact mC) e
    omega
   free:=fun t' li k hl hk hs hz=>by
    rcases H9 t' li hl with h1|⟨h1,_⟩
    · obtain ⟨n1,e1⟩:=R5 _ _ _ h1 hk hs
      obtain ⟨k2,Cx,hb⟩:=kM.dh t' li h1;rw [e1] at Cx;injection Cx with Cx;subst Cx;have h0:=kM.free t' li k h1 e1 hs hz;cases hi:eH li.dh with
      |none=>rfl
      |some o=>
       rcases imn _ _ hi with h|h
       · rw [h0] at h;cases h
       have:=hb.lt hs;omega
    exact ((Xx t' li k hl h1 (R6 _ _ h1 hk)).2 hs).1}
  os:=he.os,tape:=he.tape,output:=he.output,size:=he.size
  frame:=fun b hb h=>he.frame b hb fun t0 k li k0 hm hl hk hs=>h t0 li k0 hl hk hs
  eg:=fun b o h=>by
   rcases imn b o h with h|h
   · exact .inl h
   exact .inr (.inl h)
  nR:=fun t' li h=>by
   rcases H9 t' li h with h|⟨h,_⟩
   · exact .inl h
   exact .inr h
  own:=fun t' li k hl hk hs=>by
   rcases H9 t' li hl with h1|⟨h1,_⟩
   · obtain ⟨n1,e1⟩:=R5 _ _ _ h1 hk hs
     exact .inr ⟨t',li,k,h1,e1,hs,rfl⟩
   rcases ((Xx t' li k hl h1 (R6 _ _ h1 hk)).2 hs).2 with h|⟨lt,k0,a,b,c,d⟩
   · exact .inl h
   exact .inr ⟨t,lt,k0,a,b,c,d⟩}
theorem SR.Ia (h:SR im loc aD fz w):loc (amw aD)=amC:=by
 cases hl:loc (amw aD) with
 |none=>rfl
 |some li=>obtain ⟨k,hk,_⟩:=h.dh _ _ hl;simp at hk
theorem R7 {t e:Nat} {li:LI} {rows L:List Row} {arr fin:Array Value} {el:TypeId} (kM:SR im loc aD fz w) (hl:loc t=amB li) (cq:aD[t]? =amB (.arr e rows)) (ec:rows≠[]) (hf:has fz t=amE)
 (ha:w.heap[li.dh]? =amB (.cells arr el (0,0))) (hh:w'.heap=w.heap.setIfInBounds li.dh (.cells fin el (0,0))) (ho:w'.os=w.os) (ht:w'.tape=w.tape) (hp:w'.output=w.output)
 (qT:fin.size=li.sz) (qY:li.sh+amw L*e<=li.sz) (hr:bO (fun k=>fin[k]?) li.sh e L):
 tK im loc aD w {v:= .own (amw aD) e 0 (amw L) (amw L) amE,news:=[.arr e L],wr:=[(t,.dead)]} im (loc.set (amw aD) ⟨li.dh,li.sh,e,amw L,li.sz⟩) w':=by
 have dM:=(NE.1 ha).1;have AA:(jW.arr e rows).bM=amD:=nC ec;have Br:=kM.free t li _ hl cq AA hf;have TE:=kM.Ia;exact {
  gH:= .refl _,dV:=Loc.x5 _ TE
  bH:=fun b o hb=>by
   have h1:=kM.bH b o hb;have N4:li.dh≠b:=fun e=>by rw [e,hb] at Br;cases Br
   rw [hh,ae1,rc N4];exact h1
  eg:=fun _ _ h=> .inl h,os:=ho,tape:=ht,output:=hp
  size:=by rw [hh];simp
  RE:=fun t' k hm hs=>by
   obtain ⟨rfl,rfl⟩:t'=t/\k= .dead:=by simpa using hm
   cases hs
  frame:=fun b _ hb=>by
   have N4:=hb t .dead li _ (ae9.2 rfl) hl cq AA;rw [hh,ae1,rc N4]
  wr:=fun t' k li hm mC=>by
   obtain ⟨rfl,rfl⟩:t'=t/\k= .dead:=by simpa using hm
   trivial
  k9:=fun t' l h=>by
   unfold Loc.set at h;split at h
   · rename_i e;subst e;exact .inr ⟨If _,by simp⟩
   exact .inl h
  news:=CI fun j k hj=>by
   cases j with
   |zero=>
    simp at hj;subst hj;refine ⟨_,Loc.eX _ _ _,⟨rfl,rfl,fun _=>⟨fin,el,by rw [hh];simp [dM],qT,qY,hr⟩⟩,fun _=>⟨Br,.inr ⟨t,li,_,ae9.2 rfl,hl,cq,AA,rfl⟩⟩⟩
   |succ j=>simp at hj
  distinct:=fun i j ki kj li lj h1 h2 _ _ _ _ _=>by
   cases i<;>cases j<;>simp at h1 h2<;>rfl}
theorem Ib {t e:Nat} {L:List Row} {fin:Array Value} {el:TypeId} (kM:SR im loc aD fz w)
 (hh:w'.heap=w.heap.push (.cells fin el (0,0))) (ho:w'.os=w.os) (ht:w'.tape=w.tape) (hp:w'.output=w.output)
 (qY:(amw L)*e<=fin.size) (hr:bO (fun k=>fin[k]?) 0 e L):
 tK im loc aD w {v:= .own (amw aD) e 0 (amw L) (amw L) amE,news:=[.arr e L],wr:=[(t,.dead)]} im (loc.set (amw aD) ⟨w.heap.size,0,e,amw L,fin.size⟩) w':=by
 have TE:=kM.Ia;have old: ∀b,b<w.heap.size->w'.heap[b]? =w.heap[b]?:=fun b hb=>by rw [hh,Array.getElem?_push,rc (by omega)]
 have dM: ∀b o,im b=amB o->b<w.heap.size:=fun b o h=>(NE.1 (kM.bH b o h)).1
 exact {
  gH:= .refl _,dV:=Loc.x5 _ TE
  bH:=fun b o hb=>by rw [old b (dM b o hb)];exact kM.bH b o hb
  eg:=fun _ _ h=> .inl h,os:=ho,tape:=ht,output:=hp
  size:=by rw [hh];simp
  RE:=fun t' k hm hs=>by
   obtain ⟨rfl,rfl⟩:t'=t/\k= .dead:=by simpa using hm
   cases hs
  frame:=fun b hb _=>old b hb
  wr:=fun t' k li hm mC=>by
   obtain ⟨rfl,rfl⟩:t'=t/\k= .dead:=by simpa using hm
   trivial
  k9:=fun t' l h=>by
   unfold Loc.set at h;split at h
   · rename_i e;subst e;exact .inr ⟨If _,by simp⟩
   exact .inl h
  news:=CI fun j k hj=>by
   cases j with
   |zero=>
    simp at hj;subst hj;refine ⟨_,Loc.eX _ _ _,⟨rfl,rfl,fun _=>⟨fin,el,by rw [hh];simp,rfl,by simpa using qY,hr⟩⟩,fun _=>⟨?_,.inl (If _)⟩⟩
    cases hi:im w.heap.size with
    |none=>rfl
    |some o=>have:=dM _ _ hi;omega
   |succ j=>simp at hj
  distinct:=fun i j ki kj li lj h1 h2 _ _ _ _ _=>by
   cases i<;>cases j<;>simp at h1 h2<;>rfl}
theorem Ic {esz:Nat}: ∀{rows:List Row} (_: ∀r∈rows,amw r=esz) (i:Nat),(rows.take i).flatMap aY=(rows.flatMap aY).take (i*esz)
 | [],_,i=>by simp
 |r::rs,h,0=>by simp
 |r::rs,h,i+1=>by
  have hr:(aY r).length=esz:=by rw [lC];exact h r (by simp)
  have e1:(aY r).take ((i+1)*esz)=aY r:=af4 (by rw [hr,agK];omega)
  rw [List.take_succ_cons,afY,Ic (fun x hx=>h x (by simp [hx])) i,afY,List.take_append,e1,hr,show (i+1)*esz-esz=i*esz by rw [agK];omega]
theorem Ie {esz:Nat}: ∀{rows:List Row} (_: ∀r∈rows,amw r=esz) (i:Nat),(rows.drop i).flatMap aY=(rows.flatMap aY).drop (i*esz)
 | [],_,i=>by simp
 |r::rs,h,0=>by simp
 |r::rs,h,i+1=>by
  have hr:(aY r).length=esz:=by rw [lC];exact h r (by simp)
  have e1:(aY r).drop ((i+1)*esz)=[]:=agl (by rw [hr,agK];omega)
  rw [List.drop_succ_cons,Ie (fun x hx=>h x (by simp [hx])) i,afY,List.drop_append,e1,hr,show (i+1)*esz-esz=i*esz by rw [agK];omega,List.nil_append]
theorem Xy {α:Type} {o k:Nat} {cs vs l:List α} (hl:o+(amw cs+amw vs)<=amw l) (hk:k<=amw cs) (mE: ∀j v,j<k->cs[j]? =amB v->l[o+j]? =amB v):
 ∀j v,(cs.take k++vs++cs.drop k)[j]? =amB v->(mP (o+k) vs (mP (o+k+amw vs) (cs.drop k) l))[o+j]? =amB v:=by
 intro j v h;have hd:(cs.drop k).length=amw cs-k:=agd;have ht:(cs.take k).length=k:=by rw [agj];omega
 have l1:o+k+amw vs+(cs.drop k).length<=(amw l):=by rw [hd];omega
 rw [gW _ _ _ (by rw [c8 _ _ _ l1];omega)]
 rcases acl j k with h1|h1
 · rw [rc (by omega),gW _ _ _ l1,rc (by omega)]
   rw [afc,EQ (by omega),afZ h1] at h
   exact mE j v h1 h
 rw [afc,M2 (by omega),ht] at h
 rcases acl (j-k) (amw vs) with h2|h2
 · rw [EQ h2] at h
   rw [pp ⟨by omega,by omega⟩,<- h]
   congr 1;omega
 rw [M2 h2] at h
 have:=(Do.1 h).1
 rw [rc (by omega),gW _ _ _ l1,pp ⟨by omega,by omega⟩,<- h]
 congr 1;omega
theorem Ub {α:Type} {k:Nat} {cs vs l:List α} (hl:(amw cs)+amw vs<=amw l) (hk:k<=amw cs) (mE: ∀(j:Nat) (v:α),j<k->cs[j]? =amB v->l[j]? =amB v):
 ∀(j:Nat) (v:α),(cs.take k++vs++cs.drop k)[j]? =amB v->(mP (k+amw vs) (cs.drop k) (mP k vs l))[j]? =amB v:=by
 intro j v h;have hd:(cs.drop k).length=amw cs-k:=agd;have ht:(cs.take k).length=k:=by rw [agj];omega
 have l1:k+amw vs<=(amw l):=by omega
 rw [gW _ _ _ (by rw [c8 _ _ _ l1,hd];omega)]
 rcases acl j k with h1|h1
 · rw [rc (by omega),gW _ _ _ l1,rc (by omega)]
   rw [afc,EQ (by omega),afZ h1] at h
   exact mE j v h1 h
 rw [afc,M2 (by omega),ht] at h
 rcases acl (j-k) (amw vs) with h2|h2
 · rw [EQ h2] at h
   rw [rc (by omega),gW _ _ _ l1,pp ⟨by omega,by omega⟩,<- h]
 rw [M2 h2] at h
 have:=(Do.1 h).1
 rw [pp ⟨by omega,by omega⟩,<- h]
 congr 1;omega
theorem SR.R8 (h:SR im loc aD fz w) {t:Nat} (hf:has fz t=amE) {r:nY} (hw:r.wr=[(t,.dead)]):jn im loc aD w r where
 bH:=h.bH
 tok:=fun t _ li hl=>h.dh t li hl
 free:=fun t' k hm li k' hl hk hs=>by
  rw [hw] at hm;obtain rfl:t'=t:=by have:=ae9.1 hm;injection this
  exact h.free t' li k' hl hk hs hf
 fresh:=fun j hj=>by
  cases hl:loc (amw aD+j) with
  |none=>rfl
  |some li=>obtain ⟨k,hk,_⟩:=h.dh _ _ hl;rw [List.getElem?_eq_none (by omega)] at hk;cases hk
 iM:=fun t u li lj k k' _ _=>h.iM t u li lj k k'
structure LL (P:Program) (f:FuncId) (e:Nat) (tS:TypeId):Prop where
 ends: ∀(o7:Option Addr) (n c vb oW vc:Nat) (w w':World) (v':Value),n<=c->(Builtin.append_ #[tS,tS] tS #[.slice o7 n c,.slice (amB ⟨vb,oW,amC⟩) 1 vc]).run P w= .ok v' w'->
  Calls P f #[.slice o7 n c,.int .i64 n,.slice (amB ⟨vb,oW,amC⟩) 1 vc] w fun e W=>e= .returned v'/\W=w'
 room: ∀(b off n c i vb oW vc:Nat) (cs vs:List Value) (arr av:Array Value) (el ev:TypeId) (w:World),i<n->n+1<=c->n<=1048576->vb≠b->w.heap[b]? =amB (.cells arr el (0,0))->w.heap[vb]? =amB (.cells av ev (0,0))->
  off+(n+1)*e<=arr.size->amw cs=n*e->amw vs=e->(∀(j:Nat) (v:Value),cs[j]? =amB v->arr[off+j]? =amB v)->(∀(j:Nat) (v:Value),vs[j]? =amB v->av[oW+j]? =amB v)->(∀v∈cs,v.oneCell'=amD)->(∀v∈vs,v.oneCell'=amD)->
  ∃fin:List Value,amw fin=arr.size/\(∀(j:Nat) (v:Value),(cs.take (i*e)++vs++cs.drop (i*e))[j]? =amB v->fin[off+j]? =amB v)/\
  Calls P f #[.slice (amB ⟨b,off,amC⟩) n c,.int .i64 i,.slice (amB ⟨vb,oW,amC⟩) 1 vc] w fun x w'=>
   x= .returned (.slice (amB ⟨b,off,amC⟩) (n+1) c)/\w'.heap=w.heap.setIfInBounds b (.cells fin.toArray el (0,0))/\w'.os=w.os/\w'.tape=w.tape/\w'.output=w.output
 full: ∀(b off n i vb oW vc:Nat) (cs vs:List Value) (w:World),i<n->n<=1048576->amw cs=n*e->amw vs=e->
  (∀(j:Nat) (v:Value),cs[j]? =amB v->w.cell? ⟨b,off+j,amC⟩=amB v)->(∀(j:Nat) (v:Value),vs[j]? =amB v->w.cell? ⟨vb,oW+j,amC⟩=amB v)->(∀v∈cs,v.oneCell'=amD)->(∀v∈vs,v.oneCell'=amD)->
  ∃(G:Nat) (fin:List Value) (el:TypeId),n+1<=G/\amw fin=G*e/\(∀(j:Nat) (v:Value),(cs.take (i*e)++vs++cs.drop (i*e))[j]? =amB v->fin[j]? =amB v)/\
  Calls P f #[.slice (amB ⟨b,off,amC⟩) n n,.int .i64 i,.slice (amB ⟨vb,oW,amC⟩) 1 vc] w fun x w'=>
   x= .returned (.slice (amB ⟨w.heap.size,0,amC⟩) (n+1) G)/\w'.heap=w.heap.push (.cells fin.toArray el (0,0))/\w'.os=w.os/\w'.tape=w.tape/\w'.output=w.output
theorem Bu.ins {f:FuncId} {e:Nat} {tS tE:TypeId} {fn:Func} {c:Code} {i0:TypeInfo} {z:Value} (hf:P.funcs[f]? =amB fn) (qx:(fn.name== "runtime.NumGoroutine")=amE) (hb:fn.body=amB c)
 (ht:P.underlying tS=amB (.slice tE)) (hi:P.info? tE=amB i0) (qT:i0.size=e) (hz:i0.zero=amB z) (Lf:z.cells.size=e) (N2:i0.bytes<=1048576) (he0:0<e) (H:LL P f e tS):Bu P f (Jd e):=by
 refine ⟨fn,c,hf,qx,hb,?_⟩;intro args aD fz v vF Js hp im loc w us kM xU;unfold Jd at hp;split at hp
 case h_2=>cases hp
 rename_i t e1 off len cap ex i u e2 am9 K5 Uc ex2;split at hp
 case h_2=>cases hp
 rename_i e3 rows e4 new cq hsu;split at hp
 case isFalse=>cases hp
 rename_i hc;simp only [ut,alX,UV,decide_eq_true_eq,afg] at hc;obtain ⟨⟨⟨⟨⟨⟨⟨⟨⟨⟨⟨q1,q2⟩,rfl⟩,rfl⟩,cY⟩,rfl⟩,Bp⟩,htu⟩,Tl⟩,Qi⟩,hil⟩,ij⟩:=hc;have q1:=q1.symm;subst q1;have q2:=q2.symm;subst q2;have ij:len+1<=1048576:=ij;injection hp with hp;simp only [IR] at hp;obtain ⟨rfl,rfl,rfl⟩:=hp
 obtain ⟨k,rfl⟩: ∃k:Nat,i=(k:Int):=⟨i.toNat,by omega⟩
 simp only [Int.toNat_natCast] at hil ⊢;obtain ⟨x0,R9,rfl,JC,xU⟩: ∃x0 R9,us=x0::R9/\VR im loc (.own t e 0 len cap ex) x0/\fh im loc [.int .i64 (k:Int),.own u e 0 1 Uc ex2] R9:=by cases xU with|cons _ a _ b h1 h2=>exact ⟨a,b,rfl,h1,h2⟩
 obtain ⟨x1,us2,rfl,Hy,xU⟩: ∃x1 us2,R9=x1::us2/\VR im loc (.int .i64 (k:Int)) x1/\fh im loc [.own u e 0 1 Uc ex2] us2:=by cases xU with|cons _ a _ b h1 h2=>exact ⟨a,b,rfl,h1,h2⟩
 obtain ⟨x2,us3,rfl,Xw,xU⟩: ∃x2 us3,us2=x2::us3/\VR im loc (.own u e 0 1 Uc ex2) x2/\fh im loc [] us3:=by cases xU with|cons _ a _ b h1 h2=>exact ⟨a,b,rfl,h1,h2⟩
 obtain rfl:us3=[]:=by cases xU;rfl
 have Hy:=Hy.gu;subst Hy;obtain ⟨li,a,c7,rfl,hl,he,CJ,hlc,NX,_,Bq⟩:=JC.gV;obtain ⟨lj,a2,Ud,rfl,Ld,DI,avP,axu,axv,_,an2⟩:=Xw.gV;have Oi:t<(amw aD):=(Do.1 cq).1;obtain ⟨k1,gS,sD⟩:=kM.dh t li hl;rw [cq] at gS;injection gS with gS;subst gS;obtain ⟨k2,Cx,asH⟩:=kM.dh u lj Ld;rw [hsu] at Cx;injection Cx with Cx;subst Cx
 obtain ⟨b1,b2,b3⟩:=sD;obtain ⟨d1,d2,d3⟩:=asH;have agw:new≠[]:=by intro h;subst h;simp at Bp
 obtain ⟨av,ev,NO,hv2,hv3,agx⟩:=d3 agw;have e34:e=e3:=by rw [<- b1,he]
 subst e34;have e44:e=e4:=by rw [<- d1,DI]
 subst e44;obtain rfl:a2=amB ⟨lj.dh,lj.sh,amC⟩:=by
  rcases an2 with h|⟨_,h,_⟩
  · omega
  simpa using h
 have Ht:=agx.og;have Tm:=agx.plain;have Hu:=dH Ht;rw [Bp] at Hu;refine .inr ⟨iq hf qx hb,?_⟩;rcases acl k len with hk|hk
 ·
  have oi:rows≠[]:=by intro h;subst h;simp at cY;omega
  obtain ⟨arr,el,tM,Ji,KS,de⟩:=b3 oi;obtain ⟨Xb,rfl,qY⟩:li.n≠0/\a=amB ⟨li.dh,li.sh,amC⟩/\li.sh+c7*e<=li.sz:=by
   rcases Bq with h|⟨h1,h2,h3⟩
   · omega
   exact ⟨h1,by simpa using h2,by simpa using h3⟩
  have Lb:=de.og;have Xe:=de.plain;have TC:=dH Lb;rw [<- cY] at TC;obtain ⟨L,hL⟩: ∃L,L=rows.take k++new++rows.drop k:=⟨_,rfl⟩;have hLl:(amw L)=len+1:=by rw [hL];simp only [af3,agj,agd,Bp];omega
  have hLf:L.flatMap aY=(rows.flatMap aY).take (k*e)++new.flatMap aY++(rows.flatMap aY).drop (k*e):=by
   rw [hL,afI,afI,Ic Lb,Ie Lb]
  have hLr: ∀r∈L,amw r=e:=by
   intro r hr;rw [hL] at hr;rcases adm.1 hr with h|h
   · rcases adm.1 h with h|h
     · exact Lb r (aig h)
     exact Ht r h
   exact Lb r (aka h)
  have hLp: ∀r∈L,∀c∈r,c.plain=amD:=by
   intro r hr;rw [hL] at hr;rcases adm.1 hr with h|h
   · rcases adm.1 h with h|h
     · exact Xe r (aig h)
     exact Tm r h
   exact Xe r (aka h)
  rw [<- hL,<- hLl];have mE: ∀j v,(rows.flatMap aY)[j]? =amB v->arr[li.sh+j]? =amB v:=fun j v hj=>de.flat j v hj
  have Jn: ∀j v,(new.flatMap aY)[j]? =amB v->av[lj.sh+j]? =amB v:=fun j v hj=>agx.flat j v hj
  have Hq:(len+1)*e<=c7*e\/c7=len:=by
   rcases acl len c7 with h|h
   · exact .inl (akb _ h)
   exact .inr (by omega)
  rcases Hq with tN|Qe
  · have an4:len+1<=c7:=Nat.le_of_mul_le_mul_right tN he0
    have ec:lj.dh≠li.dh:=fun h=>by
     have:=kM.iM u t lj li _ _ Ld hl hsu cq (nC agw) (nC oi) h
     rw [this] at htu;simp at htu
    obtain ⟨fin,f1,f2,f3⟩:=H.room li.dh li.sh len c7 k lj.dh lj.sh Ud _ _ arr av el ev w hk an4 (by omega) ec tM NO (by omega) TC (by omega) mE Jn (oh Xe) (oh Tm)
    refine f3.mono fun x w' ⟨hx,hh,ho,htp,hpp⟩=>⟨_,hx,im,loc.set (amw aD) ⟨li.dh,li.sh,e,amw L,li.sz⟩,?_⟩
    have hE:=R7 (w':=w') (L:=L) kM hl cq oi Tl tM hh ho htp hpp (by simp [f1,Ji]) (by rw [hLl];omega) (bO.Ay hLr hLp fun j v hj=>by
     rw [hLf] at hj;simpa using f2 j v hj)
    refine zf kM hE rfl rfl Oi ?_;rw [<- hLl];exact .own _ _ 0 _ _ amE ⟨li.dh,li.sh,e,amw L,li.sz⟩ _ c7 (Loc.eX _ _ _) rfl (by show 0+amw L<=amw L;omega) (If _) (by omega) (fun h=>by cases h) (.inr ⟨by show (amw L)≠0;omega,by simp,by show li.sh+(0+c7)*e<=li.sz;rw [amv];exact qY⟩)
  subst Qe
  obtain ⟨G,fin,el',g1,g2,g3,g4⟩:=H.full li.dh li.sh c7 k lj.dh lj.sh Ud _ _ w hk (by omega) TC (by omega) (fun j v hj=>by simp only [am5,tM];exact mE j v hj) (fun j v hj=>by simp only [am5,NO];exact Jn j v hj) (oh Xe) (oh Tm)
  have hg:(c7+1)*e<=G*e:=akb _ g1;refine g4.mono fun x w' ⟨hx,hh,ho,htp,hpp⟩=>⟨_,hx,im,loc.set (amw aD) ⟨w.heap.size,0,e,amw L,fin.toArray.size⟩,?_⟩
  have hE:=Ib (w':=w') (t:=t) (L:=L) (e:=e) kM hh ho htp hpp (by rw [hLl];simp [g2];omega) (bO.Ay hLr hLp fun j v hj=>by
   rw [hLf] at hj;simpa using g3 j v hj)
  refine zf kM hE rfl rfl Oi ?_;rw [<- hLl];exact .own _ _ 0 _ _ amE ⟨w.heap.size,0,e,amw L,fin.toArray.size⟩ _ G (Loc.eX _ _ _) rfl (by show 0+amw L<=amw L;omega) (If _) (by omega) (fun h=>by cases h) (.inr ⟨by show (amw L)≠0;omega,by simp,by show 0+(0+G)*e<=fin.toArray.size;simp [g2]⟩)
 ·
  obtain rfl:k=len:=by omega
  have asI:rows.take k++new++rows.drop k=rows++new:=by
   rw [af4 (by omega),agl (by omega),List.append_nil]
  rw [asI];have asJ:VR im loc (.own t e 0 k k amE) (.slice a k c7):= .own t e 0 k k amE li a c7 hl he (by omega) (If _) (by omega) (by simp) Bq
  have Bh:rowsOf aD e (.own u e 0 1 Uc ex2)=amB new:=by
   have:(new.drop 0).take 1=new:=by rw [amo,af4 (by omega)]
   show (if AC e e=amD then (match aD[u]? with|some (.arr _ rows)=>amB ((rows.drop 0).take 1)|_=>amC) else amC)=_
   rw [pp (Nat.beq_refl e),hsu];exact congrArg amB this
  have hap:iR aD fz e (.own t e 0 k k amE) (.own u e 0 1 Uc ex2)=amB {v:= .own (amw aD) e 0 (k+1) (k+1) amE,news:=[.arr e (rows++new)],wr:=[(t,.dead)],rd:=[u]}:=by
   have h1:ae3 (k+1) k=amE:=by
    cases h:ae3 (k+1) k with
    |false=>rfl
    |true=>have:=Nat.le_of_ble_eq_true h;omega
   have h2:ae3 (k+1) eu=amD:=by simpa [eu] using ij
   have h3:(rows.drop 0).take k=rows:=by rw [amo,af4 (by omega)]
   unfold iR;rw [Bh];cases new with
   |nil=>exact absurd rfl agw
   |cons r rs=>
    have h0:(r::rs).length=1:=Bp;simp only [h0,cq,h1,h2,h3,Tl,iQ];simp
  obtain ⟨v',w',bn,cy,oV,hE⟩:=E2 (P:=P) (w:=w) (ty:=tS) ht ht hi qT hz Lf N2 asJ Xw hap (kM.R8 Tl rfl);refine (H.ends a k c7 lj.dh lj.sh Ud w w' v' (by omega) cy).mono fun x W ⟨hx,hW⟩=>⟨v',hx,im,bn,?_⟩
  subst hW;exact zf kM hE rfl rfl Oi oV
end
end Go.Vm
/- slices.Concat of two slices that nobody writes to: the table's entry. -/
namespace Go.Vm
def Ue (P : Program) (f : FuncId) : Prop :=
  ∀ (vb c : Nat) (a1 a2 : Option Addr) (c1 c2 : Nat) (Hz HA : List Value) (av : Array Value) (ev : TypeId) (w : World), w.heap[vb]? = amB (.cells av ev (0, 0)) -> av[0]? = amB (.slice a1 (amw Hz) c1) -> av[1]? = amB (.slice a2 (amw HA) c2) -> 1 <= (amw Hz) + (amw HA) -> (amw Hz) + (amw HA) <= 1048576 ->
    (∀ (j : Nat) (v : Value), Hz[j]? = amB v -> ∃ b o, a1 = amB ⟨b, o, amC⟩ /\ w.cell? ⟨b, o + j, amC⟩ = amB v) -> (∀ (j : Nat) (v : Value), HA[j]? = amB v -> ∃ b o, a2 = amB ⟨b, o, amC⟩ /\ w.cell? ⟨b, o + j, amC⟩ = amB v) -> (∀ v ∈ Hz, v.oneCell' = amD) -> (∀ v ∈ HA, v.oneCell' = amD) ->
    ∃ (G : Nat) (fin : List Value) (el : TypeId), (amw Hz) + (amw HA) <= G /\ (amw fin) = G /\ (∀ (j : Nat) (v : Value), (Hz ++ HA)[j]? = amB v -> fin[j]? = amB v) /\
    Calls P f #[.slice (amB ⟨vb, 0, amC⟩) 2 c] w fun x w' => x = .returned (.slice (amB ⟨w.heap.size, 0, amC⟩) ((amw Hz) + (amw HA)) G) /\ w'.heap = w.heap.push (.cells fin.toArray el (0, 0)) /\ w'.os = w.os /\ w'.tape = w.tape /\ w'.output = w.output
section
variable {P : Program} {im : Im} {loc : Loc} {w : World}
theorem nb {rows:List Row} (h:wj rows=amD):(∀r∈rows,amw r=1)/\ ∀r∈rows,∀c∈r,c.plain=amD:=by
 unfold wj at h;rw [ae4] at h;constructor
 · intro r hr
   have:=h r hr
   simp only [ut,alX] at this;exact this.1
 intro r hr c hc
 have:=h r hr
 simp only [ut,ae4] at this;exact this.2 c hc
theorem LM {e:Nat} {cl:Bool} {rows:List Row} {u:Value} (h:VR im loc (.sl e cl rows) u) (h1:wj rows=amD) (he:(AC e 1||rows.isEmpty)=amD) (bH: ∀b o,im b=amB o->w.heap[b]? =amB o):
 ∃a c,u= .slice a (rows.flatMap aY).length c/\(rows.flatMap aY).length=amw rows/\ ∀(j:Nat) (v:Value),(rows.flatMap aY)[j]? =amB v-> ∃b o,a=amB ⟨b,o,amC⟩/\w.cell? ⟨b,o+j,amC⟩=amB v:=by
 obtain ⟨a,cap,rfl,_,_,lB⟩:=h.oe;obtain ⟨l1,l2⟩:=nb h1;have hl:=dH l1;rw [Nat.mul_one] at hl;refine ⟨a,cap,by rw [hl],hl,fun j v hj=>?_⟩
 have ec:rows≠[]:=by intro h;subst h;simp at hj
 obtain ⟨b,o,rfl,de⟩:=lB ec;obtain rfl:e=1:=by
  cases rows with
  |nil=>exact absurd rfl ec
  |cons r rs=>simpa using he
 exact ⟨b,o,rfl,qt bH (de.flat j v hj)⟩
theorem Bu.cat {f:FuncId} {fn:Func} {c:Code} (hf:P.funcs[f]? =amB fn) (qx:(fn.name== "runtime.NumGoroutine")=amE) (hb:fn.body=amB c) (H:Ue P f):Bu P f Jb:=by
 refine ⟨fn,c,hf,qx,hb,?_⟩;intro args aD fz v vF Js hp im loc w us kM xU;unfold Jb at hp;split at hp
 case h_2=>cases hp
 rename_i t e off len cap ex;split at hp
 case h_2=>cases hp
 rename_i e1 cl1 x e2 cl2 y cq;split at hp
 case isFalse=>cases hp
 rename_i hc;simp only [ut,alX,UV,afg] at hc;obtain ⟨⟨⟨⟨⟨⟨⟨⟨⟨rfl,rfl⟩,rfl⟩,Tl⟩,Hy⟩,Xz⟩,Hs⟩,ij⟩,Tn⟩,DI⟩:=hc;have ij:(amw x)+amw y<=1048576:=ij;injection hp with hp;simp only [IR] at hp;obtain ⟨rfl,rfl,rfl⟩:=hp
 obtain ⟨x0,R9,rfl,JC,xU⟩: ∃x0 R9,us=x0::R9/\VR im loc (.own t 1 0 2 cap ex) x0/\fh im loc [] R9:=by cases xU with|cons _ a _ b h1 h2=>exact ⟨a,b,rfl,h1,h2⟩
 obtain rfl:R9=[]:=by cases xU;rfl
 obtain ⟨li,a,c7,rfl,hl,he,CJ,hlc,NX,_,Bq⟩:=JC.gV;obtain ⟨k1,gS,sD⟩:=kM.dh t li hl;rw [cq] at gS;injection gS with gS;subst gS;obtain ⟨_,_,b3,vs,ev,b4,b5,b6⟩:=sD;have Oi:t<(amw aD):=(Do.1 cq).1
 obtain ⟨u1,vs1,rfl,v1,b6⟩: ∃u1 vs1,vs=u1::vs1/\VR im loc (.sl e1 cl1 x) u1/\fh im loc [.sl e2 cl2 y] vs1:=by cases b6 with|cons _ a _ b h1 h2=>exact ⟨a,b,rfl,h1,h2⟩
 obtain ⟨u2,vs2,rfl,v2,b6⟩: ∃u2 vs2,vs1=u2::vs2/\VR im loc (.sl e2 cl2 y) u2/\fh im loc [] vs2:=by cases b6 with|cons _ a _ b h1 h2=>exact ⟨a,b,rfl,h1,h2⟩
 obtain rfl:vs2=[]:=by cases b6;rfl
 obtain rfl:a=amB ⟨li.dh,0,amC⟩:=by
  rcases Bq with h|⟨_,h,_⟩
  · omega
  rw [b3] at h;simpa using h
 obtain ⟨a1,d1,rfl,l1,r1⟩:=LM v1 Hy Tn kM.bH;obtain ⟨a2,d2,rfl,l2,r2⟩:=LM v2 Xz DI kM.bH;obtain ⟨G,fin,el,g1,g2,g3,g4⟩:=H li.dh c7 a1 a2 d1 d2 (x.flatMap aY) (y.flatMap aY) _ ev w b4 rfl rfl (by omega) (by omega) r1 r2 (oh (nb Hy).2) (oh (nb Xz).2)
 refine .inr ⟨iq hf qx hb,?_⟩;have hL:(x++y).length=(x.flatMap aY).length+(y.flatMap aY).length:=by rw [af3];omega
 refine g4.mono fun z w' ⟨hz,hh,ho,htp,hpp⟩=>⟨_,hz,im,loc.set (amw aD) ⟨w.heap.size,0,1,(x++y).length,fin.toArray.size⟩,?_⟩
 have hE:=Ib (w':=w') (t:=t) (L:=x++y) (e:=1) kM hh ho htp hpp (by rw [Nat.mul_one,hL,List.size_toArray,g2];exact g1) (bO.Ay (fun r hr=>by
  rcases adm.1 hr with h|h
  · exact (nb Hy).1 r h
  · exact (nb Xz).1 r h) (fun r hr=>by
  rcases adm.1 hr with h|h
  · exact (nb Hy).2 r h
  · exact (nb Xz).2 r h) fun j v hj=>by
  rw [afI] at hj;simpa using g3 j v hj)
 refine zf kM hE rfl rfl Oi ?_;rw [<- hL];exact .own _ _ 0 _ _ amE ⟨w.heap.size,0,1,(x++y).length,fin.toArray.size⟩ _ G (Loc.eX _ _ _) rfl (by show 0+(x++y).length<=(x++y).length;rw [amv];exact If _) (If _) (by rw [hL];exact g1) (fun h=>by cases h) (.inr ⟨by show (x++y).length≠0;omega,by simp,by show 0+(0+G)*1<=fin.toArray.size;simp [g2]⟩)
end
end Go.Vm
/- A table of functions as a tree. -/
namespace Go.Vm
inductive TT where
 |nil
 |leaf (k:Nat) (e:Ent)
 |node (m:Nat) (a b:TT)
def TT.get:TT->Nat->Option Ent
 | .nil,_=>amC
 | .leaf k e,f=>bif AC f k then amB e else amC
 | .node m a b,f=>bif afx f m then a.get f else b.get f
def TT.All (p:Nat->Ent->Prop):TT->Prop
 | .nil=>True
 | .leaf k e=>p k e
 | .node _ a b=>a.All p/\b.All p
theorem TT.BD {p:Nat->Ent->Prop}: ∀{t:TT} {f:Nat} {e:Ent},t.All p->t.get f=amB e->p f e
 | .nil,f,e,_,h=>by cases h
 | .leaf k e',f,e,ha,h=>by
  simp only [TT.get] at h;cases hk:AC f k with
  |false=>rw [hk] at h;cases h
  |true=>
   rw [hk] at h
   have:f=k:=by simpa using hk
   subst this;have h:amB e'=amB e:=h;injection h with h;subst h;exact ha
 | .node m a b,f,e,ha,h=>by
  simp only [TT.get] at h;cases hk:afx f m with
  |false=>rw [hk] at h;exact TT.BD ha.2 h
  |true=>rw [hk] at h;exact TT.BD ha.1 h
def tQ (P:Program) (f:Nat):Ent->Prop
 | .code x=>ax P (fun _=>amD) x f=amD
 | .kg k p=>k=amE/\Jt P f p
 | .Hj p=>Bu P f p
theorem TT.an5 {P:Program} {t:TT} (h:t.All (tQ P)):LG P (fun _=>amD) t.get:=fun f x hf=>by
 have:=TT.BD h hf
 exact this
theorem TT.XA {P:Program} {t:TT} (h:t.All (tQ P)):za P t.get:=⟨fun _ _ _ hf=>TT.BD h hf,fun _ _ hf=>TT.BD h hf⟩
end Go.Vm
/- The logical machine's code of a function, reckoned from the model's own (what it comes to is looked at by chkFunc; nothing is proved of it here). -/
namespace Go.Vm
structure Hint where
 md:FuncId->CM
 fU:List Nat
 asK:List (Nat×List (Nat×Nat)):=[]
 more:List (Nat×List (Nat×Option Nat)):=[]
 tb:Bool:=amE
section
variable (P : Program)
def Sa (t:TypeId):Nat:=match P.info? t with
 |some i=>i.size
 |none=>0
def Oq (t:TypeId):Option Nat:=match P.underlying t with
 |some (.struct _)|some (.array _ _)=>amB (Sa P t)
 |_=>amC
def uQ:Nat->TypeId->List PV
 |0,_=>[]
 |n+1,t=>match P.underlying t with
  |some (.int k)=>[.int k 0]
  |some .bool=>[.bool amE]
  |some .string=>[.str .empty]
  |some (.slice e)=>[.sl (Sa P e) amD []]
  |some (.struct fs)=>fs.toList.flatMap fun f=>uQ n f.type
  |some (.array m e)=>(afe m (uQ n e)).flatten
  |some (.func ..)=>[.dU]
  |_=>[.undef]
def afl (t:TypeId):PV:=match uQ P 9 t with
 |x::_=>x
 | []=> .sl 0 amD []
def afm (t:TypeId):PV:=match Oq P t with
 |some _=> .agg (uQ P 9 t)
 |none=>afl P t
def afn (z:PV):Value->PV
 | .int k n=> .int k n
 | .bool b=> .bool b
 | .string s=> .str s
 | .slice .. =>z
 | .nilFunc=> .dU
 |_=> .undef
def afo:List PV->List Value->List PV
 |z::zs,v::vs=>afn z v::afo zs vs
 |_,_=>[]
def asL (t:TypeId):Value->PV
 | .agg vs=> .agg (afo (uQ P 9 t) vs.toList)
 |v=>afn (afl P t) v
def rL (t:TypeId):Operand->fH
 | .tmp n=> .t n
 | .const v=> .c (asL P t v)
 | .func f=> .c (.eV f [] [])
 | .global _=> .c .undef
def Uf:List TypeId->List Operand->List fH
 |t::ts,o::os=>rL P t o::Uf ts os
 |_,_=>[]
def gA:Operand->fH
 | .tmp n=> .t n
 | .const (.int k n)=> .c (.int k n)
 | .const (.bool b)=> .c (.bool b)
 | .const (.string s)=> .c (.str s)
 | .func f=> .c (.eV f [] [])
 |_=> .c .undef
def zX (t:TypeId):TypeId:=match P.underlying t with
 |some (.slice e)=>e
 |some (.array _ e)=>e
 |_=>0
def Ug (place:Nat->Option (Nat×Nat)) (ty:Nat->TypeId):List (Nat×Operand)->List (Nat×Nat×fH)
 | []=>[]
 |(i,o)::r=>match place i with
  |some (a,b)=>(a,b,rL P (ty i) o)::Ug place ty r
  |none=>[]
def Uh (t:TypeId) (i:Nat):TypeId:=match P.underlying t with
 |some (.struct fs)=>match fs[i]? with
  |some f=>f.type
  |none=>0
 |some (.array _ e)=>e
 |_=>0
def an6 (t:TypeId) (i:Nat):Nat:=match P.underlying t with
 |some (.struct fs)=>match fs[i]? with
  |some f=>f.offset
  |none=>0
 |_=>0
def afp:BinOp->Bool
 | .neq=>amD
 |_=>amE
def Ui (b:Builtin) (args:List Operand) (ts:List TypeId):k7:=
 match b,args,ts with
 | .len,x::_,t::_=>match P.underlying t with
  |some (.slice _)|some (.map _ _)=> .len (rL P t x)
  |some (.array m _)=> .NV m
  |some (.pointer e)=>match P.underlying e with
   |some (.array m _)=> .NV m
   |_=> .bad
  |_=> .bad
 | .append,[x,y],[t,u]=>match P.underlying u with
  |some (.slice _)=> .append (Sa P (zX P t)) (rL P t x) (rL P u y)
  |_=> .bad
 | .copy,[x,y],[t,u]=>match P.underlying u with
  |some (.slice _)=> .copy (Sa P (zX P t)) (rL P t x) (rL P u y)
  |_=> .bad
 | .clear,[x],[t]=>match P.underlying t with
  |some (.slice e)=> .clear (Sa P e) (uQ P 9 e) (rL P t x)
  |_=> .bad
 | .min,x::xs,_=> .mm amE (gA x) (xs.map gA)
 | .max,x::xs,_=> .mm amD (gA x) (xs.map gA)
 |_,_,_=> .bad
def cOp (tb:Bool) (md:FuncId->CM) (ty:TypeId):Op->k7
 | .move x| .assign x=> .Tj (rL P ty x)
 | .pick c a b=> .pick (gA c) (rL P ty a) (rL P ty b)
 | .binOp op t x y _=>match P.underlying t with
  |some (.int _)=> .bin op (gA x) (gA y)
  |some .bool=> .KX (afp op) (gA x) (gA y)
  |some (.struct _)|some (.array _ _)=> .eqc (Sa P t) (afp op) (rL P t x) (rL P t y)
  |_=> .bad
 | .unOp op _ x=> .un op (gA x)
 | .convert _ t x=>match P.underlying t with
  |some (.int k)=> .conv k (gA x)
  |_=> .bad
 | .box t x=> .box (rL P t x)
 | .alloc t=> .alloc (uQ P 9 t)
 | .build t ps=> .build (uQ P 9 t) (Ug P (placeOf P t) (Uh P t) ps.toList)
 | .buildSlice t n ps=>match P.underlying (zX P t),n,ps.toList with
  |some (.slice _),2,[(0,a),(1,b)]=> .DC (rL P (zX P t) a) (rL P (zX P t) b)
  |_,_,_=> .Bj (Sa P (zX P t)) n (uQ P 9 (zX P t)) (ps.toList.map fun p=>(p.1,rL P (zX P t) p.2))
 | .load t a=> .load (Oq P t) (gA a)
 | .store t a v=> .store (Sa P t) (gA a) (rL P t v)
 | .nilCheck x=> .KY (gA x)
 | .fieldAddr t a f=> .KZ (an6 P t f) (gA a)
 | .field t a f=> .iK (Oq P (Uh P t f)) (an6 P t f) (gA a)
 | .indexAddr t a j=>match P.underlying t with
  |some (.slice e)=> .K0 (Sa P e) (rL P t a) (gA j)
  |some (.array m e)=> .DD m (Sa P e) (gA a) (gA j)
  |_=> .bad
 | .index t a j=>match P.underlying t with
  |some (.array m e)=> .idx m (Sa P e) (Oq P e) (rL P t a) (gA j)
  |some .string=> .K1 (gA a) (gA j)
  |_=> .bad
 | .slice t a b c d=>match P.underlying t with
  |some (.slice e)=> .RA (Sa P e) (rL P t a) (b.map gA) (c.map gA) (d.map gA)
  |_=> .bad
 | .makeSlice t a b=> .mks (Sa P (zX P t)) (uQ P 9 (zX P t)) (gA a) (gA b)
 | .makeFunc (.func g) c d=> .mkf g (c.toList.map gA) (d.toList.map gA)
 | .makeMap t _=> .mkm (bif tb then (match P.underlying t with
  |some (.map _ e)=>amB (afm P e)
  |_=>amC) else amC)
 | .extract a j=> .ext j (gA a)
 | .lookup t a b ok=>match P.underlying t with
  |some (.map k e)=> .lookup (Oq P k) (afm P e) ok (gA a) (rL P k b)
  |_=> .bad
 | .mapUpdate t a b c| .insert t a b c=>match P.underlying t with
  |some (.map k e)=> .I9 (Oq P k) (gA a) (rL P k b) (rL P e c)
  |_=> .bad
 | .call c=>match c.callee with
  | .builtin b=>Ui P b c.args.toList c.argTypes.toList
  | .value (.func f)=> .call (md f) f (Uf P c.argTypes.toList c.args.toList)
  | .value x=> .xB (gA x) (Uf P c.argTypes.toList c.args.toList)
  |_=> .bad
 |_=> .bad
def an7 (tb:Bool) (md:FuncId->CM) (ops:Array Oper) (o:Oper):bU:=
 ⟨o.dst,cOp P tb md o.type o.op,match o.guard with
  |some (i,b)=>match ops[i]? with
   |some q=>match q.dst with
    |some d=>amB (d,b)
    |none=>amC
   |none=>amC
  |none=>amC⟩
def Uj:List Nat->List Oper->List Nat
 |acc,[]=>acc
 |acc,o::os=>Uj (acc++[(nD acc (amw acc) o.after.toList).getD 0]) os
def bitsOf:Nat->Nat->Nat->List Nat
 |0,_,_=>[]
 |n+1,i,m=>bif AC m 0 then [] else bif AC (Nat.mod m 2) 1 then i::bitsOf n (i+1) (Nat.div m 2) else bitsOf n (i+1) (Nat.div m 2)
def Uk (l:List (Nat×Nat)) (x:Nat):Nat×Option Nat:=match l with
 | []=>(x,amC)
 |(t,k)::r=>bif AC t x then (x,amB k) else Uk r x
def Ul {α:Type} (n:Nat):List (Nat×List α)->List α
 | []=>[]
 |(m,l)::r=>bif AC m n then l else Ul n r
def hd (l:List Nat):Nat:=match l with
 |x::_=>x
 | []=>0
structure CSt where
 ks:List Nat
 n:Nat
def Fx (H:Hint):Code->CSt->jX×CSt
 | .region _ ops dr,s=>(.region (match dr with|true=>amB (Uj [] ops.toList)|false=>amC) (ops.toList.map (an7 P H.tb H.md ops)) (bitsOf 1000 0 (hd s.ks)),⟨s.ks.tail,s.n⟩)
 | .seq a b,s=>match Fx H a s with
  |(x,s1)=>match Fx H b s1 with
   |(y,s2)=>(.seq x y,s2)
 | .cond c a b,s=>match Fx H a s with
  |(x,s1)=>match Fx H b s1 with
   |(y,s2)=>(.cond (gA c) x y,s2)
 | .block id b,s=>match Fx H b s with
  |(x,s1)=>(.block id x,s1)
 | .loop b,s=>match Fx H b ⟨s.ks.tail,s.n+1⟩ with
  |(x,s1)=>(.loop ((bitsOf 1000 0 (hd s.ks)).map (Uk (Ul s.n H.asK))++Ul s.n H.more) x,s1)
 | .exit id,s=>(.exit id,s)
 | .ret,s=>(.ret,s)
 |_,s=>(.skip,s)
def asM:ResultVar->RV
 | .tmp t=> .tmp t
 | .cell t ty=> .cell t (Oq P ty)
def agA (fn:Func) (H:Hint):aK:=
 ⟨fn.params.size+fn.nfree,match fn.body with
  |some c=>(Fx P H c ⟨H.fU,0⟩).1
  |none=> .skip,fn.results.toList.map (asM P)⟩
def asN (ow sh fp:List Nat) (f:FuncId):CM:=bif has ow f then .own else bif has sh f then .shr else bif has fp f then .fp else .WM
end
end Go.Vm
/- A law's row from what the logical machine answers: the result is amD, nothing that was there has turned. -/
namespace Go.Vm
open Go.ChangeShapes Go.WideShapes Go.ChangeAt Go.RowKit
section
variable {H : Type} {enc : TypeId × Value -> H} {P : Program}
theorem zY (hl:laidOutB P=amD) {W W':World} (hb:Below W.heap.size W W'): ∀{ts:List TypeId} {vs:List Value} {ds:List (DataW H)} {ps:List MemPlace},(∀t∈ts,P.readableRec t=amD/\t<P.types.size)->
 DataW.TrodAll enc P W 0 (fun _=>amD) amD ts vs ds ps->(∀x∈ps,x.block<W.heap.size)->DataW.TrodAll enc P W' 0 (fun b=>decide (b<W.heap.size)) amD ts vs ds ps
 | [],vs,ds,ps,_,h,_=>by
  obtain ⟨rfl,rfl,rfl⟩:=trodAll_nil h;exact trodAll_mk0
 |t::ts,vs,ds,ps,ht,h,dM=>by
  obtain ⟨v,NN,d,zO,p,q,rfl,rfl,rfl,h1,h2⟩:=trodAll_cons h;obtain ⟨h3,h4⟩:=ht t (by simp)
  exact trodAll_cons_mk (Below.trod hl h3 h4 h1 hb fun x hx=>dM x (by simp [hx])) (zY hl hb (fun t' Qf=>ht t' (by simp [Qf])) h2 fun x hx=>dM x (by simp [hx]))
theorem Um (hl:laidOutB P=amD) {f:Func} {s:ChangeSpec} {W W':World} {args:Array Value} {ds:List (DataW H)} {before:List MemPlace} {bt:TypeId} (an8:s.vars=[]) (BC:f.resultTypes= #[bt]) (hbt:P.underlying bt=amB .bool)
 (hp: ∀t∈f.params.toList,P.readableRec t=amD/\t<P.types.size) (hW:DataW.Whole enc P f.params.toList s.vars amE W args.toList ds [] before)
 (hfn:s.fn H (ds++[])={results:=[.lit (.bool amD)],args:=ds}) (hb:Below W.heap.size W W'):s.post enc P f amE amD amE amE W args (.bool amD) W':=by
 have hW':=hW;obtain ⟨p,q,hA,hV,rfl,Tl,Hl⟩:=hW;have dM: ∀x∈p++q,x.block<W.heap.size:=fun x hx=>by simpa using hW'.lt x hx
 refine ⟨ds,[],p++q,[],p,[],hW',?_,?_,?_,hb.frame _,fun h=>by cases h⟩
 · rw [hfn,BC]
   exact trodAll_mk1 (shut_bool hbt amD)
 · rw [hfn]
   exact zY hl hb hp hA fun x hx=>dM x (by simp [hx])
 rw [hfn,an8]
 rfl
end
def HB (w:World):Im:=fun b=>w.heap[b]?
theorem Sb {w:World} {b o:Nat} {v:Value} (h:w.cell? ⟨b,o,amC⟩=amB v):oc (HB w) b o=amB v:=by
 unfold am5 at h;unfold oc HB;exact h
theorem Sc {P:Program} {F:m8} {prims:FuncId->Bool} (hT:LG P prims F) (Bv:za P F) (qv:P.follows .mixedOrders=amD) {f:FuncId} {args:List PV} {s:cL} {z:List Nat} {n:Nat} {us:List Value} {w:World}
 (h:run F n (.func f args [] [])=amB (.func (.bool amD) s z)) (xU:fh (HB w) gl args us):Calls P f ⟨us⟩ w fun e w'=>e= .returned (.bool amD)/\Below w.heap.size w w':=by
 refine (R4 hT Bv qv h (im:=HB w) (fun b o h=>h) xU).mono fun e w' ⟨u,he,⟨eH,bn,oV,_⟩,h1,h2,h3,h4,h5⟩=>?_
 obtain rfl:=oV.jD;exact ⟨he,⟨h1,h2,h3,h4,h5⟩⟩
end Go.Vm
/- Regions of one order, step by step, for contracts. -/
namespace Go.Vm
def CY:k7->Bool
 | .call .. | .xB .. =>amD
 |_=>amE
variable {F : m8}
def WS (F:m8) (ops:List bU) (st:St) (Q:St->Prop):Prop:= ∀tr,WO F ops st tr (fun s _=>Q s)
def JD (st:St) (o:bU):Option St:=
 match wanted o.guard st.env with
 |some amD=>match bG st.env st.aD st.fz o.op with
  |some x=>if (XR.loc x).ok st.fz then amB ((XR.loc x).next o.dst st) else amC
  |none=>amC
 |some amE=>amB {st with env:=iL o.dst .jA st.env}
 |none=>amC
theorem JE {rec:Task->Option Out} {e:Env} {aD:cL} {fz:List Nat} {op:k7} (h:CY op=amE):
 xD F rec e aD fz op=(bG e aD fz op).map .loc:=by
 cases op<;>first|rfl|cases h
theorem WS.nil {st:St} {Q:St->Prop} (h:Q st):WS F [] st Q:=fun _=>WO.nil h
theorem WS.cons {o:bU} {r:List bU} {st kU:St} {Q:St->Prop} (h:CY o.op=amE) (hs:JD st o=amB kU) (k:WS F r kU Q):WS F (o::r) st Q:=by
 intro tr;unfold JD at hs;split at hs
 · rename_i hw
   split at hs
   · rename_i x hx
     split at hs
     · rename_i Au
       injection hs with hs;subst hs;exact WO.op x hw (fun rec=>by rw [JE h,hx];rfl) Au (k _)
     cases hs
   cases hs
 · rename_i hw
   injection hs with hs;subst hs;exact WO.skip hw (k _)
 cases hs
theorem WS.one {o:bU} {r:List bU} {st:St} {Q:St->Prop} (x:nY) (hc:CY o.op=amE) (hw:wanted o.guard st.env=amB amD) (hx:bG st.env st.aD st.fz o.op=amB x) (Au:(XR.loc x).ok st.fz=amD)
 (k:WS F r ((XR.loc x).next o.dst st) Q):WS F (o::r) st Q:=fun tr=>
 WO.op x hw (fun rec=>by rw [JE hc,hx];rfl) Au (k _)
def Ew:List bU->St->Option St
 | [],st=>amB st
 |o::r,st=>match CY o.op with
  |true=>amC
  |false=>match JD st o with
   |some kU=>Ew r kU
   |none=>amC
theorem WS.all: ∀{ops:List bU} {st kU:St} {Q:St->Prop},Ew ops st=amB kU->Q kU->WS F ops st Q
 | [],st,kU,Q,h,hq=>by simp only [Ew,ww] at h;subst h;exact WS.nil hq
 |o::r,st,kU,Q,h,hq=>by
  simp only [Ew] at h;cases hc:CY o.op with
  |true=>rw [hc] at h;cases h
  |false=>
   rw [hc] at h;dsimp only at h;cases hs:JD st o with
   |none=>rw [hs] at h;cases h
   |some s1=>rw [hs] at h;exact WS.cons hc hs (WS.all h hq)
theorem WS.pure {d:Option Nat} {g:Option (Nat×Bool)} {f:FuncId} {as:List fH} {r:List bU} {st:St} {Q:St->Prop}
 {args:List PV} {v:PV} (h:Pure F f args v) (hw:wanted g st.env=amB amD) (ha:CD st.aD (xX st.aD deep) (EO st.env as)=amB args)
 (k:WS F r {st with env:=iL d v st.env} Q):WS F (⟨d,.call .WM f as,g⟩::r) st Q:=fun tr=>by
 refine WO.pure h hw ha ?_
 have:=k (XR.tr (amw st.aD) (.loc {v,rd:=dE (dj st.aD deep) (EO st.env as)})::tr)
 simpa [XR.next,rF,gg] using this
theorem WS.shr {d:Option Nat} {g:Option (Nat×Bool)} {f:FuncId} {as:List fH} {r:List bU} {st:St} {Q:St->Prop}
 (hw:wanted g st.env=amB amD) (h:Av F f (EO st.env as) st.aD st.fz fun v s z=>(ae3 (amw st.aD) (amw s)&&st.fz.all (has z))=amD/\WS F r {st with env:=iL d v st.env,aD:=s,fz:=z} Q):
 WS F (⟨d,.call .shr f as,g⟩::r) st Q:=fun tr=>by
 obtain ⟨n,v,s,z,hr,hc,hk⟩:=h;refine WO.call (.shr v s z) hw ⟨n,?_⟩ rfl (hk _);simp only [xD,fV,hr];rw [pp hc]
end Go.Vm
/- Plain terms for what a function computes: loops, elements of lists, numbers; and the machine's loop over a plain one. -/
namespace Go.Vm
inductive Step (σ ρ:Type) where
 |next (s:σ)
 |done (r:ρ)
section
variable {σ ρ : Type}
def qz (body:σ->Option (Step σ ρ)):Nat->σ->Option ρ
 |0,_=>amC
 |n+1,x=>match body x with
  |some (.next y)=>qz body n y
  |some (.done r)=>amB r
  |none=>amC
open Classical in
noncomputable def Ot (body:σ->Option (Step σ ρ)) (x:σ):Option ρ:=
 if h: ∃n r,qz body n x=amB r then qz body h.choose x else amC
theorem AI {body:σ->Option (Step σ ρ)}: ∀{n:Nat} {x:σ} {r:ρ},qz body n x=amB r-> ∀k,qz body (n+k) x=amB r
 |0,x,r,h,_=>by cases h
 |n+1,x,r,h,k=>by
  rw [show n+1+k=(n+k)+1 by omega]
  simp only [qz] at h ⊢;split at h
  · exact AI h k
  · exact h
  cases h
theorem Sd {body:σ->Option (Step σ ρ)} {n m:Nat} {x:σ} {r s:ρ} (h:qz body n x=amB r) (k:qz body m x=amB s):r=s:=by
 have h1:=AI h m;have h2:=AI k n;rw [Nat.add_comm m n] at h2;rw [h1] at h2;exact agp h2
theorem DN {body:σ->Option (Step σ ρ)} {x:σ} {r:ρ}:Ot body x=amB r↔ ∃n,qz body n x=amB r:=by
 unfold Ot;constructor
 · intro h
   split at h
   · exact ⟨_,h⟩
   cases h
 rintro ⟨n,hn⟩
 have hex: ∃n r,qz body n x=amB r:=⟨n,r,hn⟩;rw [dif_pos hex];obtain ⟨s,hs⟩:=hex.choose_spec;rw [hs,Sd hs hn]
end
noncomputable def Un {σ ρ:Type} (b:Option Nat) (body:σ->Option (Step σ ρ)) (x:σ):Option ρ:=
 match b with
 |none=>Ot body x
 |some N=>qz body N x
theorem Uo {σ ρ:Type} {b:Option Nat} {body:σ->Option (Step σ ρ)} {x:σ} {r:ρ} (h:Un b body x=amB r): ∃n,qz body n x=amB r:=by
 cases b with
 |none=>exact DN.1 h
 |some N=>exact ⟨_,h⟩
class LP where
 w:Option Nat
abbrev LP.of (n:Nat):LP:=⟨amB n⟩
noncomputable def ay [LP] {σ ρ:Type} (body:σ->Option (Step σ ρ)) (x:σ):Option ρ:=Un LP.w body x
def aB [LP]:Option Nat:=LP.w
theorem an' {α β:Type} {x:Option α} {f:α->Option β} {r:β} (h:x.bind f=amB r): ∃a,x=amB a/\f a=amB r:=by
 cases x with
 |none=>cases h
 |some a=>exact ⟨a,rfl,h⟩
def afq {α ρ:Type} (x:Option α) (f:α->Option ρ):Option ρ:=x.bind f
def afr {ρ:Type} (c:Bool) (a b:Option ρ):Option ρ:=cond c a b
theorem Ou {α ρ:Type} {x:Option α} {f:α->Option ρ} {y:ρ} (h:afq x f=amB y): ∃a,x=amB a/\f a=amB y:=an' h
theorem Ov {ρ:Type} {c:Bool} {a b:Option ρ} {y:ρ} (h:afr c a b=amB y):(c=amD/\a=amB y)\/(c=amE/\b=amB y):=by
 cases c
 · exact .inr ⟨rfl,h⟩
 exact .inl ⟨rfl,h⟩
def aJ {α:Type} (l:List α) (i:Int):Option α:=
 match i with
 | .ofNat n=>l[n]?
 | .negSucc _=>amC
def cj {α:Type} (l:List α) (i:Int) (a:α):List α:=l.set i.toNat a
theorem nE {α:Type} {l:List α} {i:Int} {a:α} (h:aJ l i=amB a): ∃n:Nat,i=akc n/\l[n]? =amB a:=by
 unfold aJ at h;split at h
 · exact ⟨_,rfl,h⟩
 cases h
@[simp] theorem yk {α:Type} (l:List α) (i:Int) (a:α):(cj l i a).length=(amw l):=by simp [cj]
def bo {α:Type} (l:List α) (m:List α):Option (List α):=if (amw l)+amw m<=1048576 then amB (l++m) else amC
def sF {α:Type} (n:Int) (z:α):Option (List α):=if 0<=n/\n<=1048576 then amB (afe n.toNat z) else amC
def fW {α:Type} (l:List α) (lo hi:Int):Option (List α):=if 0<=lo/\lo<=hi/\hi<=(amw l) then amB ((l.drop lo.toNat).take (hi.toNat-lo.toNat)) else amC
def bP {α:Type} (l:List α):Option (List α):=if (amw l)<=1048576 then amB l else amC
def Se {α:Type} (l m:List α):Option (List α):=if 1<=amw l+amw m/\amw l+amw m<=1048576 then amB (l++m) else amC
def tR {α:Type} (l:List α) (i:Int) (m:List α):Option (List α):=if 0<=i/\i.toNat<=amw l/\amw m=1/\amw l+1<=1048576 then amB (l.take i.toNat++m++l.drop i.toNat) else amC
def DO {α:Type} (f:List α->Option (List α)) (l:List α):Option (List α):=
 if (amw l)<=1048576 then (match f l with
 |some m=>if (amw m)=(amw l) then amB m else amC
 |none=>amC) else amC
def zg {α:Type} (f:List α->Option (List α)) (n:Nat) (l:List α):Option (List α):=if n<=(amw l) then (DO f (l.take n)).map (· ++l.drop n) else amC
def Ow (a:Int):List Int->List Int
 | []=>[a]
 |b::r=>bif amF (a<=b) then a::b::r else b::Ow a r
def lD:List Int->List Int
 | []=>[]
 |a::r=>Ow a (lD r)
def JF (l:List Int):Option (List Int):=amB (lD l)
def AJ (k:IntKind) (a b:Int):Int:=k.wrap (BitVec.ofInt k.bits a&&&BitVec.ofInt k.bits b).toNat
def bOr (k:IntKind) (a b:Int):Int:=k.wrap (BitVec.ofInt k.bits a|||BitVec.ofInt k.bits b).toNat
def asO (k:IntKind) (a b:Int):Int:=k.wrap (BitVec.ofInt k.bits a^^^BitVec.ofInt k.bits b).toNat
def XB (k:IntKind) (a b:Int):Int:=k.wrap (BitVec.ofInt k.bits a&&& ~~~ BitVec.ofInt k.bits b).toNat
def asP (k:IntKind) (a b:Int):Int:=k.wrap (a*2^(min b.toNat k.bits))
def nS (k:IntKind) (a b:Int):Int:=a.fdiv (2^(min b.toNat k.bits))
def afs (s:ByteArray) (i:Int):Option Int:=
 match i with
 | .ofNat n=>s[n]?.map fun b=>(b.toNat:Int)
 | .negSucc _=>amC
def Ed (l:List (List Int)) (k:List Int):Bool:=l.any fun m=>k==m
def Ox (l:List (List Int)) (k:List Int):List (List Int):=bif Ed l k then l else l++[k]
def om (a:List Int) (l:List (List Int)):Bool:=l.all fun b=>AC (amw b) (amw a)
def LN (l:List (List Int)) (k:List Int):Option Bool:=bif om k l then amB (Ed l k) else amC
def LO (l:List (List Int)) (k:List Int):Option (List (List Int)):=bif om k l then amB (Ox l k) else amC
def qA {α:Type} (z:α):List (Int×α)->Int->α
 | [],_=>z
 |p::r,k=>bif k==p.1 then p.2 else qA z r k
def o3 {α:Type}:List (Int×α)->Int->α->List (Int×α)
 | [],k,a=>[(k,a)]
 |p::r,k,a=>bif k==p.1 then (k,a)::r else p::o3 r k a
section
variable {F : m8}
end
end Go.Vm
/- A logical machine over typed values: it turns a function's code into a plain term. What it computes is tied to the logical machine in SvRun. -/
namespace Go.Vm
inductive PT where
 |i (k:IntKind)
 |b
@[reducible] def PT.T : PT -> Type
  | .i _ => Int
  | .b => Bool
@[reducible] def RT : List PT -> Type
  | [] => Unit
  | [p] => p.T
  | p :: q :: r => p.T × RT (q :: r)
inductive SV where
 |iU
 |undef
 |jA
 |dU
 |int (k:IntKind) (n:Int)
 |bool (b:Bool)
 |str (s:ByteArray)
 |agg (cs:List SV)
 |cw (cs:List SV)
 |sl (r:List PT) (l:List (RT r))
 |nil (e:Nat) (c:Bool)
 |own (t:Nat) (ex:Bool)
 |pre (t len cap:Nat) (ex:Bool)
 |part (t off len cap:Nat) (ex:Bool)
 |pa (t:Nat) (r:List PT) (i:Int) (a:RT r) (off:Nat)
 |pb (t:Nat) (i:Int) (off:Nat)
 |bp (t n off:Nat)
 |bJ (cs:List SV) (off:Nat)
 |eV (f:FuncId) (a b:List SV)
 |mp (t:Nat)
inductive SB where
 |arr (r:List PT) (l:List (RT r))
 |box (cs:List SV)
 |set (l:List (List Int))
 |aP (p:PT) (l:List (RT [.i .i64,p]))
 |dead
abbrev SE:=List (Nat×SV)
structure qB where
 env:SE
 aD:List SB
 fz:List Nat
 kn:Nat
structure Rows where
 r:List PT
 l:List (RT r)
def PT.same:PT->PT->Bool
 | .i k,.i l=>fE k l
 | .b,.b=>amD
 |_,_=>amE
def BE:List PT->List PT->Bool
 | [],[]=>amD
 |p::r,q::s=>p.same q&&BE r s
 |_,_=>amE
theorem PT.Qj: ∀{p q:PT},p.same q=amD->p=q
 | .i k,.i l,h=>by rw [fu.1 h]
 | .b,.b,_=>rfl
 | .i _,.b,h=>by cases h
 | .b,.i _,h=>by cases h
theorem vM: ∀{r s:List PT},BE r s=amD->r=s
 | [],[],_=>rfl
 |p::r,q::s,h=>by
  simp only [BE,ut] at h;rw [PT.Qj h.1,vM h.2]
 | [],_::_,h=>by cases h
 |_::_,[],h=>by cases h
def sG (r q:List PT) (l:List (RT r)):Option (List (RT q)):=if h:BE r q=amD then amB (vM h▸l) else amC
def PT.pv:(p:PT)->p.T->PV
 | .i k,n=> .int k n
 | .b,x=> .bool x
def RT.pv:(r:List PT)->RT r->List PV
 | [],_=>[]
 | [p],a=>[p.pv a]
 |p::q::r,a=>p.pv a.1::RT.pv (q::r) a.2
def PT.sv:(p:PT)->p.T->SV
 | .i k,n=> .int k n
 | .b,x=> .bool x
def RT.sv:(r:List PT)->RT r->List SV
 | [],_=>[]
 | [p],a=>[p.sv a]
 |p::q::r,a=>p.sv a.1::RT.sv (q::r) a.2
def PT.of:(p:PT)->SV->Option p.T
 | .i k,.int l n=>bif fE l k then amB n else amC
 | .b,.bool x=>amB x
 |_,_=>amC
def RT.of:(r:List PT)->List SV->Option (RT r)
 | [],[]=>amB ()
 | [p],[v]=>p.of v
 |p::q::r,v::vs=>match p.of v,RT.of (q::r) vs with
  |some a,amB b=>amB (a,b)
  |_,_=>amC
 |_,_=>amC
def PT.zero:(p:PT)->p.T
 | .i _=>(0:Int)
 | .b=>amE
def RT.zero:(r:List PT)->RT r
 | []=>()
 | [p]=>p.zero
 |p::q::r=>(p.zero,RT.zero (q::r))
def fR:PV->Option PT
 | .int k n=>match n with
  | .ofNat 0=>amB (.i k)
  |_=>amC
 | .bool b=>match b with
  |false=>amB .b
  |true=>amC
 |_=>amC
def Fy:List PV->Option (List PT)
 | []=>amB []
 |v::vs=>match fR v,Fy vs with
  |some p,amB r=>amB (p::r)
  |_,_=>amC
def nth {α:Type}:List α->Nat->Option α
 | [],_=>amC
 |x::_,0=>amB x
 |_::r,n+1=>nth r n
theorem cB {α:Type}: ∀(l:List α) (n:Nat),nth l n=l[n]?
 | [],n=>by simp [nth]
 |x::r,0=>by simp [nth]
 |x::r,n+1=>by simp [nth,cB r n]
def Hm (t:Nat):SE->SV
 | []=> .undef
 |(s,v)::r=>bif AC s t then v else Hm t r
def AL (t:Nat) (v:SV):SE->SE
 | []=>[]
 |(s,x)::r=>bif AC s t then (s,v)::r else (s,x)::AL t v r
mutual
def XC:PV->SV
 | .undef=> .undef
 | .jA=> .jA
 | .dU=> .dU
 | .int k n=> .int k n
 | .bool b=> .bool b
 | .str s=> .str s
 | .agg cs=> .agg (BF cs)
 | .cw cs=> .cw (BF cs)
 | .sl e c rows=>match rows with
  | []=> .nil e c
  |_=> .iU
 | .eV f a b=> .eV f (BF a) (BF b)
 |_=> .iU
def BF:List PV->List SV
 | []=>[]
 |x::xs=>XC x::BF xs
end
def bW (e:SE):fH->SV
 | .t n=>Hm n e
 | .c v=>XC v
def jF (e:SE):List fH->List SV
 | []=>[]
 |x::xs=>bW e x::jF e xs
def SV.qj:SV->Bool
 | .iU| .undef| .jA| .agg _| .cw _=>amE
 |_=>amD
def yl:List SV->Bool
 | []=>amD
 |x::xs=>x.qj&&yl xs
def SV.cells:SV->List SV
 | .agg cs=>cs
 |v=>[v]
def SV.stored (v:SV):Option (List SV):=bif yl v.cells then amB v.cells else amC
def zZ (agg:Option Nat) (off:Nat) (cs:List SV):Option SV:=
 match agg with
 |some s=>bif ae3 (off+s) (amw cs) then amB (.agg ((cs.drop off).take s)) else amC
 |none=>nth cs off
def pO (off:Nat) (new old:List SV):List SV:=old.take off++new++old.drop (off+amw new)
def z6 (s:List SB):SV->Option Rows
 | .sl r l=>amB ⟨r,l⟩
 | .own t _=>match nth s t with
  |some (.arr r l)=>amB ⟨r,l⟩
  |_=>amC
 | .pre t len _ _=>match nth s t with
  |some (.arr r l)=>amB ⟨r,l.take len⟩
  |_=>amC
 | .part t off len _ _=>match nth s t with
  |some (.arr r l)=>amB ⟨r,(l.drop off).take len⟩
  |_=>amC
 |_=>amC
def wF:SV->List Nat
 | .own t _=>[t]
 | .pre t _ _ _=>[t]
 | .part t _ _ _ _=>[t]
 |_=>[]
structure fX where
 v:SV
 news:List SB:=[]
 wr:List (Nat×SB):=[]
 rd:List Nat:=[]
 fr:List Nat:=[]
def gq (R:Type):= ∀ρ:Type,(R->ρ)->Option ρ
section
variable {R : Type}
def Ig (b:R):gq R:=fun _ w=>amB (w b)
def aO:gq R:=fun _ _=>amC
def lh {α:Type} (x:Option α) (f:α->gq R):gq R:=fun ρ w=>afq x fun a=>f a ρ w
def gB (c:Bool) (a b:gq R):gq R:=fun ρ w=>afr c (a ρ w) (b ρ w)
def XD (v:SV) (k:SV->gq R):gq R:=
 match v with
 | .iU=>k .iU
 | .undef=>k .undef
 | .jA=>k .jA
 | .dU=>k .dU
 | .int a b=>k (.int a b)
 | .bool a=>k (.bool a)
 | .str a=>k (.str a)
 | .agg a=>k (.agg a)
 | .cw a=>k (.cw a)
 | .sl a b=>k (.sl a b)
 | .nil a b=>k (.nil a b)
 | .own a b=>k (.own a b)
 | .pre a b c d=>k (.pre a b c d)
 | .part a b c d x=>k (.part a b c d x)
 | .pa a b c d e=>k (.pa a b c d e)
 | .pb a b c=>k (.pb a b c)
 | .bp a b c=>k (.bp a b c)
 | .bJ a b=>k (.bJ a b)
 | .eV a b c=>k (.eV a b c)
 | .mp a=>k (.mp a)
theorem JG (v:SV) (k:SV->gq R):XD v k=k v:=by cases v<;>rfl
def Oy (op:BinOp) (k:IntKind) (a b:Int) (c:SV->gq R):gq R:=
 match op with
 | .add=>c (.int k (aa k (a+b)))
 | .sub=>c (.int k (aa k (a-b)))
 | .mul=>c (.int k (aa k (a*b)))
 | .quo=>gB (b==0) aO (c (.int k (aa k (Int.tdiv a b))))
 | .rem=>gB (b==0) aO (c (.int k (Int.tmod a b)))
 | .and=>c (.int k (AJ k a b))
 | .or=>c (.int k (bOr k a b))
 | .xor=>c (.int k (asO k a b))
 | .andNot=>c (.int k (XB k a b))
 | .eql=>c (.bool (a==b))
 | .neq=>c (.bool (a !=b))
 | .lss=>c (.bool (amF (a<b)))
 | .leq=>c (.bool (amF (a<=b)))
 | .gtr=>c (.bool (amF (b<a)))
 | .geq=>c (.bool (amF (b<=a)))
 | .shl| .shr=>aO
def eqS:List SV->List SV->Option Bool
 | [],[]=>amB amD
 |x::xs,y::ys=>match x,y with
  | .int k a,.int l b=>bif fE k l then (match xs with
   | []=>(match ys with| []=>amB (a==b)|_=>amC)
   |_::_=>match eqS xs ys with
    |some r=>amB (a==b&&r)
    |none=>amC) else amC
  |_,_=>amC
 |_,_=>amC
def wG:List (Nat×Nat×SV)->List SV->Option (List SV)
 | [],cs=>amB cs
 |(off,sz,v)::r,cs=>match v.stored with
  |some w=>bif AC (amw w) sz&&ae3 (off+sz) (amw cs) then wG r (pO off w cs) else amC
  |none=>amC
def ym (e:SE):List (Nat×Nat×fH)->List (Nat×Nat×SV)
 | []=>[]
 |p::r=>(p.1,p.2.1,bW e p.2.2)::ym e r
def Qk (r:List PT) (e:SE) (n:Nat):List (Nat×fH)->Option (List (Nat×RT r))
 | []=>amB []
 |p::ps=>match RT.of r (bW e p.2).cells,Qk r e n ps with
  |some a,amB l=>bif afx p.1 n then amB ((p.1,a)::l) else amC
  |_,_=>amC
def rowAt {α:Type} (i:Nat):α->List (Nat×α)->α
 |z,[]=>z
 |z,(j,a)::r=>rowAt i (bif AC j i then a else z) r
def JH {α:Type} (f:Nat->α):Nat->Nat->List α
 |_,0=>[]
 |i,n+1=>f i::JH f (i+1) n
def CZ (e:SE) (d:Int):Option fH->Option Int
 |none=>amB d
 |some x=>match bW e x with
  | .int _ n=>amB n
  |_=>amC
def mmS (isMax:Bool) (k:IntKind):Int->List SV->Option SV
 |a,[]=>amB (.int k a)
 |a,x::r=>match x with
  | .int l b=>bif fE k l then mmS isMax k (bif isMax then (if b>a then b else a) else (if b<a then b else a)) r else amC
  |_=>amC
def Ql:List SV->Option (List Int)
 | []=>amB []
 |x::xs=>match x,Ql xs with
  | .int .i64 n,amB l=>amB (n::l)
  |_,_=>amC
def XE (n:Option Nat) (v:SV):Option (List Int):=
 match n,v with
 |none,.int .i64 a=>amB [a]
 |some n,.agg cs=>bif AC (amw cs) n&&!Nat.beq n 1 then Ql cs else amC
 |_,_=>amC
def LQ (n:Nat) (i:Int) (j:Nat) (f:Nat->gq R):gq R:=
 match n with
 |0=>aO
 |n+1=>gB (i==akc j) (f j) (LQ n i (j+1) f)
def lE {α:Type} (x:Option α) (k:α->gq R):gq R:=
 match x with
 |some a=>k a
 |none=>aO
def ofV (k:fX->gq R) (v:SV):gq R:=k {v}
def aft (s:List SB) (esz:Nat) (x:SV) (i:Int) (k:fX->gq R):gq R:=
 match x with
 | .sl r l=>bif AC (amw r) esz then lh (aJ l i) fun a=>k {v:= .bJ (RT.sv r a) 0} else aO
 | .own t _=>match nth s t with
  |some (.arr r l)=>bif AC (amw r) esz then lh (aJ l i) fun a=>k {v:= .pa t r i a 0} else aO
  |_=>aO
 | .pre t len _ _=>match nth s t with
  |some (.arr r l)=>bif AC (amw r) esz then lh (aJ (l.take len) i) fun a=>k {v:= .pa t r i a 0} else aO
  |_=>aO
 | .part t off len _ _=>match nth s t with
  |some (.arr r l)=>bif AC (amw r) esz then lh (aJ ((l.drop off).take len) i) fun a=>k {v:= .pa t r (.ofNat (off+i.toNat)) a 0} else aO
  |_=>aO
 |_=>aO
def afu (s:List SB) (agg:Option Nat) (p:SV) (k:fX->gq R):gq R:=
 match p with
 | .bp t _ off=>match nth s t with
  |some (.box cs)=>lE (zZ agg off cs) fun v=>k {v,rd:=[t]}
  |_=>aO
 | .pa t r _ a off=>match nth s t with
  |some (.arr _ _)=>lE (zZ agg off (RT.sv r a)) fun v=>k {v,rd:=[t]}
  |_=>aO
 | .pb t i off=>match nth s t with
  |some (.arr r l)=>lh (aJ l i) fun a=>lE (zZ agg off (RT.sv r a)) fun v=>k {v,rd:=[t]}
  |_=>aO
 | .bJ cs off=>lE (zZ agg off cs) fun v=>k {v}
 |_=>aO
def Uq (s:List SB) (z:List Nat) (sz:Nat) (p v:SV) (k:fX->gq R):gq R:=
 match p with
 | .bp t _ off=>match nth s t with
  |some (.box cs)=>lE v.stored fun w=>bif AC (amw w) sz&&ae3 (off+sz) (amw cs)&&!has z t then k {v:= .undef,wr:=[(t,.box (pO off w cs))]} else aO
  |_=>aO
 | .pa t r i a off=>match nth s t with
  |some (.arr q l)=>bif AC (amw v.cells) sz&&ae3 (off+sz) (amw r)&&!has z t then
   lE (RT.of q (pO off v.cells (RT.sv r a))) fun b=>k {v:= .undef,wr:=[(t,.arr q (cj l i b))]} else aO
  |_=>aO
 | .pb t i off=>match nth s t with
  |some (.arr q l)=>bif AC (amw v.cells) sz&&ae3 (off+sz) (amw q)&&!has z t then
   (bif AC sz (amw q) then lE (RT.of q v.cells) fun b=>k {v:= .undef,wr:=[(t,.arr q (cj l i b))]}
   else lh (aJ l i) fun a=>lE (RT.of q (pO off v.cells (RT.sv q a))) fun b=>k {v:= .undef,wr:=[(t,.arr q (cj l i b))]}) else aO
  |_=>aO
 |_=>aO
def Oz (e:SE) (t off len cap:Nat) (ex:Bool) (lo hi mx:Option fH) (k:fX->gq R):gq R:=
 lE (CZ e 0 lo) fun a=>lE (CZ e (.ofNat len) hi) fun b=>match mx with
  |none=>gB (amF (0<=a)&&amF (a<=b)&&amF (b<= .ofNat cap)) (k {v:= .part t (off+a.toNat) (b.toNat-a.toNat) (cap-a.toNat) ex}) aO
  |some m=>match bW e m with
   | .int _ c=>gB (amF (0<=a)&&amF (a<=b)&&amF (b<=c)&&amF (c<= .ofNat cap)) (k {v:= .part t (off+a.toNat) (b.toNat-a.toNat) (c.toNat-a.toNat) amD}) aO
   |_=>aO
def aoa (e:SE) (s:List SB) (esz:Nat) (x:SV) (lo hi mx:Option fH) (k:fX->gq R):gq R:=
 match x with
 | .sl r l=>match mx with
  |none=>bif AC (amw r) esz then lE (CZ e 0 lo) fun a=>lE (CZ e (akc (amw l)) hi) fun b=>lh (fW l a b) fun m=>k {v:= .sl r m} else aO
  |some _=>aO
 | .own t ex=>match nth s t with
  |some (.arr r l)=>bif AC (amw r) esz then (match lo,hi,mx with
   |none,amC,amC=>k {v:= .own t ex}
   |none,amB h,amC=>match bW e h with
    | .int _ b=>lh (fW l 0 b) fun _=>k {v:= .pre t b.toNat (amw l) ex}
    |_=>aO
   |lo,hi,mx=>Oz e t 0 (amw l) (amw l) ex lo hi mx k) else aO
  |_=>aO
 | .pre t len cap ex=>match nth s t with
  |some (.arr r _)=>bif AC (amw r) esz then (match lo,hi,mx with
   |none,amC,amC=>gB (ae3 len cap) (k {v:= .pre t len cap ex}) aO
   |none,amB h,amC=>match bW e h with
    | .int _ b=>gB (amF (0<=b)&&amF (b<= .ofNat cap)) (k {v:= .pre t b.toNat cap ex}) aO
    |_=>aO
   |lo,hi,mx=>Oz e t 0 len cap ex lo hi mx k) else aO
  |_=>aO
 | .part t off len cap ex=>match nth s t with
  |some (.arr r _)=>bif AC (amw r) esz then Oz e t off len cap ex lo hi mx k else aO
  |_=>aO
 |_=>aO
def fk {α:Type} (l:List α) (n:Nat) (m:List α):List α:=l.take n++m++l.drop (n+amw m)
def SV.agC:SV->Bool
 | .part .. =>amD
 |_=>amE
def Qm (s:List SB) (z:List Nat) (esz:Nat) (x y:SV) (k:fX->gq R):gq R:=
 match z6 s y with
 |none=>aO
 |some ⟨q,m⟩=>bif AC (amw q) esz then (match x with
  | .nil _ c=>bif c then lh (bP m) fun m'=>k {v:= .own (amw s) amE,news:=[.arr q m'],rd:=wF y} else aO
  | .own t ex=>match nth s t with
   |some (.arr r l)=>match sG q r m with
    |none=>aO
    |some m=>match ex with
     |true=>gB l.isEmpty (lh (bP m) fun m'=>k {v:= .own (amw s) amE,news:=[.arr r m'],rd:=t::wF y})
      (gB m.isEmpty (k {v:= .own t amD,rd:=wF y}) (lh (bo l m) fun l'=>k {v:= .own (amw s) amE,news:=[.arr r l'],rd:=t::wF y}))
     |false=>gB m.isEmpty (k {v:= .own t amE,rd:=wF y})
      (bif has z t then aO else lh (bo l m) fun l'=>k {v:= .own (amw s) amE,news:=[.arr r l'],wr:=[(t,.dead)],rd:=wF y})
   |_=>aO
  | .pre t len cap ex=>match nth s t with
   |some (.arr r l)=>match sG q r m with
    |none=>aO
    |some m=>bif ex then aO else gB m.isEmpty (k {v:= .pre t len cap amE,rd:=wF y})
     (gB (ae3 (len+amw m) cap) (gB (ae3 (len+amw m) (amw l)&&!has z t) (k {v:= .pre t (len+amw m) cap amE,wr:=[(t,.arr r (fk l len m))],rd:=wF y}) aO)
      (bif has z t||y.agC then aO else lh (bo (l.take len) m) fun l'=>gB (ae3 len (amw l)) (k {v:= .own (amw s) amE,news:=[.arr r l'],wr:=[(t,.dead)],rd:=wF y}) aO))
   |_=>aO
  |_=>aO) else aO
def Ur (s:List SB) (z:List Nat) (esz:Nat) (zero:Row) (x:SV) (k:fX->gq R):gq R:=
 match x with
 | .part t off len _ _=>match nth s t with
  |some (.arr r l)=>match Fy zero with
   |some q=>bif BE q r&&AC (amw r) esz then gB (AC len 0) (k {v:= .undef})
    (gB (ae3 (off+len) (amw l)&&!has z t) (k {v:= .undef,wr:=[(t,.arr r (fk l off (afe len (RT.zero r))))]}) aO) else aO
   |none=>aO
  |_=>aO
 |_=>aO
def Qn (n:Option Nat) (zero:PV) (ok:Bool) (t:Nat) (l:List (List Int)) (q:SV) (k:fX->gq R):gq R:=
 match zero,ok with
 | .bool amE,amE=>lE (XE n q) fun a=>lh (LN l a) fun b=>k {v:= .bool b,rd:=[t]}
 |_,_=>aO
def Us (n:Option Nat) (t:Nat) (l:List (List Int)) (q x:SV) (k:fX->gq R):gq R:=
 match x with
 | .bool amD=>lE (XE n q) fun a=>lh (LO l a) fun m=>k {v:= .undef,wr:=[(t,.set m)]}
 |_=>aO
def PT.get:(p:PT)->p.T->List (RT [.i .i64,p])->Int->p.T
 | .i _,z,l,k=>qA (α:=Int) z l k
 | .b,z,l,k=>qA (α:=Bool) z l k
def PT.put:(p:PT)->List (RT [.i .i64,p])->Int->p.T->List (RT [.i .i64,p])
 | .i _,l,k,a=>o3 (α:=Int) l k a
 | .b,l,k,a=>o3 (α:=Bool) l k a
def Qo (n:Option Nat) (zero:PV) (ok:Bool) (t:Nat) (p:PT) (l:List (RT [.i .i64,p])) (q:SV) (k:fX->gq R):gq R:=
 match n with
 |none=>match ok with
  |false=>match q with
   | .int .i64 a=>lE (p.of (XC zero)) fun z=>k {v:=p.sv (p.get z l a),rd:=[t]}
   |_=>aO
  |true=>aO
 |some _=>aO
def Ut (n:Option Nat) (t:Nat) (p:PT) (l:List (RT [.i .i64,p])) (q x:SV) (k:fX->gq R):gq R:=
 match n with
 |none=>match q with
  | .int .i64 a=>lE (p.of x) fun v=>k {v:= .undef,wr:=[(t,.aP p (p.put l a v))]}
  |_=>aO
 |some _=>aO
def Fz (s:List SB) (z:List Nat) (t:Nat) (r:List PT) (l:List (RT r)) (off len:Nat) (y:SV) (k:fX->gq R):gq R:=
 match z6 s y with
 |none=>aO
 |some ⟨q,m⟩=>match sG q r m with
  |none=>aO
  |some m=>gB (m.take len).isEmpty (k {v:= .int .i64 0,rd:=wF y})
   (gB (ae3 (off+(m.take len).length) (amw l)&&!has z t) (k {v:= .int .i64 (.ofNat (m.take len).length),wr:=[(t,.arr r (fk l off (m.take len)))],rd:=wF y}) aO)
def afv (s:List SB) (z:List Nat) (esz:Nat) (x y:SV) (k:fX->gq R):gq R:=
 match x with
 | .own t _=>match nth s t with
  |some (.arr r l)=>bif AC (amw r) esz then Fz s z t r l 0 (amw l) y k else aO
  |_=>aO
 | .pre t len _ _=>match nth s t with
  |some (.arr r l)=>bif AC (amw r) esz then Fz s z t r l 0 len y k else aO
  |_=>aO
 | .part t off len _ _=>match nth s t with
  |some (.arr r l)=>bif AC (amw r) esz then Fz s z t r l off len y k else aO
  |_=>aO
 |_=>aO
def mA (e:SE) (s:List SB) (z:List Nat) (op:k7) (k:fX->gq R):gq R:=
 match op with
 | .Tj x=>k {v:=bW e x}
 | .pick c a b=>match bW e c with
  | .bool c=>gB c (k {v:=bW e a}) (k {v:=bW e b})
  |_=>aO
 | .bin op x y=>match bW e x with
  | .int ka a=>match bW e y with
   | .int kb b=>match op with
    | .shl=>gB (amF (b<0)) aO (k {v:= .int ka (asP ka a b)})
    | .shr=>gB (amF (b<0)) aO (k {v:= .int ka (nS ka a b)})
    |op=>bif fE ka kb then Oy op ka a b (ofV k) else aO
   |_=>aO
  |_=>aO
 | .KX neg x y=>match bW e x with
  | .bool a=>match bW e y with
   | .bool b=>k {v:= .bool (bif neg then !(a==b) else a==b)}
   |_=>aO
  |_=>aO
 | .eqc n neg x y=>match bW e x with
  | .agg xs=>match bW e y with
   | .agg ys=>bif AC (amw xs) n&&AC (amw ys) n then lE (eqS xs ys) fun b=>k {v:= .bool (bif neg then !b else b)} else aO
   |_=>aO
  |_=>aO
 | .un op x=>match op with
  | .neg=>match bW e x with
   | .int a n=>k {v:= .int a (aa a (0-n))}
   |_=>aO
  | .not=>match bW e x with
   | .bool b=>k {v:= .bool !b}
   |_=>aO
  |_=>aO
 | .conv a x=>match bW e x with
  | .int _ n=>k {v:= .int a (aa a n)}
  |_=>aO
 | .len x=>match bW e x with
  | .nil _ _=>k {v:= .int .i64 0}
  | .pre _ len _ _=>k {v:= .int .i64 (.ofNat len)}
  | .part _ _ len _ _=>k {v:= .int .i64 (.ofNat len)}
  |v=>lE (z6 s v) fun c=>k {v:= .int .i64 (.ofNat (amw c.l))}
 | .NV n=>k {v:= .int .i64 (.ofNat n)}
 | .box x=>lE (bW e x).stored fun cs=>k {v:= .bp (amw s) (amw cs) 0,news:=[.box cs]}
 | .alloc cells=>k {v:= .bp (amw s) (amw cells) 0,news:=[.box (BF cells)]}
 | .build zero parts=>lE (wG (ym e parts) (BF zero)) fun cs=>k {v:= .agg cs}
 | .Bj esz n zero parts=>lE (Fy zero) fun r=>bif AC (amw r) esz then lE (Qk r e n parts) fun ps=>
  k {v:= .own (amw s) amD,news:=[.arr r (JH (fun i=>rowAt i (RT.zero r) ps) 0 n)]} else aO
 | .DC x y=>match bW e x with
  | .sl r l=>match bW e y with
   | .sl q m=>k {v:= .part (amw s) 0 2 2 amD,news:=[.box [.sl r l,.sl q m]]}
   |_=>aO
  |_=>aO
 | .load agg p=>afu s agg (bW e p) k
 | .store sz p v=>Uq s z sz (bW e p) (bW e v) k
 | .KY x=>match bW e x with
  | .pa t r i a o=>k {v:= .pa t r i a o}
  | .pb t i o=>k {v:= .pb t i o}
  | .bp t n o=>k {v:= .bp t n o}
  | .bJ c o=>k {v:= .bJ c o}
  | .eV f a b=>k {v:= .eV f a b}
  |_=>aO
 | .KZ off p=>match bW e p with
  | .pa t r i a o=>k {v:= .pa t r i a (o+off)}
  | .pb t i o=>k {v:= .pb t i (o+off)}
  | .bp t n o=>k {v:= .bp t n (o+off)}
  | .bJ c o=>k {v:= .bJ c (o+off)}
  |_=>aO
 | .iK agg off x=>match bW e x with
  | .agg cs=>lE (zZ agg off cs) (ofV k)
  |_=>aO
 | .K0 esz x i=>match bW e i with
  | .int _ n=>aft s esz (bW e x) n k
  |_=>aO
 | .DD n esz p i=>match bW e i with
  | .int _ j=>match bW e p with
   | .bp t m o=>LQ n j 0 fun j=>k {v:= .bp t m (o+j*esz)}
   | .bJ c o=>LQ n j 0 fun j=>k {v:= .bJ c (o+j*esz)}
   |_=>aO
  |_=>aO
 | .idx n esz agg x i=>match bW e i with
  | .int _ j=>match bW e x with
   | .agg cs=>LQ n j 0 fun j=>lE (zZ agg (j*esz) cs) (ofV k)
   |_=>aO
  |_=>aO
 | .K1 x i=>match bW e i with
  | .int _ j=>match bW e x with
   | .str t=>lh (afs t j) fun b=>k {v:= .int .u8 b}
   |_=>aO
  |_=>aO
 | .RA esz x lo hi mx=>aoa e s esz (bW e x) lo hi mx k
 | .clear esz zero x=>Ur s z esz zero (bW e x) k
 | .copy esz x y=>afv s z esz (bW e x) (bW e y) k
 | .mks esz zero l c=>match bW e l with
  | .int _ n=>match bW e c with
   | .int _ m=>gB (n==m) (lE (Fy zero) fun r=>bif AC (amw r) esz then lh (sF n (RT.zero r)) fun x=>k {v:= .own (amw s) amD,news:=[.arr r x]} else aO) aO
   |_=>aO
  |_=>aO
 | .mkf fn a b=>k {v:= .eV fn (jF e a) (jF e b)}
 | .mkm z=>match z with
  |none=>k {v:= .mp (amw s),news:=[.set []]}
  |some z=>lE (fR z) fun p=>k {v:= .mp (amw s),news:=[.aP p []]}
 | .lookup n zero ok m q=>match bW e m with
  | .mp t=>match nth s t with
   |some (.set l)=>Qn n zero ok t l (bW e q) k
   |some (.aP p l)=>Qo n zero ok t p l (bW e q) k
   |_=>aO
  |_=>aO
 | .I9 n m q x=>match bW e m with
  | .mp t=>match nth s t with
   |some (.set l)=>bif has z t then aO else Us n t l (bW e q) (bW e x) k
   |some (.aP p l)=>bif has z t then aO else Ut n t p l (bW e q) (bW e x) k
   |_=>aO
  |_=>aO
 | .ext i x=>match bW e x with
  | .cw vs=>lE (nth vs i) (ofV k)
  |_=>aO
 | .append esz x y=>Qm s z esz (bW e x) (bW e y) k
 | .mm isMax x xs=>match bW e x with
  | .int a n=>lE (mmS isMax a n (jF e xs)) (ofV k)
  |_=>aO
 |_=>aO
end
mutual
def Ih (s:List SB) (bx:Nat->Option (List SV)):SV->Option SV
 | .int k n=>amB (.int k n)
 | .bool b=>amB (.bool b)
 | .str x=>amB (.str x)
 | .dU=>amB .dU
 | .agg cs=>match sH s bx cs with|some l=>amB (.agg l)|none=>amC
 | .cw cs=>match sH s bx cs with|some l=>amB (.cw l)|none=>amC
 | .sl r l=>amB (.sl r l)
 | .nil e _=>amB (.nil e amE)
 | .own t _=>match nth s t with
  |some (.arr r l)=>amB (.sl r l)
  |_=>amC
 | .pre t len _ _=>match nth s t with
  |some (.arr r l)=>amB (.sl r (l.take len))
  |_=>amC
 | .part t off len _ _=>match nth s t with
  |some (.arr r l)=>amB (.sl r ((l.drop off).take len))
  |_=>amC
 | .pa t r _ a off=>match nth s t with
  |some (.arr _ _)=>amB (.bJ (RT.sv r a) off)
  |_=>amC
 | .bp t _ off=>match nth s t with
  |some (.box _)=>match bx t with|some l=>amB (.bJ l off)|none=>amC
  |_=>amC
 | .bJ cs off=>match sH s bx cs with|some l=>amB (.bJ l off)|none=>amC
 | .eV f a b=>match sH s bx a,sH s bx b with
  |some x,amB y=>amB (.eV f x y)
  |_,_=>amC
 |_=>amC
def sH (s:List SB) (bx:Nat->Option (List SV)):List SV->Option (List SV)
 | []=>amB []
 |x::xs=>match Ih s bx x,sH s bx xs with
  |some y,amB ys=>amB (y::ys)
  |_,_=>amC
end
def OA (s:List SB) (bx:Nat->Option (List SV)):List SV->Bool
 | []=>amD
 |x::xs=>match x with
  | .mp _=>OA s bx xs
  |x=>match Ih s bx x with
   |some _=>OA s bx xs
   |none=>amE
def kO (s:List SB):Nat->Nat->Option (List SV)
 |0,_=>amC
 |n+1,t=>match nth s t with
  |some (.box cs)=>sH s (kO s n) cs
  |_=>amC
mutual
def OB (bx:Nat->List Nat):SV->List Nat
 | .agg cs=>rM bx cs
 | .cw cs=>rM bx cs
 | .own t _=>[t]
 | .pre t _ _ _=>[t]
 | .part t _ _ _ _=>[t]
 | .pa t _ _ _ _=>t::bx t
 | .pb t _ _=>t::bx t
 | .bp t _ _=>t::bx t
 | .bJ cs _=>rM bx cs
 | .mp t=>[t]
 | .eV _ a b=>rM bx a++rM bx b
 |_=>[]
def rM (bx:Nat->List Nat):List SV->List Nat
 | []=>[]
 |x::xs=>OB bx x++rM bx xs
end
def xS (s:List SB):Nat->Nat->List Nat
 |0,_=>[]
 |n+1,t=>match nth s t with
  |some (.box cs)=>rM (xS s n) cs
  |_=>[]
mutual
def SV.sure:SV->Bool
 | .iU=>amE
 | .agg cs=>my cs
 | .cw cs=>my cs
 | .bJ cs _=>my cs
 | .eV _ a b=>my a&&my b
 |_=>amD
def my:List SV->Bool
 | []=>amD
 |x::xs=>x.sure&&my xs
end
mutual
def AM:SV->Bool
 | .int _ _| .bool _| .str _=>amD
 | .agg cs=>rN cs
 | .cw cs=>rN cs
 |_=>amE
def rN:List SV->Bool
 | []=>amD
 |x::xs=>AM x&&rN xs
end
mutual
def Uu (s:List SB):SV->Option SV
 | .int k n=>amB (.int k n)
 | .bool b=>amB (.bool b)
 | .str x=>amB (.str x)
 | .agg cs=>match OC s cs with|some l=>amB (.agg l)|none=>amC
 | .cw cs=>match OC s cs with|some l=>amB (.cw l)|none=>amC
 | .sl r l=>amB (.sl r l)
 | .nil e _=>amB (.nil e amE)
 | .own t _=>match nth s t with
  |some (.arr r l)=>amB (.sl r l)
  |_=>amC
 | .pre t len _ _=>match nth s t with
  |some (.arr r l)=>amB (.sl r (l.take len))
  |_=>amC
 | .part t off len _ _=>match nth s t with
  |some (.arr r l)=>amB (.sl r ((l.drop off).take len))
  |_=>amC
 |_=>amC
def OC (s:List SB):List SV->Option (List SV)
 | []=>amB []
 |x::xs=>match Uu s x,OC s xs with
  |some y,amB ys=>amB (y::ys)
  |_,_=>amC
end
mutual
def Sf (s:List SB) (z:List Nat):List Nat->SV->Option (SV×List Nat)
 |seen,.int k n=>amB (.int k n,seen)
 |seen,.bool b=>amB (.bool b,seen)
 |seen,.agg cs=>match LR s z seen cs with|some p=>amB (.agg p.1,p.2)|none=>amC
 |seen,.cw cs=>match LR s z seen cs with|some p=>amB (.cw p.1,p.2)|none=>amC
 |seen,.nil e c=>bif c then amB (.nil e amE,seen) else amC
 |seen,.own t _=>match nth s t with
  |some (.arr r l)=>bif has seen t||has z t then amC else amB (.sl r l,t::seen)
  |_=>amC
 |_,_=>amC
def LR (s:List SB) (z:List Nat):List Nat->List SV->Option (List SV×List Nat)
 |seen,[]=>amB ([],seen)
 |seen,x::xs=>match Sf s z seen x with
  |some p=>match LR s z p.2 xs with
   |some q=>amB (p.1::q.1,q.2)
   |none=>amC
  |none=>amC
end
mutual
def yn:Nat->SV->SV×List SB
 |nx,.sl r l=>(.own nx amE,[.arr r l])
 |nx,.nil e _=>(.own nx amE,[.arr (afe e (.i .i64)) []])
 |nx,.agg cs=>(.agg (uR nx cs).1,(uR nx cs).2)
 |nx,.cw cs=>(.cw (uR nx cs).1,(uR nx cs).2)
 |_,v=>(v,[])
def uR:Nat->List SV->List SV×List SB
 |_,[]=>([],[])
 |nx,x::xs=>((yn nx x).1::(uR (nx+(yn nx x).2.length) xs).1,(yn nx x).2++(uR (nx+(yn nx x).2.length) xs).2)
end
def FA:SB->List Nat
 | .box cs=>rM tz cs
 |_=>[]
def zh:SB->Bool
 | .box cs=>my cs
 |_=>amD
def C0 (s:List SB):Nat->List Nat->List Nat->Option (List Nat)
 |_,[],seen=>amB seen
 |0,_::_,_=>amC
 |n+1,t::ts,seen=>
  bif has seen t then C0 s n ts seen
  else match nth s t with
   |some b=>bif zh b then C0 s n (FA b++ts) (seen++[t]) else amC
   |none=>amC
mutual
def qC (m:List Nat):SV->Option SV
 | .agg cs=>match tT m cs with|some l=>amB (.agg l)|none=>amC
 | .cw cs=>match tT m cs with|some l=>amB (.cw l)|none=>amC
 | .own t ex=>match idxOf t m with|some u=>amB (.own u ex)|none=>amC
 | .pre t len cap ex=>match idxOf t m with|some u=>amB (.pre u len cap ex)|none=>amC
 | .part t off len cap ex=>match idxOf t m with|some u=>amB (.part u off len cap ex)|none=>amC
 | .pa t _ i _ off=>match idxOf t m with|some u=>amB (.pb u i off)|none=>amC
 | .pb t i off=>match idxOf t m with|some u=>amB (.pb u i off)|none=>amC
 | .bp t n off=>match idxOf t m with|some u=>amB (.bp u n off)|none=>amC
 | .bJ cs off=>match tT m cs with|some l=>amB (.bJ l off)|none=>amC
 | .mp t=>match idxOf t m with|some u=>amB (.mp u)|none=>amC
 | .eV f a b=>match tT m a,tT m b with
  |some x,amB y=>amB (.eV f x y)
  |_,_=>amC
 | .iU=>amC
 |v=>amB v
def tT (m:List Nat):List SV->Option (List SV)
 | []=>amB []
 |x::xs=>match qC m x,tT m xs with
  |some y,amB ys=>amB (y::ys)
  |_,_=>amC
end
def OD (m:List Nat):SB->Option SB
 | .box cs=>match tT m cs with|some l=>amB (.box l)|none=>amC
 |b=>amB b
def HC (s:List SB) (m:List Nat):List Nat->Option (List SB)
 | []=>amB []
 |t::ts=>match nth s t with
  |some b=>match OD m b,HC s m ts with
   |some b',amB r=>amB (b'::r)
   |_,_=>amC
  |none=>amC
def rowOf (rk:List (Nat×List PT)) (esz:Nat):List PT:=
 match rk with
 | []=>afe esz (.i .i64)
 |(n,r)::q=>bif AC n esz&&AC (amw r) esz then r else rowOf q esz
def JI:Option Nat->SV->SV
 |some _,.own t _=> .own t amE
 |some _,.pre t l c _=> .pre t l c amE
 |some _,.part t o l c _=> .part t o l c amE
 |_,v=>v
def xI (rk:List (Nat×List PT)) (e:SE) (m:List Nat):Nat->List (Nat×Option Nat)->Option (SE×List SB)
 |_,[]=>amB ([],[])
 |nx,(s,k)::r=>
  match k,Hm s e with
  |some esz,.nil _ amD=>match xI rk e m (nx+1) r with
   |some p=>amB ((s,.own nx amE)::p.1,.arr (rowOf rk esz) []::p.2)
   |none=>amC
  |_,v=>match qC m v,xI rk e m nx r with
   |some v',amB p=>amB ((s,JI k v')::p.1,p.2)
   |_,_=>amC
def FB (rk:List (Nat×List PT)) (st:qB) (t c esz:Nat):qB:=
 match nth st.aD t with
 |some (.box cs)=>match nth cs c with
  |some (.nil _ amD)=>{st with aD:=st.aD.set t (.box (cs.set c (.own (amw st.aD) amE)))++[.arr (rowOf rk esz) []]}
  |_=>st
 |_=>st
def Uv:SV->Option Nat
 | .bp t _ 0=>amB t
 |_=>amC
def XF:SV->Option Nat
 | .eV _ _ (x::_)=>Uv x
 |x=>Uv x
def me (rk:List (Nat×List PT)):List (Nat×Option Nat)->qB->qB
 | [],st=>st
 |(s,k)::r,st=>match k with
  |some n=>bif ae3 1000 n then (match XF (Hm s st.env) with
   |some t=>me rk r (FB rk st t (n / 1000-1) (n%1000))
   |none=>me rk r st) else me rk r st
  |none=>me rk r st
def Ii (s:List SB) (v:SV):SV:=
 match v with
 | .own t ex=>match nth s t with
  |some (.arr _ l)=> .pre t (amw l) (amw l) ex
  |_=>v
 |_=>v
def Qp (s:List SB) (c:Nat):SE->SE
 | []=>[]
 |(t,v)::r=>bif AC t c then (t,Ii s v)::r else (t,v)::Qp s c r
def BG:List (Nat×Option Nat)->qB->qB
 | [],st=>st
 |(t,_)::r,st=>bif ae3 1000000 t then BG r {st with env:=Qp st.aD (t-1000000) st.env} else BG r st
def BH (e:SE):List (Nat×Option Nat)->Bool
 | []=>amD
 |(s,_)::r=>(Hm s e).sure&&BH e r
def FC (e:SE):List (Nat×Option Nat)->List Nat
 | []=>[]
 |(s,_)::r=>OB tz (Hm s e)++FC e r
def OE:List SB->Nat->List Nat
 |b::r,n+1=>FA b++OE r n
 |_,_=>[]
def FD:List SB->Nat->Bool
 |b::r,n+1=>zh b&&FD r n
 |_,_=>amD
def FE (rk:List (Nat×List PT)) (live:List (Nat×Option Nat)) (st:qB):Option qB:=
 bif BH st.env live&&FD st.aD st.kn then
  match C0 st.aD 4096 (OE st.aD st.kn++FC st.env live) (vq st.kn) with
  |none=>amC
  |some m=>match HC st.aD m m,xI rk st.env m (amw m) live with
   |some s1,amB (e1,s2)=>amB (BG live (me rk live {env:=e1,aD:=s1++s2,fz:=xZ st.fz 0 m,kn:=st.kn}))
   |_,_=>amC
 else amC
def FF (rk:List (Nat×List PT)) (live:List (Nat×Option Nat)) (st:qB):Option qB:=
 match FE rk live st with
 |some s=>bif live.any fun p=>p.2.isSome then FE rk live s else amB s
 |none=>amC
inductive AK where
 |i
 |b
 |n
 |l (r:List PT)
 |s
@[reducible] def AK.T : AK -> Type
  | .i => Int
  | .b => Bool
  | .n => Nat
  | .l r => List (RT r)
  | .s => List (List Int)
@[reducible] def j0 : List AK -> Type
  | [] => Unit
  | [a] => a.T
  | a :: q :: r => a.T × j0 (q :: r)
inductive xV where
 |i (n:Int)
 |b (x:Bool)
 |n (x:Nat)
 |l (r:List PT) (x:List (RT r))
 |s (x:List (List Int))
def xV.k:xV->AK
 | .i _=> .i
 | .b _=> .b
 | .n _=> .n
 | .l r _=> .l r
 | .s _=> .s
def AK.at:(a:AK)->a.T->xV
 | .i,x=> .i x
 | .b,x=> .b x
 | .n,x=> .n x
 | .l r,x=> .l r x
 | .s,x=> .s x
def AK.of:(a:AK)->xV->Option a.T
 | .i,.i x=>amB x
 | .b,.b x=>amB x
 | .n,.n x=>amB x
 | .l r,.l q x=>sG q r x
 | .s,.s x=>amB x
 |_,_=>amC
def mF:(ks:List AK)->j0 ks->List xV
 | [],_=>[]
 | [a],x=>[a.at x]
 |a::q::r,x=>a.at x.1::mF (q::r) x.2
def q9:(ks:List AK)->List xV->Option (j0 ks)
 | [],[]=>amB ()
 | [a],[x]=>a.of x
 |a::q::r,x::xs=>match a.of x,q9 (q::r) xs with
  |some y,amB ys=>amB (y,ys)
  |_,_=>amC
 |_,_=>amC
mutual
def C1:SV->List xV
 | .int _ n=>[.i n]
 | .bool b=>[.b b]
 | .agg cs=>C2 cs
 | .cw cs=>C2 cs
 | .sl r l=>[.l r l]
 | .pre _ len cap _=>[.n len,.n cap]
 | .part _ off len cap _=>[.n off,.n len,.n cap]
 | .pb _ i _=>[.i i]
 | .bJ cs _=>C2 cs
 | .eV _ a b=>C2 a++C2 b
 |_=>[]
def C2:List SV->List xV
 | []=>[]
 |x::xs=>C1 x++C2 xs
end
def Uw:SB->List xV
 | .arr r l=>[.l r l]
 | .box cs=>C2 cs
 | .set l=>[.s l]
 | .aP p l=>[.l [.i .i64,p] l]
 | .dead=>[]
def JJ:List SB->List xV
 | []=>[]
 |b::r=>Uw b++JJ r
def Sg:SE->List xV
 | []=>[]
 |(_,v)::r=>C1 v++Sg r
def xJ (st:qB):List xV:=Sg st.env++JJ st.aD
mutual
def xK:SV->SV->Bool
 | .undef,.undef=>amD
 | .jA,.jA=>amD
 | .dU,.dU=>amD
 | .int k _,.int l _=>fE k l
 | .bool _,.bool _=>amD
 | .agg a,.agg b=>yo a b
 | .cw a,.cw b=>yo a b
 | .sl r _,.sl q _=>BE r q
 | .nil e c,.nil f d=>AC e f&&c==d
 | .own t x,.own u y=>AC t u&&x==y
 | .pre t _ _ x,.pre u _ _ y=>AC t u&&x==y
 | .part t _ _ _ x,.part u _ _ _ y=>AC t u&&x==y
 | .pb t _ o,.pb u _ p=>AC t u&&AC o p
 | .bp t n o,.bp u m p=>AC t u&&AC n m&&AC o p
 | .bJ a o,.bJ b p=>yo a b&&AC o p
 | .eV f a b,.eV g c d=>AC f g&&yo a c&&yo b d
 | .mp t,.mp u=>AC t u
 |_,_=>amE
def yo:List SV->List SV->Bool
 | [],[]=>amD
 |x::xs,y::ys=>xK x y&&yo xs ys
 |_,_=>amE
end
def afw:SB->SB->Bool
 | .arr r _,.arr q _=>BE r q
 | .box a,.box b=>yo a b
 | .set _,.set _=>amD
 | .aP p _,.aP q _=>p.same q
 | .dead,.dead=>amD
 |_,_=>amE
def FG:List SB->List SB->Bool
 | [],[]=>amD
 |x::xs,y::ys=>afw x y&&FG xs ys
 |_,_=>amE
def Qq:SE->SE->Bool
 | [],[]=>amD
 |(t,x)::xs,(u,y)::ys=>AC t u&&xK x y&&Qq xs ys
 |_,_=>amE
def Qr:List Nat->List Nat->Bool
 | [],[]=>amD
 |x::xs,y::ys=>AC x y&&Qr xs ys
 |_,_=>amE
def FH (a b:qB):Bool:=Qq a.env b.env&&FG a.aD b.aD&&Qr a.fz b.fz&&AC a.kn b.kn
mutual
def tD:SV->List xV->SV×List xV
 | .int k _,.i n::q=>(.int k n,q)
 | .bool _,.b x::q=>(.bool x,q)
 | .agg cs,q=>(.agg (rO cs q).1,(rO cs q).2)
 | .cw cs,q=>(.cw (rO cs q).1,(rO cs q).2)
 | .sl _ _,.l r l::q=>(.sl r l,q)
 | .pre t _ _ x,.n len:: .n cap::q=>(.pre t len cap x,q)
 | .part t _ _ _ x,.n off:: .n len:: .n cap::q=>(.part t off len cap x,q)
 | .pb t _ o,.i i::q=>(.pb t i o,q)
 | .bJ cs o,q=>(.bJ (rO cs q).1 o,(rO cs q).2)
 | .eV f a b,q=>(.eV f (rO a q).1 (rO b (rO a q).2).1,(rO b (rO a q).2).2)
 |v,q=>(v,q)
def rO:List SV->List xV->List SV×List xV
 | [],q=>([],q)
 |x::xs,q=>((tD x q).1::(rO xs (tD x q).2).1,(rO xs (tD x q).2).2)
end
def OF:SB->List xV->SB×List xV
 | .arr _ _,.l r l::q=>(.arr r l,q)
 | .box cs,q=>(.box (rO cs q).1,(rO cs q).2)
 | .set _,.s l::q=>(.set l,q)
 | .aP _ _,.l [.i .i64,p] l::q=>(.aP p l,q)
 |b,q=>(b,q)
def AN:List SB->List xV->List SB×List xV
 | [],q=>([],q)
 |b::r,q=>((OF b q).1::(AN r (OF b q).2).1,(AN r (OF b q).2).2)
def LS:SE->List xV->SE×List xV
 | [],q=>([],q)
 |(t,v)::r,q=>((t,(tD v q).1)::(LS r (tD v q).2).1,(LS r (tD v q).2).2)
def z7 (st:qB) (q:List xV):qB:={st with env:=(LS st.env q).1,aD:=(AN st.aD (LS st.env q).2).1}
def agD:List xV->List AK
 | []=>[]
 |a::r=>a.k::agD r
def ptK {β:Type 1} (p:PT) (c:PT->β):β:=
 match p with
 | .i k=>c (.i k)
 | .b=>c .b
def rK {β:Type 1}:List PT->(List PT->β)->β
 | [],c=>c []
 |p::r,c=>ptK p fun p=>rK r fun r=>c (p::r)
def ksK {β:Type 1}:List AK->(List AK->β)->β
 | [],c=>c []
 | .i::r,c=>ksK r fun r=>c (.i::r)
 | .b::r,c=>ksK r fun r=>c (.b::r)
 | .n::r,c=>ksK r fun r=>c (.n::r)
 | .l q::r,c=>rK q fun q=>ksK r fun r=>c (.l q::r)
 | .s::r,c=>ksK r fun r=>c (.s::r)
mutual
def sI:SV->Option PV
 | .int k n=>amB (.int k n)
 | .bool b=>amB (.bool b)
 | .str x=>amB (.str x)
 | .dU=>amB .dU
 | .agg cs=>match sJ cs with|some l=>amB (.agg l)|none=>amC
 | .cw cs=>match sJ cs with|some l=>amB (.cw l)|none=>amC
 | .sl r l=>amB (.sl (amw r) amE (l.map (RT.pv r)))
 | .nil e c=>amB (.sl e c [])
 | .bJ cs off=>match sJ cs with|some l=>amB (.bJ l off)|none=>amC
 | .eV f a b=>match sJ a,sJ b with
  |some x,amB y=>amB (.eV f x y)
  |_,_=>amC
 |_=>amC
def sJ:List SV->Option (List PV)
 | []=>amB []
 |x::xs=>match sI x,sJ xs with
  |some y,amB ys=>amB (y::ys)
  |_,_=>amC
end
structure cI (α:Type) where
 enc:α->List SV
 dec:List SV->Option (α×List SV)
 law: ∀{vs:List SV} {a:α} {rest:List SV} {ps:List PV},dec vs=amB (a,rest)->sJ vs=amB ps-> ∃p q,ps=p++q/\sJ (enc a)=amB p/\sJ rest=amB q
structure Arg (α:Type) where
 enc:α->SV
 dec:SV->Option α
 law: ∀{v:SV} {a:α} {p:PV},dec v=amB a->sI v=amB p->sI (enc a)=amB p
structure au (α:Type) where
 enc:α->List SV
 dec:List SV->Option α
 law: ∀{vs:List SV} {a:α} {ps:List PV},dec vs=amB a->sJ vs=amB ps->sJ (enc a)=amB ps
inductive Kd where
 |pure
 |mz
 |own
structure bD where
 {α β:Type}
 args:au α
 res:Arg β
 fn:α->Option β
 kd:Kd
 ow:Bool
structure dS where
 ka:List AK
 ta:List SV
 tb:List SB
 ko:List AK
 tv:SV
 to:List SB
 fn:j0 ka->Option (j0 ko)
def BI:(p:PT)->PV->Option p.T
 | .i k,.int l n=>bif fE l k then amB n else amC
 | .b,.bool x=>amB x
 |_,_=>amC
def HD:(r:List PT)->List PV->Option (RT r)
 | [],[]=>amB ()
 | [p],[v]=>BI p v
 |p::q::r,v::vs=>match BI p v,HD (q::r) vs with
  |some a,amB b=>amB (a,b)
  |_,_=>amC
 |_,_=>amC
def DP (r:List PT):List (List PV)->Option (List (RT r))
 | []=>amB []
 |x::xs=>match HD r x,DP r xs with
  |some a,amB l=>amB (a::l)
  |_,_=>amC
structure Srt where
 r:List PT
 g:Option FuncId
 fn:List (RT r)->Option (List (RT r))
def OG:Srt:=⟨[.i .i64],amC,JF⟩
def XG:Option FuncId->List PV->Bool
 |none,[]=>amD
 |some g,[.eV h [] []]=>AC h g
 |_,_=>amE
def JK (q:Srt) (args:List PV) (aD:cL) (fz:List Nat):Option (PV×cL×List Nat):=
 match args with
 | .own t e off len _ _::r=>match aD[t]? with
  |some (.arr e1 rows)=>if AC e (amw q.r)&&AC off 0&&ae3 len (amw rows)&&ae3 len eu&&!has fz t&&XG q.g r then
   (match DP q.r (rows.take len) with
   |some l=>match q.fn l with
    |some m=>if AC (amw m) (amw l) then amB (.cw [],aD.set t (.arr e1 (m.map (RT.pv q.r)++rows.drop len)),fz) else amC
    |none=>amC
   |none=>amC) else amC
  |_=>amC
 |_=>amC
inductive Cd where
 |code (x:aK)
 |ins (esz:Nat)
 |srt (q:Srt)
 |cat
instance:Coe aK Cd:=⟨.code⟩
def Cd.ent:Cd->Ent
 | .code x=> .code x
 | .ins n=> .Hj (Jd n)
 | .srt q=> .Hj (JK q)
 | .cat=> .Hj Jb
structure Ctx where
 lp:Option Nat
 con:FuncId->List bD
 fpc:FuncId->List dS
 code:FuncId->Option Cd
 rk:List (Nat×List PT)
inductive XRS where
 |loc (r:fX)
 |shr (v:SV) (s:List SB) (z:List Nat)
def SV.agF:SV->Bool
 | .own .. | .pre .. | .part .. | .pa .. | .pb .. | .bp .. | .mp .. =>amD
 |_=>amE
def AO:List SV->Bool
 | []=>amE
 |x::xs=>x.agF||AO xs
mutual
def WX (ts:List Nat):SV->SV
 | .pa t r i a off=>bif has ts t then .pb t i off else .pa t r i a off
 | .agg cs=> .agg (Ux ts cs)
 | .cw cs=> .cw (Ux ts cs)
 | .bJ cs off=> .bJ (Ux ts cs) off
 | .eV f a b=> .eV f (Ux ts a) (Ux ts b)
 |v=>v
def Ux (ts:List Nat):List SV->List SV
 | []=>[]
 |x::xs=>WX ts x::Ux ts xs
end
def dgE (ts:List Nat):SE->SE
 | []=>[]
 |(t,v)::r=>(t,WX ts v)::dgE ts r
def XH (ts:List Nat):SB->SB
 | .box cs=> .box (Ux ts cs)
 |b=>b
def Cz (ts:List Nat):List SB->List SB
 | []=>[]
 |b::r=>XH ts b::Cz ts r
def Uy:List SB->Nat->SB->List SB
 | [],_,_=>[]
 |_::r,0,b=>b::r
 |x::r,n+1,b=>x::Uy r n b
def rh:List (Nat×SB)->List SB->List SB
 | [],s=>s
 |(t,b)::r,s=>rh r (Uy s t b)
def yp:List (Nat×SB)->List Nat
 | []=>[]
 |(t,_)::r=>t::yp r
def JL (d:Option Nat) (v:SV) (e:SE):SE:=
 match d with
 |some t=>(t,v)::e
 |none=>e
def apS:List SB->List SB->List SB
 | [],l=>l
 |b::r,l=>b::apS r l
def fX.next (d:Option Nat) (st:qB) (r:fX):qB:=
 match r.wr with
 | []=>{env:=JL d r.v st.env,aD:=apS st.aD r.news,fz:=r.fr++st.fz,kn:=st.kn}
 |w=>{env:=JL d r.v (dgE (yp w) st.env),aD:=apS (Cz (yp w) (rh w st.aD)) r.news,fz:=r.fr++st.fz,kn:=st.kn}
def fX.ok (z:List Nat) (r:fX):Bool:=(yp r.wr).all fun t=>!has z t
def fX.tr (nx:Nat) (r:fX):Tr:=
 ⟨r.rd++r.fr,yp r.wr,!r.news.isEmpty,amE,(r.rd++r.fr).all (afx · nx)&&(yp r.wr).all (afx · nx),nx,nx+amw r.news⟩
def Uz:Tr:=⟨[],[],amD,amD,amD,0,0⟩
def pP {R:Type}:List SB->List SB->gq R->gq R
 | [],_,k=>k
 |x::xs,y::ys,k=>match x with
  | .arr r l=>match y with
   | .arr q m=>bif BE r q then gB (amw m==amw l) (pP xs ys k) aO else aO
   | .dead=>pP xs ys k
   |_=>aO
  | .dead=>match y with
   | .dead=>pP xs ys k
   |_=>aO
  | .box _=>match y with
   | .box _=>pP xs ys k
   | .dead=>pP xs ys k
   |_=>aO
  |_=>pP xs ys k
 |_,_,_=>aO
abbrev XI:=FuncId->List SV->List SB->List Nat-> ∀R:Type,(SV->List SB->List Nat->gq R)->gq R
section
variable {R : Type}
def aob (_:FuncId) (_:List SV):gq R:=aO
def asR (_:FuncId) (_:List SV) (_:List SB):gq R:=aO
def OH (f:FuncId) (m:Bool) (s:List SB) (tk:List Nat) (vs:List SV) (k:XRS->gq R):List bD->gq R
 | []=>aob f vs
 |c::r=>match c.args.dec vs with
  |some a=>bif m==c.ow then lh (c.fn a) fun b=>match c.kd with
   | .pure=>k (.loc {v:=c.res.enc b,rd:=tk})
   | .mz=>k (.loc {v:=c.res.enc b,rd:=tk,fr:=tk})
   | .own=>k (.loc {v:=(yn (amw s) (c.res.enc b)).1,news:=(yn (amw s) (c.res.enc b)).2,rd:=tk}) else OH f m s tk vs k r
  |none=>OH f m s tk vs k r
mutual
def LU (g:Nat->Nat):SV->SV
 | .agg cs=> .agg (DQ g cs)
 | .cw cs=> .cw (DQ g cs)
 | .own t ex=> .own (g t) ex
 | .pre t len cap ex=> .pre (g t) len cap ex
 | .part t off len cap ex=> .part (g t) off len cap ex
 | .pa t _ i _ off=> .pb (g t) i off
 | .pb t i off=> .pb (g t) i off
 | .bp t n off=> .bp (g t) n off
 | .bJ cs off=> .bJ (DQ g cs) off
 | .mp t=> .mp (g t)
 | .eV f a b=> .eV f (DQ g a) (DQ g b)
 |v=>v
def DQ (g:Nat->Nat):List SV->List SV
 | []=>[]
 |x::xs=>LU g x::DQ g xs
end
def UA (g:Nat->Nat):SB->SB
 | .box cs=> .box (DQ g cs)
 |b=>b
def z8 (g:Nat->Nat):List Nat->List SB->List (Nat×SB)
 |t::r,b::s=>(t,UA g b)::z8 g r s
 |_,_=>[]
def afz (k:Nat) (v:SV) (s:List SB):Bool:=(OB tz v++s.flatMap FA).all fun t=>afx t k
def fpS (f : FuncId) (n : Nat) (tk : List Nat) (vs : List SV) (s0 : List SB) (k : XRS -> gq R) : List dS -> gq R
  | [] => asR f vs s0
  | c :: r => bif yo c.ta vs && FG c.tb s0 then (match q9 c.ka (C2 vs ++ JJ s0) with
      | some a => lh (c.fn a) fun b =>
          k (.loc { v := LU (kq tk n) (tD c.tv (mF c.ko b)).1, wr := z8 (kq tk n) tk (AN c.to (tD c.tv (mF c.ko b)).2).1 })
      | none => fpS f n tk vs s0 k r) else fpS f n tk vs s0 k r
def Ij (cx:Ctx) (inl:XI) (e:SE) (s:List SB) (z:List Nat) (op:k7) (k:XRS->gq R):gq R:=
 match op with
 | .call m f args=>match m with
  | .WM=>match sH s (kO s deep) (jF e args) with
   |some vs=>OH f amE s (rM (xS s deep) (jF e args)) vs k (cx.con f)
   |none=>aO
  | .own=>match sH s (kO s deep) (jF e args) with
   |some vs=>OH f amD s (rM (xS s deep) (jF e args)) vs k (cx.con f)
   |none=>aO
  | .shr=>inl f (jF e args) s z R fun v s' z'=>k (.shr v s' z')
  | .fp=>match OA s (kO s deep) (jF e args) with
   |false=>aO
   |true=>let tk:=oZ (rM (xS s deep) (jF e args))
    bif tk.all (fun t=>!has z t) then (match tT tk (jF e args),HC s tk tk with
     |some vs,amB s0=>fpS f (amw s) tk vs s0 k (cx.fpc f)
     |_,_=>aO) else aO
 | .xB x args=>match bW e x with
  | .eV f a b=>bif AO (jF e args++b) then inl f (a++jF e args++b) s z R fun v s' z'=>k (.shr v s' z')
   else match sH s (kO s deep) (a++jF e args++b) with
   |some vs=>OH f amE s (rM (xS s deep) (a++jF e args++b)) vs k (cx.con f)
   |none=>aO
  |_=>aO
 |op=>mA e s z op fun r=>k (.loc r)
def Qs (d:Option Nat) (st:qB) (tr:List Tr) (k:qB->List Tr->gq R) (x:XRS):gq R:=
 match x with
 | .loc r=>bif r.ok st.fz then XD r.v fun v=>k ({r with v}.next d st) (r.tr (amw st.aD)::tr) else aO
 | .shr v s z=>XD v fun v=>pP st.aD s (bif st.fz.all (has z) then k {env:=JL d v (dgE (vq (amw st.aD)) st.env),aD:=s,fz:=z,kn:=st.kn} (Uz::tr) else aO)
def o9 (cx:Ctx) (inl:XI):List bU->qB->List Tr->(qB->List Tr->gq R)->gq R
 | [],st,tr,k=>k st tr
 |o::r,st,tr,k=>
  let run:=fun st:qB=>match o.op with
   | .pick (.t c) a b=>match Hm c st.env with
    | .bool x=>gB x (Qs o.dst {st with env:=AL c (.bool amD) st.env} tr (o9 cx inl r · · k) (.loc {v:=bW st.env a}))
     (Qs o.dst {st with env:=AL c (.bool amE) st.env} tr (o9 cx inl r · · k) (.loc {v:=bW st.env b}))
    |_=>aO
   |op=>Ij cx inl st.env st.aD st.fz op (Qs o.dst st tr (o9 cx inl r · · k))
  let skip:=fun st:qB=>o9 cx inl r {st with env:=JL o.dst .jA st.env} (Tr.idle::tr) k
  match o.guard with
  |none=>run st
  |some (s,want)=>match Hm s st.env with
   | .bool x=>bif want then gB x (run {st with env:=AL s (.bool amD) st.env}) (skip {st with env:=AL s (.bool amE) st.env})
    else gB x (skip {st with env:=AL s (.bool amD) st.env}) (run {st with env:=AL s (.bool amE) st.env})
   | .jA=>skip st
   |_=>aO
def LV (e:SE):List Nat->(SE->gq R)->gq R
 | [],k=>k []
 |s::r,k=>XD (Hm s e) fun v=>LV e r fun e'=>k ((s,v)::e')
noncomputable def BJ (cx:Ctx) (inl:XI):(c:jX)->(R:Type)->qB->(hJ->qB->gq R)->gq R
 | .skip,_,st,k=>k .normal st
 | .region d ops fU,_,st,k=>o9 cx inl ops st [] fun kU tr=>
  let fin:=LV kU.env fU fun e=>k .normal {kU with env:=e}
  match d with
  |none=>fin
  |some bf=>match rG 0 (tr.reverse.zip bf) with
   |true=>fin
   |false=>aO
 | .seq a b,R,st,k=>BJ cx inl a R st fun e kU=>match e with
  | .normal=>BJ cx inl b R kU k
  |e=>k e kU
 | .cond c a b,R,st,k=>match bW st.env c with
  | .bool x=>gB x (BJ cx inl a R st k) (BJ cx inl b R st k)
  |_=>aO
 | .block id b,R,st,k=>BJ cx inl b R st fun e kU=>match e with
  | .exit j=>bif AC j id then k .normal kU else k (.exit j) kU
  |e=>k e kU
 | .loop live b,_,st,k=>match FF cx.rk live st with
  |none=>aO
  |some ob=>ksK (agD (xJ ob)) fun ks=>match q9 ks (xJ ob) with
   |none=>aO
   |some y0=>fun ρ w=>Un cx.lp (fun y:j0 ks=>BJ cx inl b (Step (j0 ks) ρ) (z7 ob (mF ks y)) (fun e D'=>match e with
    | .normal=>match FF cx.rk live D' with
     |some OI=>bif FH ob OI then (match q9 ks (xJ OI) with
      |some y'=>Ig (.next y')
      |none=>aO) else aO
     |none=>aO
    |e=>fun BK w'=>k e D' BK fun r=>w' (.done (w r))) (Step (j0 ks) ρ) fun z=>z) y0
 | .exit id,_,st,k=>k (.exit id) st
 | .ret,_,st,k=>k .ret st
def OJ (st:qB):RV->Option SV
 | .tmp t=>amB (Hm t st.env)
 | .cell t agg=>match Hm t st.env with
  | .bp t _ off=>match nth st.aD t with
   |some (.box cs)=>zZ agg off cs
   |_=>amC
  | .bJ cs off=>zZ agg off cs
  |_=>amC
def zi (st:qB):List RV->Option (List SV)
 | []=>amB []
 |r::rs=>match OJ st r,zi st rs with
  |some v,amB vs=>amB (v::vs)
  |_,_=>amC
def C3:List SV->SV
 | [v]=>v
 |vs=> .cw vs
def OK:Nat->List SV->SE
 |_,[]=>[]
 |i,v::r=>(i,v)::OK (i+1) r
noncomputable def LW (cx:Ctx) (inl:XI) (x:aK) (R:Type) (args:List SV) (s:List SB) (z:List Nat) (k:SV->List SB->List Nat->gq R):gq R:=
 bif AC (amw args) x.DE then BJ cx inl x.code R {env:=OK 0 args,aD:=s,fz:=z,kn:=amw s} fun e st=>match e with
  | .exit _=>aO
  |_=>match zi st x.res with
   |some vs=>k (C3 vs) st.aD st.fz
   |none=>aO
 else aO
def fX.nF (s:List SB) (r:fX):List SB:=
 match r.wr with
 | []=>apS s r.news
 |w=>apS (Cz (yp w) (rh w s)) r.news
def DR:Option FuncId->List SV->Bool
 |none,[]=>amD
 |some g,[.eV h [] []]=>AC h g
 |_,_=>amE
structure aoc where
 t:Nat
 r:List PT
 l:List (RT r)
 i:Int
 m:List (RT r)
def XJ (esz:Nat) (args:List SV) (s:List SB) (z:List Nat):Option aoc:=
 match args with
 | [.own t _,.int .i64 i,.own u _]=>match nth s t with
  |some (.arr r l)=>match nth s u with
   |some (.arr q m)=>match sG q r m with
    |some m=>bif AC (amw r) esz&&!Nat.beq t u&&!has z t then amB ⟨t,r,l,i,m⟩ else amC
    |none=>amC
   |_=>amC
  |_=>amC
 |_=>amC
def agH (esz:Nat) (args:List SV) (s:List SB) (z:List Nat) (k:SV->List SB->List Nat->gq R):gq R:=
 match XJ esz args s z with
 |some a=>lh (tR a.l a.i a.m) fun l'=>k (.own (amw s) amE) (fX.nF s {v:= .own (amw s) amE,news:=[.arr a.r l'],wr:=[(a.t,.dead)]}) z
 |none=>aO
structure aod where
 t:Nat
 r:List PT
 l:List (RT r)
 m:List (RT r)
def XK (args:List SV) (s:List SB) (z:List Nat):Option aod:=
 match args with
 | [.part t off len _ _]=>match nth s t with
  |some (.box [.sl r l,.sl q m])=>match sG q r m with
   |some m=>bif AC (amw r) 1&&AC off 0&&AC len 2&&!has z t then amB ⟨t,r,l,m⟩ else amC
   |none=>amC
  |_=>amC
 |_=>amC
def agI (args:List SV) (s:List SB) (z:List Nat) (k:SV->List SB->List Nat->gq R):gq R:=
 match XK args s z with
 |some a=>lh (Se a.l a.m) fun l'=>k (.own (amw s) amE) (fX.nF s {v:= .own (amw s) amE,news:=[.arr a.r l'],wr:=[(a.t,.dead)]}) z
 |none=>aO
def XL (r:List PT) (g:Option FuncId) (args:List SV) (s:List SB) (z:List Nat):Option (Nat×Option Nat×List (RT r)):=
 match args with
 | .own t _::a=>match nth s t with
  |some (.arr q l)=>match sG q r l with
   |some l=>bif !has z t&&DR g a then amB (t,amC,l) else amC
   |none=>amC
  |_=>amC
 | .pre t len _ _::a=>match nth s t with
  |some (.arr q l)=>match sG q r l with
   |some l=>bif !has z t&&DR g a then amB (t,amB len,l) else amC
   |none=>amC
  |_=>amC
 |_=>amC
def agJ (q:Srt) (args:List SV) (s:List SB) (z:List Nat) (k:SV->List SB->List Nat->gq R):gq R:=
 match XL q.r q.g args s z with
 |some (t,amC,l)=>lh (DO q.fn l) fun m=>k (.cw []) (fX.nF s {v:= .cw [],wr:=[(t,.arr q.r m)]}) z
 |some (t,amB len,l)=>lh (zg q.fn len l) fun m=>k (.cw []) (fX.nF s {v:= .cw [],wr:=[(t,.arr q.r m)]}) z
 |none=>aO
noncomputable def UB (cx:Ctx):Nat->XI
 |0=>fun _ _ _ _ _ _=>aO
 |n+1=>fun f args s z R k=>match cx.code f with
  |some (.code x)=>LW cx (UB cx n) x R args s z k
  |some (.ins e)=>agH e args s z k
  |some (.srt q)=>agJ q args s z k
  |some .cat=>agI args s z k
  |none=>aO
def UC (kd:Kd) {β:Type} (res:Arg β) (v:SV) (s:List SB) (z:List Nat):gq β:=
 match kd with
 | .pure=>bif AM v then lE (res.dec v) Ig else aO
 | .mz=>bif AM v then aO else lE (Uu s v) fun u=>lE (res.dec u) Ig
 | .own=>lE (Sf s z [] v) fun u=>lE (res.dec u.1) Ig
noncomputable def afA (cx:Ctx) (x:aK) {α β:Type} (args:au α) (res:Arg β) (kd:Kd) (a:α):Option β:=
 LW cx (UB cx 8) x β (args.enc a) [] [] (UC kd res) β fun b=>b
def FI:List SB->Bool
 | []=>amD
 |b::r=>zh b&&FI r
def BL {R:Type}:List SB->List SB->gq R->gq R
 | [],[],k=>k
 |x::xs,y::ys,k=>match x with
  | .arr r l=>match y with
   | .arr q m=>bif BE r q then gB (amw m==amw l) (BL xs ys k) aO else aO
   |_=>aO
  | .dead=>match y with
   | .dead=>BL xs ys k
   |_=>aO
  | .box _=>match y with
   | .box _=>BL xs ys k
   |_=>aO
  | .set _=>match y with
   | .set _=>BL xs ys k
   |_=>aO
  | .aP _ _=>match y with
   | .aP _ _=>BL xs ys k
   |_=>aO
 |_,_,_=>aO
noncomputable def asS (wd:Bool) (cx:Ctx) (x:aK) (ka:List AK) (ta:List SV) (tb:List SB) (ko:List AK) (tv:SV) (to:List SB) (a:j0 ka):Option (j0 ko):=
 LW cx (UB cx 8) x (j0 ko) (rO ta (mF ka a)).1 (AN tb (rO ta (mF ka a)).2).1 [] (fun v s z=>match z with
  | []=>let u:=bif wd then Ii s v else v
   let s1:=s.take (amw tb)
   bif xK tv u&&FG to s1&&afz (amw tb) u s1&&u.sure&&FI s1 then BL (AN tb (rO ta (mF ka a)).2).1 s1 (lE (q9 ko (C1 u++JJ s1)) Ig) else aO
  |_=>aO) (j0 ko) fun b=>b
end
end Go.Vm
