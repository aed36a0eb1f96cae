/- The logical machine, part 2: VmCall3, VmFp, VmRun, VmInv, VmStep, VmShr, VmOp, VmReg, VmReg2, VmNorm, VmNorm2, VmCode, VmSound, VmPrim, VmIns, VmCat, VmTab, VmComp, VmLaw, VmSym, SvBase, SvDef. -/
import Derived.Test.YtbgoiokedpjgbaaGreatBVm1
import Derived.Orders
import Derived.Laws.Sem
import Derived.Laws.Externs
import Derived.Lib.SliceRun
import Derived.Laws.CopyRow
import Derived.ProofKit
import Derived.Carry
import Derived.OpenShut
import Derived.Deep.Slices
import Derived.Deep.Grids
open Bool renaming and_eq_true->ut,false_eq_true->PP,not_eq_true'->UV,or_eq_true->agG,true->anq,false->anr
open List renaming getElem?_eq_getElem->v6,getElem?_eq_some_iff->Do,getElem?_append_left->EQ,getElem?_append_right->M2,mem_append->af2,all_eq_true->af7,mem_singleton->afc,length_append->aff,take_of_length_le->afg,append_assoc->afk,replicate->afm,mem_cons->afE,mem_cons_of_mem->afI,flatMap_append->afQ,getD_eq_getElem?_getD->afU,pairwise_iff_getElem->afV,flatMap_cons->agc,getElem?_take_of_lt->agd,length_drop->agj,length_take->agr,drop_of_length_le->agt,mem_append_right->agH,getElem?_set_ne->agJ,mem_append_left->agM,mem_of_mem_take->agX,mem_of_mem_drop->aig,nodup_append->am1,getElem?_set->am6,any_eq_true->am9,length_set->amW,drop_zero->an0,length->an4
open Option.some renaming injEq->ww,inj->agx
open Nat renaming beq->AC,le_refl->If,lt_trichotomy->acl,lt_or_ge->adc,le_trans->ae9,ble->af6,zero_le->afa,eq_or_lt_of_le->afb,lt_of_lt_of_le->afj,ble_eq->afo,blt->afF,le_of_lt->afR,add_mul->agS,mul_le_mul_right->akr,lt_or_gt_of_ne->akt,beq_eq->aku,le_total->alt,zero_add->an2
open Option renaming map_eq_some_iff->F0s,some->an9,none->anp
open Prod.mk renaming injEq->IR
open Array renaming getElem?_eq_some_iff->NE,getElem?_setIfInBounds->af4,getD_eq_getD_getElem?->af5,getElem?_setIfInBounds_self_of_lt->afh,replicate->afi,getElem?_eq_getElem->aga,size_replicate->agO,size_append->am8,ext'->amY
open Int renaming ofNat_eq_natCast->afK,ofNat->aks
open Go.Sem renaming run_bind->afS,run_pure->an1
open Go.Result renaming andThen_ok->agb
open Go.World renaming cell?->amo
open Decidable renaming decide->ans
/- A pure call, whole. -/
namespace Go.Vm
structure u6 (im:Im) (loc:Loc) (aE:cH) (w:World) (v:PV) (u7:cH) (I8:List Nat) (eA:Im) (bo:Loc) (w':World) (u:Value):Prop where
 gG:nZ im eA
 dS:mv loc bo
 vr:VR eA bo v u
 sr:SR eA bo u7 I8 w'
 os:w'.os=w.os
 tape:w'.tape=w.tape
 output:w'.output=w.output
 size:w.heap.size<=w'.heap.size
 frame: ∀b,b<w.heap.size->(∀t li k,loc t=an9 li->aE[t]? =an9 k->k.bL=anq->li.df≠b)->w'.heap[b]? =w.heap[b]?
 dX: ∀b o,eA b=an9 o->im b=an9 o\/w.heap.size<=b\/ ∃t li k,loc t=an9 li/\aE[t]? =an9 k/\k.bL=anq/\li.df=b
 nQ: ∀t li,bo t=an9 li->loc t=an9 li\/an4 aE<=t
 own: ∀t li k,bo t=an9 li->u7[t]? =an9 k->k.bL=anq->(w.heap.size<=li.df\/ ∃u lu ku,loc u=an9 lu/\aE[u]? =an9 ku/\ku.bL=anq/\lu.df=li.df)
def uo (P:Program) (f:FuncId) (us:Array Value) (w:World) (R:Value->World->Prop):Prop:=
 (∃v w',(callFunc f us).run P w= .ok (.value v) w'/\R v w')\/
 ((callFunc f us).run P w= .ok (.enter f us) w/\Calls P f us w fun e w'=> ∃v,e= .returned v/\R v w')
theorem uo.mono {P:Program} {f:FuncId} {us:Array Value} {w:World} {R R':Value->World->Prop} (h:uo P f us w R) (hr: ∀v w',R v w'->R' v w'):uo P f us w R':=by
 rcases h with ⟨v,w',h1,h2⟩|⟨h1,h2⟩
 · exact .inl ⟨v,w',h1,hr _ _ h2⟩
 exact .inr ⟨h1,h2.mono fun e w' ⟨v,he,hv⟩=>⟨v,he,hr _ _ hv⟩⟩
def CD (P : Program) (rec : Task -> Option Out) : Prop :=
  ∀ (f : FuncId) (args : List PV) (aE : cH) (fz : List Nat) (v : PV) (u7 : cH) (I8 : List Nat), rec (.func f args aE fz) = an9 (.func v u7 I8) ->
    ∀ (im : Im) (loc : Loc) (w : World) (us : List Value), SR im loc aE fz w -> eV im loc args us ->
      uo P f ⟨us⟩ w fun u w' => ∃ eA bo, u6 im loc aE w v u7 I8 eA bo w' u
def I9 (P : Program) (f : FuncId) (p : List PV -> Option (PV × cH)) : Prop :=
  ∀ (args : List PV) (v : PV) (news : cH), p args = an9 (v, news) -> ∀ (im : Im) (w : World) (us : List Value), SR im gf [] [] w -> eV im gf args us ->
    uo P f ⟨us⟩ w fun u w' => ∃ eA bo, u6 im gf [] w v news [] eA bo w' u
def Bk (P : Program) (f : FuncId) (p : List PV -> cH -> List Nat -> Option (PV × cH × List Nat)) : Prop :=
  ∃ fn c, P.funcs[f]? = an9 fn /\ (fn.name == "runtime.NumGoroutine") = anr /\ fn.body = an9 c /\
    ∀ (args : List PV) (aE : cH) (fz : List Nat) (v : PV) (u7 : cH) (I8 : List Nat), p args aE fz = an9 (v, u7, I8) ->
      ∀ (im : Im) (loc : Loc) (w : World) (us : List Value), SR im loc aE fz w -> eV im loc args us ->
        uo P f ⟨us⟩ w fun u w' => ∃ eA bo, u6 im loc aE w v u7 I8 eA bo w' u
def yT (P:Program) (F:mX):Prop:=(∀f k p,F f=an9 (.kf k p)->k=anr/\I9 P f p)/\ ∀f p,F f=an9 (.G6 p)->Bk P f p
section
variable {P : Program} {F : mX} {rec : Task -> Option Out} {im : Im} {loc : Loc} {aE : cH} {w : World}
theorem SR.empty (h: ∀b o,im b=an9 o->w.heap[b]? =an9 o):SR im gf [] [] w where
 bG:=h
 df:=fun t li h=>by cases h
 iK:=fun t u li lj k k' h=>by cases h
 free:=fun t li k h=>by cases h
theorem RM {r:nU} {v:PV} {u:Value} {og:cH} {G7:List Nat} {im0 Ei:Im} {dj:Loc} {w1:World} (hk:jo im loc aE w r) (hr:r.v=v) (hn:r.news=[]) (hw:r.wr=[]) (hno:v.kF=anq)
 (hp:u6 im0 gf [] w v og G7 Ei dj w1 u): ∃eA bo,VR eA bo r.v u/\tg im loc aE w r eA bo w1:=by
 refine ⟨im,loc,by rw [hr];exact K6 hno hp.vr,?_⟩
 have sx: ∀b,b<w.heap.size->w1.heap[b]? =w.heap[b]?:=fun b hb=>hp.frame b hb fun t li k h=>by cases h
 exact {
  gG:= .refl _,dS:= .refl _
  bG:=fun b o h=>by
   have h1:=hk.bG b o h;have dI:b<w.heap.size:=(NE.1 h1).1;rw [sx b dI];exact h1
  dX:=fun _ _ h=> .inl h
  os:=hp.os,tape:=hp.tape,output:=hp.output,size:=hp.size
  frame:=fun b hb _=>sx b hb
  Rx:=fun t k h=>by rw [hw] at h;cases h
  wr:=fun t k li h=>by rw [hw] at h;cases h
  k9:=fun _ _ h=> .inl h
  news:=fun j k li h=>by rw [hn] at h;simp at h
  distinct:=fun i j ki kj li lj h=>by rw [hn] at h;simp at h}
theorem TR {r:nU} {v v':PV} {u:Value} {og:cH} {G7 tk:List Nat} {Ei:Im} {dj:Loc} {w1:World} (hr:r.v=v') (hn:r.news=[]) (hw:r.wr=[]) (hf:r.fr=tk)
 (hp:u6 (grow im w (As loc aE tk)) gf [] w v og G7 Ei dj w1 u) (hi:yN og v=an9 v'): ∃eA bo,VR eA bo r.v u/\tg im loc aE w r eA bo w1:=by
 have sx: ∀b,b<w.heap.size->w1.heap[b]? =w.heap[b]?:=fun b hb=>hp.frame b hb fun t li k h=>by cases h
 let Ej:Im:=fun b=>match Ei b with
  |some o=>an9 o
  |none=>if (As dj og (jc s6 v)).contains b&&af6 w.heap.size b then w1.heap[b]? else anp
 have ly:nZ Ei Ej:=fun b o h=>by simp only [Ej,h]
 have Aj: ∀b o,Ej b=an9 o->w1.heap[b]? =an9 o:=by
  intro b o h;simp only [Ej] at h;split at h
  · rename_i o' ho;injection h with h;subst h;exact hp.sr.bG b _ ho
  split at h
  · exact h
  cases h
 have aoh: ∀t,t∈jc s6 v->Over Ei Ej dj og w1 t:=by
  intro t ht li hl;obtain ⟨k,gS,sy⟩:=hp.sr.df t li hl;refine ⟨k,gS,sy,fun hs=>?_⟩
  have WR:w.heap.size<=li.df:=by
   rcases hp.own t li k hl gS hs with h|⟨u,lu,ku,h,_⟩
   · exact h
   cases h
  simp only [Ej];split
  · rename_i o ho;exact (hp.sr.bG _ _ ho).symm
  rw [pp]
  simp only [ut,afo];exact ⟨by simpa using Au.2 ⟨t,li,k,ht,hl,gS,hs,rfl⟩,WR⟩
 refine ⟨Ej,loc,by rw [hr];exact TO ly aoh hp.vr hi,?_⟩
 exact {
  gG:=(I4 im w _).trans (hp.gG.trans ly),dS:= .refl _
  bG:=Aj
  dX:=fun b o h=>by
   simp only [Ej] at h;split at h
   · rename_i o' ho
     injection h with h;subst h;rcases hp.dX b _ ho with h1|h1|⟨t,li,k,h1,_⟩
     · rcases TM h1 with h2|h2
       · exact .inl h2
       obtain ⟨t,li,k,ht,hl,uX,hs,hb⟩:=Au.1 h2
       exact .inr (.inr ⟨t,li,k,by rw [hf];exact pO.2 ht,hl,uX,hs,hb⟩)
     · exact .inr (.inl h1)
     cases h1
   split at h
   · rename_i hc
     simp only [ut,afo] at hc;exact .inr (.inl hc.2)
   cases h
  os:=hp.os,tape:=hp.tape,output:=hp.output,size:=hp.size
  frame:=fun b hb _=>sx b hb
  Rx:=fun t k h=>by rw [hw] at h;cases h
  wr:=fun t k li h=>by rw [hw] at h;cases h
  k9:=fun _ _ h=> .inl h
  news:=fun j k li h=>by rw [hn] at h;simp at h
  distinct:=fun i j ki kj li lj h=>by rw [hn] at h;simp at h}
theorem PW {r:nU} {v v':PV} {u:Value} {og:cH} {G7 seen':List Nat} {im0 Ei:Im} {dj:Loc} {w1:World} {news:cH} (hk:jo im loc aE w r) (hr:r.v=v') (hn:r.news=news) (hw:r.wr=[])
 (hp:u6 im0 gf [] w v og G7 Ei dj w1 u) (hi:zG og G7 (an4 aE) [] v=an9 (v',news,seen')): ∃eA bo,VR eA bo r.v u/\tg im loc aE w r eA bo w1:=by
 have sx: ∀b,b<w.heap.size->w1.heap[b]? =w.heap[b]?:=fun b hb=>hp.frame b hb fun t li k h=>by cases h
 obtain ⟨K7,ts,h1,h2⟩:=TQ (fun t li hl=>hp.sr.df t li hl) hp.vr hi
 let qX:Loc:=fun t=>if t<(an4 aE) then loc t else match K7[t-(an4 aE)]? with
  |some li=>an9 li
  |none=>loc t
 have Bf: ∀(j:Nat) (li:LI),K7[j]? =an9 li->qX (an4 aE+j)=an9 li:=by
  intro j li hj;simp only [qX];rw [rc (by omega),show (an4 aE)+j-(an4 aE)=j by omega,hj]
 have ly:mv loc qX:=by
  intro t li hl;simp only [qX];split
  · exact hl
  rename_i dI
  split
  · rename_i l2 KS
    have hj:=(Do.1 KS).1
    have:=hk.fresh (t-(an4 aE)) (by rw [hn,<- h1.I6];exact hj)
    rw [show (an4 aE)+(t-(an4 aE))=t by omega,hl] at this
    cases this
  exact hl
 have hli: ∀(j:Nat) (k:jX),news[j]? =an9 k-> ∃li,K7[j]? =an9 li:=by
  intro j k hj
  have:=(Do.1 hj).1
  exact ⟨_,v6 (by rw [h1.I6];exact this)⟩
 have hts: ∀(j:Nat) (k:jX),news[j]? =an9 k->k.bL=anq-> ∃t,ts[j]? =an9 (an9 t):=by
  intro j k hj hs;have dI:=(Do.1 hj).1;cases hg:ts[j]? with
  |none=>have:=List.getElem?_eq_none_iff.1 hg;have:=h1.KK;omega
  |some x=>
   cases x with
   |some t=>exact ⟨t,rfl⟩
   |none=>rw [h1.dum j k hj hg] at hs;cases hs
 refine ⟨im,qX,by rw [hr];exact h2 im qX Bf,?_⟩
 exact {
  gG:= .refl _,dS:=ly
  bG:=fun b o h=>by
   have h1:=hk.bG b o h;have dI:b<w.heap.size:=(NE.1 h1).1;rw [sx b dI];exact h1
  dX:=fun _ _ h=> .inl h
  os:=hp.os,tape:=hp.tape,output:=hp.output,size:=hp.size
  frame:=fun b hb _=>sx b hb
  Rx:=fun t k h=>by rw [hw] at h;cases h
  wr:=fun t k li h=>by rw [hw] at h;cases h
  k9:=fun t li h=>by
   simp only [qX] at h;split at h
   · exact .inl h
   rename_i dI
   split at h
   · rename_i l2 KS
     have hj:=(Do.1 KS).1;exact .inr ⟨by omega,by rw [hn,<- h1.I6];omega⟩
   exact .inl h
  news:=Cu fun j k hj=>by
   rw [hn] at hj;obtain ⟨li,hl⟩:=hli j k hj;obtain ⟨⟨e,rows,rfl⟩,sy⟩:=h1.br j k li hj hl;refine ⟨li,Bf j li hl,sy,fun hs=>?_⟩
   obtain ⟨t,ht⟩:=hts j _ hj hs;obtain ⟨a1,a2,a3,_,_⟩:=h1.own j _ li t hj hl ht;have WR:w.heap.size<=li.df:=by
    rcases hp.own t li _ a1 a2 hs with h|⟨u,lu,ku,h,_⟩
    · exact h
    cases h
   refine ⟨?_,.inl WR⟩;cases hb:im li.df with
   |none=>rfl
   |some o=>
    have:=(NE.1 (hk.bG _ _ hb)).1
    omega
  distinct:=fun i j ki kj li lj uq hj' Xj RN asX asY Tn=>by
   rw [hn] at uq hj';obtain ⟨l1,HE⟩:=hli i ki uq;obtain ⟨l2,KS⟩:=hli j kj hj';have e1:=Bf i l1 HE;have e2:=Bf j l2 KS;rw [asX] at e1;rw [asY] at e2;injection e1 with e1;injection e2 with e2;subst e1 e2;obtain ⟨t1,ht1⟩:=hts i ki uq Xj;obtain ⟨t2,ht2⟩:=hts j kj hj' RN;obtain ⟨a1,a2,_⟩:=h1.own i ki li t1 uq HE ht1;obtain ⟨b1,b2,_⟩:=h1.own j kj lj t2 hj' KS ht2
   have:=hp.sr.iK t1 t2 li lj ki kj a1 b1 a2 b2 Xj RN Tn
   subst this;exact h1.inj i j t1 ht1 ht2}
theorem Av {own:Bool} {f:FuncId} {np:List PV} {tk:List Nat} {r:nU}
 (h:(match rec (.func f np [] []) with
  |some (.func v s1 z1)=>
   if own then match zG s1 z1 (an4 aE) [] v with
    |some (v',n2,_)=>an9 {v:=v',news:=n2,rd:=tk}
    |none=>anp
   else if v.kF then an9 {v,rd:=tk}
   else match yN s1 v with
    |some v'=>an9 {v:=v',rd:=tk,fr:=tk}
    |none=>anp
  |_=>anp)=an9 r):r.rd=tk:=by
 split at h
 · split at h
   · split at h
     · injection h with h;subst h;rfl
     cases h
   split at h
   · injection h with h;subst h;rfl
   split at h
   · injection h with h;subst h;rfl
   cases h
 cases h
theorem xR (EW:CD P rec) {own:Bool} {f:FuncId} {np:List PV} {tk:List Nat} {r:nU} {us:List Value}
 (h:(match rec (.func f np [] []) with
  |some (.func v s1 z1)=>
   if own then match zG s1 z1 (an4 aE) [] v with
    |some (v',n2,_)=>an9 {v:=v',news:=n2,rd:=tk}
    |none=>anp
   else if v.kF then an9 {v,rd:=tk}
   else match yN s1 v with
    |some v'=>an9 {v:=v',rd:=tk,fr:=tk}
    |none=>anp
  |_=>anp)=an9 r) (ha:eV (grow im w (As loc aE tk)) gf np us) (hk:jo im loc aE w r):
 uo P f ⟨us⟩ w fun u w'=> ∃eA bo,VR eA bo r.v u/\tg im loc aE w r eA bo w':=by
 cases hr:rec (.func f np [] []) with
 |none=>rw [hr] at h;cases h
 |some o=>
  rw [hr] at h;cases o with
  |code e st=>cases h
  |func v s1 z1=>
   dsimp only at h;refine (EW f np [] [] v s1 z1 hr _ gf w us (SR.empty (PR hk.bG)) ha).mono fun u w' hq=>?_
   obtain ⟨Ei,dj,hp⟩:=hq;split at h
   · cases hio:zG s1 z1 (an4 aE) [] v with
     |none=>rw [hio] at h;cases h
     |some q2=>
      obtain ⟨v',n2,s2⟩:=q2;rw [hio] at h;simp only [ww] at h;subst h;exact PW hk rfl rfl rfl hp hio
   split at h
   · rename_i hno
     simp only [ww] at h;subst h;exact RM hk rfl rfl rfl hno hp
   cases hif:yN s1 v with
   |none=>rw [hif] at h;cases h
   |some v'=>
    rw [hif] at h;simp only [ww] at h;subst h;exact TR rfl rfl rfl rfl hp hif
theorem I' (EW:CD P rec) (Bl:yT P F) {own:Bool} {f:FuncId} {args:List PV} {fz:List Nat} {r:nU} {us:List Value}
 (h:dw F rec own f args aE fz=an9 r) (ha:eV im loc args us) (hk:jo im loc aE w r):
 uo P f ⟨us⟩ w fun u w'=> ∃eA bo,VR eA bo r.v u/\tg im loc aE w r eA bo w':=by
 have as0: ∀(rd:List Nat),(∀b o,im b=an9 o->w.heap[b]? =an9 o)-> ∀b o,grow im w (As loc aE rd) b=an9 o->w.heap[b]? =an9 o:=fun rd h=>PR h
 have NO: ∀(np:List PV),Cp aE (xD aE deep) args=an9 np->(∀t,t∈dD (di aE deep) args-> ∀li,loc t=an9 li-> ∃k,aE[t]? =an9 k/\BR im loc w li k)->(∀b o,im b=an9 o->w.heap[b]? =an9 o)->
  eV (grow im w (As loc aE (dD (di aE deep) args))) gf np us:=by
  intro np hx as1 Aj;refine xQ (w:=w) (I4 _ _ _) (fun t=>PS (I4 _ _ _) deep t) (fun t ht li hl=>?_) ha hx
  obtain ⟨k,gS,sy⟩:=as1 t ht li hl;exact ⟨k,gS,sy,fun hs=>Xh Aj (Au.2 ⟨t,li,k,ht,hl,gS,hs,rfl⟩)⟩
 unfold dw at h;cases hx:Cp aE (xD aE deep) args with
 |none=>rw [hx] at h;cases h
 |some np=>
  rw [hx] at h;dsimp only at h;cases hF:F f with
  |none=>
   rw [hF] at h;dsimp only at h;have Hc:r.rd=dD (di aE deep) args:=Av h;exact xR EW h (NO np hx (fun t ht=>hk.tok t (.inl (by rw [Hc];exact ht))) hk.bG) hk
  |some en=>
   rw [hF] at h;cases en with
   |kf PF p=>
    dsimp only at h;obtain ⟨rfl,hpo⟩:=Bl.1 f PF p hF;cases TS:p np with
    |none=>rw [TS] at h;cases h
    |some q=>
     obtain ⟨v,news⟩:=q;rw [TS] at h;dsimp only at h;cases hio:zG news [] (an4 aE) [] v with
     |none=>rw [hio] at h;cases h
     |some q2=>
      obtain ⟨v',n2,s2⟩:=q2;rw [hio] at h;simp only [PP,if_false,ww] at h;subst h;refine (hpo np v news TS _ w us (SR.empty (as0 _ hk.bG)) (NO np hx (fun t ht=>hk.tok t (.inl ht)) hk.bG)).mono fun u w' hq=>?_
      obtain ⟨Ei,dj,hp⟩:=hq;exact PW hk rfl rfl rfl hp hio
   |code x=>
    dsimp only at h;have Hc:r.rd=dD (di aE deep) args:=Av h;exact xR EW h (NO np hx (fun t ht=>hk.tok t (.inl (by rw [Hc];exact ht))) hk.bG) hk
   |G6 x=>
    dsimp only at h;have Hc:r.rd=dD (di aE deep) args:=Av h;exact xR EW h (NO np hx (fun t ht=>hk.tok t (.inl (by rw [Hc];exact ht))) hk.bG) hk
end
end Go.Vm
/- A call that works on the blocks that its arguments lead to, numbered anew: what it does to the memory. -/
namespace Go.Vm
theorem gH {α:Type} {l:List α} {i:Nat} {x:α} (h:l[i]? =an9 x):i<(an4 l):=(Do.1 h).1
theorem CE: ∀{l:List Nat} {t:Nat},t∈oZ l↔t∈l
 | [],t=>by simp [oZ]
 |a::r,t=>by
  rw [oZ];split
  · rename_i h
    rw [CE]
    have:=pO.1 h
    constructor
    · exact fun h=>by simp [h]
    intro h
    rcases afE.1 h with h|h
    · subst h;exact this
    exact h
  simp [CE]
theorem tp: ∀{l:List Nat},(oZ l).Nodup
 | []=>by simp [oZ]
 |a::r=>by
  rw [oZ];split
  · exact tp
  rename_i h
  rw [List.nodup_cons];exact ⟨fun hm=>h (pO.2 (CE.1 hm)),tp⟩
theorem E2: ∀{a b:cH},vI a b=anq-> ∀(i:Nat) (x:jX),a[i]? =an9 x-> ∃y,b[i]? =an9 y/\x.bL=y.bL
 | [],_,_,i,x,h=>by simp at h
 |c::r,d::q,hf,i,x,h=>by
  simp only [vI,ut] at hf;cases i with
  |zero=>
   simp at h;subst h;refine ⟨d,rfl,?_⟩
   have:=hf.1
   split at this<;>first|(rename_i h1 h2;rw [h1,h2])|cases this
  |succ i=>simpa using E2 hf.2 i x (by simpa using h)
 |_::_,[],hf,_,_,_=>by cases hf
theorem E3 {g:Nat->Nat}: ∀{tk:List Nat} {s:cH} {t:Nat} {k:jX},(t,k)∈o6 g tk s↔ ∃(i:Nat) (b:jX),tk[i]? =an9 t/\s[i]? =an9 b/\k=zI g b
 | [],s,t,k=>by simp [o6]
 |a::r,[],t,k=>by simp [o6]
 |a::r,b::s,t,k=>by
  simp only [o6,afE,IR,E3];constructor
  · rintro (⟨rfl,rfl⟩|⟨i,c,h1,h2,h3⟩)
    · exact ⟨0,b,rfl,rfl,rfl⟩
    exact ⟨i+1,c,by simpa using h1,by simpa using h2,h3⟩
  rintro ⟨i,c,h1,h2,h3⟩
  cases i with
  |zero=>simp at h1 h2;subst h1;subst h2;exact .inl ⟨rfl,h3⟩
  |succ i=>exact .inr ⟨i,c,by simpa using h1,by simpa using h2,h3⟩
theorem HH {g:Nat->Nat}: ∀(s:cH) (i:Nat),(Ba g s)[i]? =(s[i]?).map (zI g)
 | [],i=>by simp [Ba]
 |b::r,0=>by simp [Ba]
 |b::r,i+1=>by simpa [Ba] using HH r i
theorem Bm {g:Nat->Nat}: ∀(s:cH),(Ba g s).length=an4 s
 | []=>rfl
 |b::r=>by simp [Ba,Bm r]
section
variable {P : Program} {F : mX} {rec : Task -> Option Out} {im : Im} {loc : Loc} {aE : cH} {w : World} {tk : List Nat} {g : Nat -> Nat} {l1 l2 : Loc}
mutual
theorem VR.zK: ∀{x:PV} {v:Value},VR im l1 x v->(∀u,u∈jc s6 x-> ∀li,l1 u=an9 li->l2 (g u)=an9 li)->VR im l2 (Cq g x) v
 |_,_,.undef v,_=> .undef v
 |_,_,.jB,_=> .jB
 |_,_,.int k n,_=> .int k n
 |_,_,.bool b,_=> .bool b
 |_,_,.str s,_=> .str s
 |_,_,.agg cs vs h,hg=> .agg _ vs (eV.zK h (fun u hu=>hg u (by simpa [jc] using hu)))
 |_,_,.cq cs vs h,hg=> .cq _ vs (eV.zK h (fun u hu=>hg u (by simpa [jc] using hu)))
 |_,_,.sl esz qS rows a cap hc hk h,_=> .sl esz qS rows a cap hc hk h
 |_,_,.own t esz off len cap ex li a cV h1 h2 h3 h4 h5 h6 h7,hg=> .own _ esz off len cap ex li a cV (hg _ (by simp [jc]) _ h1) h2 h3 h4 h5 h6 h7
 |_,_,.ptr t esz row off li h1 h2 h3,hg=> .ptr _ esz row off li (hg _ (by simp [jc]) _ h1) h2 h3
 |_,_,.bH cs off b o vs h hv,hg=> .bH _ off b o vs (eV.zK h (fun u hu=>hg u (by simpa [jc] using hu))) hv
 |_,_,.mp t li h,hg=> .mp _ li (hg _ (by simp [jc]) _ h)
 |_,_,.eI fn a b as bs ha hb,hg=> .eI fn _ _ as bs (eV.zK ha (fun u hu=>hg u (by simp [jc,hu]))) (eV.zK hb (fun u hu=>hg u (by simp [jc,hu])))
 |_,_,.dR,_=> .dR
theorem eV.zK: ∀{x:List PV} {v:List Value},eV im l1 x v->(∀u,u∈dD s6 x-> ∀li,l1 u=an9 li->l2 (g u)=an9 li)->eV im l2 (xd g x) v
 |_,_,.nil,_=> .nil
 |_,_,.cons x v xs vs h hs,hg=> .cons _ v _ vs (VR.zK h (fun u hu=>hg u (by simp [dD,hu]))) (eV.zK hs (fun u hu=>hg u (by simp [dD,hu])))
end
theorem VR.Cq {x:PV} {v:Value} (hg: ∀u,u∈jc s6 x-> ∀li,l1 u=an9 li->l2 (g u)=an9 li) (h:VR im l1 x v):VR im l2 (Vm.Cq g x) v:=h.zK hg
theorem eV.Cq {x:List PV} {v:List Value} (hg: ∀u,u∈dD s6 x-> ∀li,l1 u=an9 li->l2 (g u)=an9 li) (h:eV im l1 x v):eV im l2 (xd g x) v:=h.zK hg
theorem Bn: ∀(x:List PV),(xd g x).length=an4 x
 | []=>rfl
 |x::xs=>by simp [xd,Bn xs]
theorem BR.Cq {li:LI} {k:jX} (hg: ∀u,u∈ry k-> ∀li,l1 u=an9 li->l2 (g u)=an9 li) (h:BR im l1 w li k):BR im l2 w li (zI g k):=by
 cases k with
 |arr e rows=>exact h
 |box cs=>
  obtain ⟨a1,a2,a3,vs,el,a4,a5,a6⟩:=h;exact ⟨by rw [Bn];exact a1,a2,a3,vs,el,a4,a5,a6.Cq hg⟩
 |map es=>exact h
 |dead=>trivial
theorem xS (k:jX):(zI g k).bL=k.bL:=by cases k<;>rfl
theorem NT (EW:CD P rec) {f:FuncId} {args:List PV} {fz:List Nat} {r:nU} {us:List Value}
 (h:ua rec f args aE fz=an9 r) (ha:eV im loc args us) (hk:jo im loc aE w r):
 uo P f ⟨us⟩ w fun u w'=> ∃eA bo,VR eA bo r.v u/\tg im loc aE w r eA bo w':=by
 unfold ua at h;have G8:(oZ (dD (di aE deep) args)).Nodup:=tp;generalize CB:oZ (dD (di aE deep) args)=tk at h G8;split at h
 · cases h
 rename_i a s0 E4;unfold W4 at E4;split at E4
 case isFalse=>cases E4
 rename_i as2;simp only [af7,UV] at as2;split at E4
 case h_2=>cases E4
 rename_i a' s0' hra Xa;simp only [ww,IR] at E4;obtain ⟨rfl,rfl⟩:=E4;split at h
 case h_2=>cases h
 rename_i v s hr;unfold EI at h;split at h
 case isFalse=>cases h
 rename_i TU;injection h with h;obtain ⟨Ky,D1⟩:=Cr Xa;have hf0:=E2 TU;have ly:(an4 tk)<=(an4 s):=by
  rcases Nat.eq_zero_or_pos (an4 tk) with h0|h0
  · omega
  obtain ⟨y,hy,_⟩:=hf0 (an4 tk-1) (s0'[an4 tk-1]'(by omega)) (v6 _)
  have:=gH hy;omega
 let NU:Loc:=fun u=>match tk[u]? with|some t=>loc t|none=>anp
 have E5:Ren tk loc NU:=fun u t hu=>by simp only [NU,hu]
 have hC: ∀u li,NU u=an9 li-> ∃t,tk[u]? =an9 t/\loc t=an9 li:=by
  intro u li hl;simp only [NU] at hl;split at hl
  · rename_i t ht;exact ⟨t,ht,hl⟩
  cases hl
 have TV: ∀t k,(t,k)∈r.wr↔ ∃(i:Nat) (b:jX),tk[i]? =an9 t/\s[i]? =an9 b/\k=zI (kg tk (an4 aE)) b:=fun t k=>by rw [<- h];exact E3
 have agk: ∀u t,tk[u]? =an9 t->(t∈r.rd\/ ∃b,(t,b)∈r.wr):=fun u t ht=>by
  have:=gH ht
  exact .inr ⟨_,(TV t _).2 ⟨u,_,ht,v6 (by omega),rfl⟩⟩
 have uj: ∀(u t:Nat) (k:jX),tk[u]? =an9 t->s0'[u]? =an9 k-> ∃k0:jX,aE[t]? =an9 k0/\k.bL=k0.bL:=fun u t k ht hs=>by
  obtain ⟨k0,k',g1,g2,g3⟩:=D1 u t ht;rw [hs] at g3;injection g3 with g3;subst g3;exact ⟨k0,g1,Bc g2⟩
 have hSR:SR im NU s0' [] w:={
  bG:=hk.bG
  df:=fun u li hl=>by
   obtain ⟨t,h1,h2⟩:=hC u li hl;obtain ⟨k,gS,sy⟩:=hk.tok t (agk u t h1) li h2;obtain ⟨k0,k',g1,g2,g3⟩:=D1 u t h1;rw [gS] at g1;injection g1 with g1;subst g1;exact ⟨k',g3,HC E5 g2 sy⟩
  iK:=fun t u li lj k k' hl mA hs uY D2 as4 hb=>by
   obtain ⟨a1,h1,h2⟩:=hC t li hl;obtain ⟨a2,h3,h4⟩:=hC u lj mA;obtain ⟨k0,g1,g2⟩:=uj t a1 k h1 hs;obtain ⟨k0',g1',g2'⟩:=uj u a2 k' h3 uY
   have:=hk.iK a1 a2 li lj k0 k0' (agk t a1 h1) (agk u a2 h3) h2 h4 g1 g1' (by rw [<- g2];exact D2) (by rw [<- g2'];exact as4) hb
   subst this;have pw:=afV.1 G8;obtain ⟨l1,e1⟩:=Do.1 h1;obtain ⟨l2,e2⟩:=Do.1 h3;rcases acl t u with h|h|h
   · exact absurd (e1.trans e2.symm) (pw t u l1 l2 h)
   · exact h
   exact absurd (e2.trans e1.symm) (pw u t l2 l1 h)
  free:=fun t li k hl hs D2 _=>by
   obtain ⟨a1,h1,h2⟩:=hC t li hl;obtain ⟨k0,g1,g2⟩:=uj t a1 k h1 hs;have dI:=gH h1;exact hk.free a1 _ ((TV a1 _).2 ⟨t,_,h1,v6 (by omega),rfl⟩) li k0 h2 g1 (by rw [<- g2];exact D2)}
 refine (EW f a' s0' [] v s [] hr im NU w us hSR (tf E5 ha hra)).mono fun u w' ⟨eA,K8,hf⟩=>?_
 let bo:Loc:=fun t=>match loc t with
  |some li=>an9 li
  |none=>if (an4 aE)<=t/\t-(an4 aE)<(an4 r.news) then K8 (t-(an4 aE)+an4 tk) else anp
 have aon:mv loc bo:=fun t li hl=>by simp only [bo,hl]
 have He:(ig (an4 tk) v s=anq/\r.news=[])\/(ig (an4 tk) v s=anr/\r.news=Ba (kg tk (an4 aE)) (s.drop (an4 tk))):=by
  rw [<- h];cases RI:ig (an4 tk) v s with
  |true=>exact .inl ⟨rfl,by simp⟩
  |false=>exact .inr ⟨rfl,by simp⟩
 have aoo:ig (an4 tk) v s=anr->an4 r.news=an4 s-(an4 tk):=fun h1=>by
  rcases He with ⟨h2,_⟩|⟨_,h2⟩
  · rw [h1] at h2;cases h2
  rw [h2];simp [Bm]
 have as5: ∀u li,K8 u=an9 li->u<(an4 s):=fun u li hl=>let ⟨k,gS,_⟩:=hf.sr.df u li hl;gH gS
 have TW: ∀j li,bo (an4 aE+j)=an9 li->j<an4 r.news->K8 (an4 tk+j)=an9 li:=fun j li hl hj=>by
  simp only [bo,hk.fresh j hj] at hl;rw [pp ⟨by omega,by omega⟩] at hl
  rw [show (an4 aE)+j-(an4 aE)+an4 tk=an4 tk+j by omega] at hl
  exact hl
 have hg: ∀u,(u<an4 tk\/ig (an4 tk) v s=anr)-> ∀li,K8 u=an9 li->bo (kg tk (an4 aE) u)=an9 li:=by
  intro u Xk li hl;unfold kg;split
  · rename_i t ht
    rcases hf.nQ u li hl with h1|h1
    · obtain ⟨t',h2,h3⟩:=hC u li h1
      rw [ht] at h2;injection h2 with h2;subst h2;exact aon _ _ h3
    have:=gH ht;omega
  rename_i hn
  have hu:(an4 tk)<=u:=by simpa using hn
  rcases Xk with Xk|Xk
  · omega
  have dI:=as5 u li hl;have He:=aoo Xk;simp only [bo,hk.fresh (u-(an4 tk)) (by omega)]
  rw [pp ⟨by omega,by omega⟩,show (an4 aE)+(u-(an4 tk)) -(an4 aE)+an4 tk=u by omega]
  exact hl
 have RI: ∀u,ig (an4 tk) v s=anq->(u∈jc s6 v\/ ∃i b,i<an4 tk/\s[i]? =an9 b/\u∈ry b)->u<(an4 tk):=fun u h1 h2=>by
  unfold ig at h1;have h3:=af7.1 h1 u (by
   rcases h2 with h2|⟨i,b,g1,g2,g3⟩
   · simp [h2]
   refine af2.2 (.inr (List.mem_flatMap.2 ⟨b,?_,g3⟩))
   exact List.mem_of_getElem? (i:=i) (by rw [List.getElem?_take];simp [g1,g2]))
  simpa using h3
 have hgv: ∀u,u∈jc s6 v-> ∀li,K8 u=an9 li->bo (kg tk (an4 aE) u)=an9 li:=fun u hu=>hg u (by
  cases hq:ig (an4 tk) v s with
  |true=>exact .inl (RI u hq (.inl hu))
  |false=>exact .inr rfl)
 have hgb: ∀i b,i<an4 tk->s[i]? =an9 b-> ∀u,u∈ry b-> ∀li,K8 u=an9 li->bo (kg tk (an4 aE) u)=an9 li:=fun i b hi hb u hu=>hg u (by
  cases hq:ig (an4 tk) v s with
  |true=>exact .inl (RI u hq (.inr ⟨i,b,hi,hb,hu⟩))
  |false=>exact .inr rfl)
 have hMC: ∀u t li,tk[u]? =an9 t->loc t=an9 li->K8 u=an9 li:=fun u t li ht hl=>hf.dS u li (by simp only [NU,ht];exact hl)
 refine ⟨eA,bo,by rw [<- h];exact hf.vr.Cq hgv,?_⟩
 have TX: ∀(j:Nat) (k:jX),r.news[j]? =an9 k-> ∃b,s[an4 tk+j]? =an9 b/\k=zI (kg tk (an4 aE)) b:=fun j k hj=>by
  rcases He with ⟨_,h0⟩|⟨_,h0⟩
  · rw [h0] at hj;simp at hj
  rw [h0] at hj;simp only [HH,List.getElem?_drop,F0s] at hj;obtain ⟨b,h1,h2⟩:=hj;exact ⟨b,h1,h2.symm⟩
 have Xl: ∀t li,K8 t=an9 li->an4 tk<=t-> ∀k,s[t]? =an9 k->k.bL=anq->w.heap.size<=li.df:=by
  intro t li hl ht k hs D2;rcases hf.own t li k hl hs D2 with h1|⟨u,lu,ku,h1,h2,h3,h4⟩
  · exact h1
  exfalso
  obtain ⟨a1,g1,g2⟩:=hC u lu h1;obtain ⟨y,y1,y2⟩:=hf0 u ku h2
  have:=hf.sr.iK u t lu li y k (hMC u a1 lu g1 g2) hl y1 hs (by rw [<- y2];exact h3) D2 h4
  subst this
  have:=gH g1;omega
 exact {
  gG:=hf.gG,dS:=aon
  bG:=hf.sr.bG
  dX:=fun b o hb=>by
   rcases hf.dX b o hb with h1|h1|⟨t,li,k,h1,h2,h3,h4⟩
   · exact .inl h1
   · exact .inr (.inl h1)
   exfalso
   obtain ⟨a1,g1,g2⟩:=hC t li h1;obtain ⟨y,y1,y2⟩:=hf0 t k h2
   have:=hf.sr.free t li y (hMC t a1 li g1 g2) y1 (by rw [<- y2];exact h3) rfl
   rw [h4,hb] at this;cases this
  os:=hf.os,tape:=hf.tape,output:=hf.output,size:=hf.size
  frame:=fun b hb hh=>hf.frame b hb fun t li k hl hs D2=>by
   obtain ⟨a1,g1,g2⟩:=hC t li hl;obtain ⟨k0,e1,e2⟩:=uj t a1 k g1 hs;have dI:=gH g1;exact hh a1 _ li k0 ((TV a1 _).2 ⟨t,_,g1,v6 (by omega),rfl⟩) g2 e1 (by rw [<- e2];exact D2)
  Rx:=fun t k hm D2=>by
   obtain ⟨i,b,g1,g2,rfl⟩:=(TV t k).1 hm;rw [xS] at D2;have dI:=gH g1;have e:=v6 (l:=s0') (i:=i) (by omega)
   obtain ⟨y,y1,y2⟩:=hf0 i _ e;rw [g2] at y1;injection y1 with y1;subst y1;obtain ⟨k0,e1,e2⟩:=uj i t _ g1 e;exact ⟨k0,e1,by rw [<- e2,y2];exact D2⟩
  wr:=fun t k li hm hl=>by
   obtain ⟨i,b,g1,g2,rfl⟩:=(TV t k).1 hm;obtain ⟨k',gS,sy⟩:=hf.sr.df i li (hMC i t li g1 hl);rw [g2] at gS;injection gS with gS;subst gS;exact sy.Cq (hgb i b (gH g1) g2)
  k9:=fun t li hl=>by
   simp only [bo] at hl;cases Ky:loc t with
   |some lj=>rw [Ky] at hl;exact .inl hl
   |none=>
    rw [Ky] at hl;dsimp only at hl;split at hl
    · rename_i hn
      exact .inr ⟨hn.1,by omega⟩
    cases hl
  news:=fun j k li hj hl=>by
   have NL:j<(an4 r.news):=gH hj;obtain ⟨b,hb,rfl⟩:=TX j k hj;have Ky:=TW j li hl NL;obtain ⟨k',gS,sy⟩:=hf.sr.df _ li Ky;rw [hb] at gS;injection gS with gS;subst gS;have hq:ig (an4 tk) v s=anr:=by
    rcases He with ⟨_,h0⟩|⟨h0,_⟩
    · rw [h0] at NL;simp at NL
    exact h0
   refine ⟨sy.Cq (fun u _=>hg u (.inr hq)),fun D2=>?_⟩
   rw [xS] at D2;exact ⟨hf.sr.free _ li b Ky hb D2 rfl,.inl (Xl _ li Ky (by omega) b hb D2)⟩
  distinct:=fun i j ki kj li lj hi hj Xj RN hli hlj hb=>by
   obtain ⟨b1,e1,rfl⟩:=TX i ki hi;obtain ⟨b2,e2,rfl⟩:=TX j kj hj;rw [xS] at Xj RN;have h1:=TW i li hli (gH hi);have h2:=TW j lj hlj (gH hj)
   have:=hf.sr.iK _ _ li lj b1 b2 h1 h2 e1 e2 Xj RN hb
   omega}
end
end Go.Vm
/- A region's run in the order of the text, step by step; what a block holds when an9 of its operations are done. -/
namespace Go.Vm
structure xT (F:mX) (rec:Task->Option Out) (ops:List bU) (S:Nat->St) (X:Nat->Option XR):Prop where
 steps: ∀(i:Nat) (o:bU),ops[i]? =an9 o->
  (wanted o.guard (S i).env=an9 anq/\ ∃x,xe F rec (S i).env (S i).aE (S i).fz o.op=an9 x/\x.ok (S i).fz=anq/\X i=an9 x/\S (i+1)=x.next o.dst (S i))\/
  (wanted o.guard (S i).env=an9 anr/\X i=anp/\S (i+1)={S i with env:=iJ o.dst .jB (S i).env})
def zC (x:Option XR) (s:St):Tr:=
 match x with
 |some x=>x.tr (an4 s.aE)
 |none=>Tr.idle
def zL (S:Nat->St) (X:Nat->Option XR) (n:Nat):List Tr:=(List.range n).map fun i=>zC (X i) (S i)
theorem NV (S:Nat->St) (X:Nat->Option XR) (n:Nat):zL S X (n+1)=zC (X 0) (S 0)::zL (fun i=>S (i+1)) (fun i=>X (i+1)) n:=by
 unfold zL;rw [List.range_succ_eq_map];simp [List.map_map,Function.comp_def]
theorem CF {F:mX} {rec:Task->Option Out}: ∀(ops:List bU) (st:St) (tr:List Tr) (kO:St) (RO:List Tr),mB F rec ops st tr=an9 (kO,RO)->
 ∃S X,S 0=st/\S (an4 ops)=kO/\xT F rec ops S X/\RO=(zL S X (an4 ops)).reverse++tr
 | [],st,tr,kO,RO,h=>by
  simp only [mB,ww,IR] at h;obtain ⟨rfl,rfl⟩:=h;exact ⟨fun _=>st,fun _=>anp,rfl,rfl,⟨fun i o h=>by simp at h⟩,by simp [zL]⟩
 |o::l,st,tr,kO,RO,h=>by
  simp only [mB] at h;have mk: ∀(s1:St) (x:Option XR) (t1:Tr),zC x st=t1->mB F rec l s1 (t1::tr)=an9 (kO,RO)->
   ((wanted o.guard st.env=an9 anq/\ ∃y,xe F rec st.env st.aE st.fz o.op=an9 y/\y.ok st.fz=anq/\x=an9 y/\s1=y.next o.dst st)\/
    (wanted o.guard st.env=an9 anr/\x=anp/\s1={st with env:=iJ o.dst .jB st.env}))->
   ∃S X,S 0=st/\S (o::l).length=kO/\xT F rec (o::l) S X/\RO=(zL S X (o::l).length).reverse++tr:=by
   intro s1 x t1 ht he hs;obtain ⟨S,X,h0,hn,cu,htr⟩:=CF l s1 (t1::tr) kO RO he;refine ⟨fun i=>match i with|0=>st|i+1=>S i,fun i=>match i with|0=>x|i+1=>X i,rfl,hn,⟨fun i o' ho=>?_⟩,?_⟩
   · cases i with
     |zero=>
      simp at ho;subst ho;rcases hs with ⟨a,y,b,c,d,e⟩|⟨a,b,c⟩
      · exact .inl ⟨a,y,b,c,d,by rw [<- e];exact h0⟩
      exact .inr ⟨a,b,by rw [<- c];exact h0⟩
     |succ i=>exact cu.steps i o' (by simpa using ho)
   rw [List.length_cons,NV,htr]
   simp [ht]
  cases hw:wanted o.guard st.env with
  |none=>rw [hw] at h;cases h
  |some b=>
   rw [hw] at h;cases b with
   |false=>exact mk _ anp _ rfl h (.inr ⟨hw,rfl,rfl⟩)
   |true=>
    dsimp only at h;cases hx:xe F rec st.env st.aE st.fz o.op with
    |none=>rw [hx] at h;cases h
    |some x=>
     rw [hx] at h;dsimp only at h;split at h
     · rename_i Aj
       exact mk _ (an9 x) _ rfl h (.inl ⟨hw,x,hx,Aj,rfl,rfl⟩)
     cases h
theorem fI: ∀(wr:List (Nat×jX)) (s:cH),(gj wr s).length=an4 s
 | [],s=>rfl
 |(t,b)::r,s=>by rw [gj,fI r];simp
theorem ur: ∀(wr:List (Nat×jX)) (s:cH) (t:Nat),(∀k,(t,k)∉wr)->(gj wr s)[t]? =s[t]?
 | [],s,t,_=>rfl
 |(u,b)::r,s,t,h=>by
  rw [gj,ur r _ t (fun k hk=>h k (by simp [hk]))]
  have:u≠t:=fun e=>h b (by rw [e];simp)
  rw [agJ this]
theorem E6: ∀(wr:List (Nat×jX)) (s:cH),vJ wr=anq-> ∀{t:Nat} {k:jX},(t,k)∈wr->t<an4 s->(gj wr s)[t]? =an9 k
 |(u,b)::r,s,hn,t,k,hm,dI=>by
  simp only [vJ,ut,af7,UV] at hn;rw [gj];rcases afE.1 hm with h|h
  · injection h with h1 h2
    subst h1 h2;rw [ur r _ t fun k' hk=>by simpa using hn.1 (t,k') hk]
    simp [dI]
  exact E6 r _ hn.2 h (by simpa using dI)
section
variable {F : mX} {rec : Task -> Option Out} {ops : List bU} {S : Nat -> St} {X : Nat -> Option XR}
def W (X:Nat->Option XR) (i t:Nat):Prop:=
 match X i with
 |some (.loc r)=> ∃k,(t,k)∈r.wr
 |some (.shr ..)=>True
 |none=>False
def FR (X:Nat->Option XR) (i t:Nat):Prop:=
 match X i with
 |some (.loc r)=>t∈r.fr
 |some (.shr _ _ z)=>t∈z
 |none=>False
def Bo (S:Nat->St) (X:Nat->Option XR) (n:Nat) (done:Nat->Prop) (t:Nat) (k:jX):Prop:=
 ∃m,m<=n/\(∀i,i<n->W X i t->(done i↔i<m))/\(∀c,c<n->(S c).aE.length<=t->t<(S (c+1)).aE.length->c<m)/\(S m).aE[t]? =an9 k
theorem PX {e:Env} {aE:cH} {fz:List Nat} {op:k7} {v:PV} {s:cH} {z:List Nat} (h:xe F rec e aE fz op=an9 (.shr v s z)):(an4 aE)<=an4 s/\ ∀t,t∈fz->t∈z:=by
 have key: ∀{f:FuncId} {args:List PV},fV rec f args aE fz=an9 (.shr v s z)->an4 aE<=an4 s/\ ∀t,t∈fz->t∈z:=by
  intro f args h;unfold fV at h;split at h
  · split at h
    · rename_i hc
      simp only [ut,afo,af7] at hc;simp only [ww,XR.shr.injEq] at h;obtain ⟨rfl,rfl,rfl⟩:=h;exact ⟨hc.1,fun t ht=>pO.1 (hc.2 t ht)⟩
    cases h
  cases h
 cases op with
 |call m f args=>
  cases m with
  |WN=>simp [xe] at h
  |own=>simp [xe] at h
  |shr=>exact key h
  |fp=>simp [xe] at h
 |xb x args=>
  simp only [xe] at h;split at h
  · split at h
    · exact key h
    simp at h
  cases h
 |_=>simp [xe] at h
theorem xT.agl (hr:xT F rec ops S X) {i:Nat} (hi:i<an4 ops):(S i).aE.length<=(S (i+1)).aE.length:=by
 rcases hr.steps i _ (v6 hi) with ⟨_,x,hx,_,_,hn⟩|⟨_,_,hn⟩
 · rw [hn]
   cases x with
   |loc r=>simp [XR.next,rB,fI]
   |shr v s z=>exact (PX hx).1
 rw [hn];exact If _
theorem xT.ik (hr : xT F rec ops S X) {i j : Nat} (lg : i <= j) (hj : j <= (an4 ops)) : (S i).aE.length <= (S j).aE.length := by
  induction j with
  | zero => have : i = 0 := by omega
            subst this; exact If _
  | succ j ih =>
    rcases afb lg with h | h
    · subst h; exact If _
    exact ae9 (ih (by omega) (by omega)) (hr.agl (by omega))
theorem xT.same (hr:xT F rec ops S X) {i t:Nat} (hi:i<an4 ops) (hw: ¬W X i t) (ht:t<(S i).aE.length):(S (i+1)).aE[t]? =(S i).aE[t]?:=by
 rcases hr.steps i _ (v6 hi) with ⟨_,x,hx,_,hX,hn⟩|⟨_,_,hn⟩
 · rw [hn]
   cases x with
   |loc r=>
    simp only [XR.next,rB]
    rw [EQ (by rw [fI];exact ht)]
    exact ur _ _ _ fun k hk=>hw (by unfold W;rw [hX];exact ⟨k,hk⟩)
   |shr v s z=>exact absurd (by unfold W;rw [hX];trivial) hw
 rw [hn]
theorem xT.yU (hr : xT F rec ops S X) {m m' t : Nat} (hm : m <= m') (CG : m' <= (an4 ops)) (hw : ∀ i, m <= i -> i < m' -> ¬ W X i t) (ht : t < (S m).aE.length) : (S m').aE[t]? = (S m).aE[t]? := by
  induction m' with
  | zero => have : m = 0 := by omega
            subst this; rfl
  | succ j ih =>
    rcases afb hm with h | h
    · subst h; rfl
    rw [hr.same (by omega) (hw j (by omega) (by omega)) (afj ht (hr.ik (by omega) (by omega)))]
    exact ih (by omega) (by omega) fun i h1 h2 => hw i h1 (by omega)
theorem cL {α:Type} {l:List α} {i:Nat} {x:α} (h:l[i]? =an9 x):i<(an4 l):=(Do.1 h).1
theorem Bo.unique (hr:xT F rec ops S X) {done:Nat->Prop} {t:Nat} {k k':jX} (h:Bo S X (an4 ops) done t k) (h':Bo S X (an4 ops) done t k'):k=k':=by
 obtain ⟨m,hm,hw,hc,hs⟩:=h;obtain ⟨m',CG,WW,Cx,uY⟩:=h';rcases alt m m' with h|h
 · have:=hr.yU h CG (fun i h1 h2 hW=>by
    have a:=hw i (by omega) hW
    have b:=WW i (by omega) hW
    have:=a.1 (b.2 h2);omega) (cL hs)
   rw [hs,uY] at this;exact (agx this).symm
 have:=hr.yU h hm (fun i h1 h2 hW=>by
  have a:=hw i (by omega) hW
  have b:=WW i (by omega) hW
  have:=b.1 (a.2 h2);omega) (cL uY)
 rw [hs,uY] at this;exact agx this
theorem xT.TY (hr:xT F rec ops S X) {i t:Nat} (hi:i<an4 ops) (hd:(ops[i]).dst≠an9 t):lk t (S (i+1)).env=lk t (S i).env:=by
 have key: ∀(d:Option Nat) (v:PV) (e:Env),d≠an9 t->lk t (iJ d v e)=lk t e:=by
  intro d v e h;cases d with
  |none=>rfl
  |some s=>
   simp only [iJ];rw [rD,rc (fun e=>h (by rw [e]))]
 rcases hr.steps i _ (v6 hi) with ⟨_,x,hx,_,hX,hn⟩|⟨_,_,hn⟩
 · rw [hn]
   cases x with
   |loc r=>exact key _ _ _ hd
   |shr v s z=>exact key _ _ _ hd
 rw [hn];exact key _ _ _ hd
theorem xT.NW (hr : xT F rec ops S X) {m m' t : Nat} (hm : m <= m') (CG : m' <= (an4 ops)) (hd : ∀ i (hi : i < (an4 ops)), m <= i -> i < m' -> (ops[i]).dst ≠ an9 t) : lk t (S m').env = lk t (S m).env := by
  induction m' with
  | zero => have : m = 0 := by omega
            subst this; rfl
  | succ j ih =>
    rcases afb hm with h | h
    · subst h; rfl
    rw [hr.TY (by omega) (hd j (by omega) (by omega) (by omega))]
    exact ih (by omega) (by omega) fun i hi h1 h2 => hd i hi h1 (by omega)
end
end Go.Vm
/- A region: what holds while an9 of its operations are done, and that one more keeps it. -/
namespace Go.Vm
def aA (x:bU):List Nat:=(x.op.fo.filterMap fun| .t n=>an9 n| .c _=>anp)++(match x.guard with|some (s,_)=>[s]|none=>[])
def u9 (ops:Array Oper):Option (Nat×Bool)->Option (Nat×Bool)->Bool
 |none,anp=>anq
 |some (s,b),an9 (j,c)=>b==c&&((ops[j]?).bind (·.dst))==an9 s
 |_,_=>anr
def rF (P:Program) (prims:FuncId->Bool) (nt:Nat) (ops:Array Oper) (x:bU) (o:Oper):Bool:=
 x.dst==o.dst&&(match x.dst with|some d=>afF d nt|none=>anq)&&u9 ops x.guard o.guard&&xg P prims o.type x.op o.op
def ru (X:Nat->Option XR) (i:Nat):Prop:= ∃v s z,X i=an9 (.shr v s z)
def gT (X:Nat->Option XR) (i:Nat):Prop:=
 match X i with
 |some (.loc r)=>r.rd≠[]\/r.fr≠[]\/r.wr≠[]\/r.news≠[]
 |some (.shr ..)=>True
 |none=>False
def A (X:Nat->Option XR) (i t:Nat):Prop:=
 match X i with
 |some (.loc r)=>t∈r.rd\/t∈r.fr
 |_=>False
structure Ord (ops:List bU) (S:Nat->St) (X:Nat->Option XR) (xw:Nat->Nat->Prop):Prop where
 E7: ∀(i j t:Nat) (x y:bU),i<j->ops[i]? =an9 x->ops[j]? =an9 y->x.dst=an9 t->(t∈aA y\/y.dst=an9 t)->xw i j
 TZ: ∀(i j t:Nat) (x y:bU),i<j->ops[i]? =an9 x->ops[j]? =an9 y->y.dst=an9 t->t∈aA x->xw i j
 NX: ∀i j t,i<j->j<an4 ops->W X i t->(A X j t\/W X j t)->xw i j
 agm: ∀i j t,i<j->j<an4 ops->A X i t->W X j t->xw i j
 agn: ∀i j t,i<j->j<an4 ops-> ¬ru X i->(S i).aE.length<=t->t<(S (i+1)).aE.length-> ¬ru X j->W X j t->xw i j
 KI: ∀i j,i<j->j<an4 ops->(ru X i/\gT X j\/gT X i/\ru X j)->xw i j
 cl: ∀i t,i<an4 ops-> ¬ru X i->(A X i t\/W X i t)->t<(S i).aE.length\/ ∀c,i<c->c<an4 ops->xw i c
structure Inv (ops:List bU) (S:Nat->St) (X:Nat->Option XR) (im0:Im) (loc0:Loc) (w0:World) (nt:Nat) (done:Nat->Prop) (im:Im) (loc:Loc) (a:Act) (w:World):Prop where
 tm: ∀t,∃m,m<=an4 ops/\(∀i x,ops[i]? =an9 x->x.dst=an9 t->(done i↔i<m))/\VR im loc (lk t (S m).env) (a.tmps.getD t Go.undef)
 bG: ∀b o,im b=an9 o->w.heap[b]? =an9 o
 tok: ∀t li,loc t=an9 li-> ∃k,Bo S X (an4 ops) done t k/\BR im loc w li k
 iK: ∀t u li lj k k',loc t=an9 li->loc u=an9 lj->Bo S X (an4 ops) done t k->Bo S X (an4 ops) done u k'->k.bL=anq->k'.bL=anq->li.df=lj.df->t=u
 free: ∀t li k,loc t=an9 li->Bo S X (an4 ops) done t k->k.bL=anq->t∉(S 0).fz->(∀i,i<an4 ops->done i-> ¬FR X i t)->im li.df=anp
 fresh: ∀i,i<an4 ops-> ¬done i-> ∀t,(S i).aE.length<=t->t<(S (i+1)).aE.length->loc t=anp
 gG:nZ im0 im
 dS:mv loc0 loc
 os:w.os=w0.os
 tape:w.tape=w0.tape
 output:w.output=w0.output
 size:w0.heap.size<=w.heap.size
 frame: ∀b,b<w0.heap.size->(∀t li k,loc0 t=an9 li->(S 0).aE[t]? =an9 k->k.bL=anq->li.df≠b)->w.heap[b]? =w0.heap[b]?
 dX: ∀b o,im b=an9 o->im0 b=an9 o\/w0.heap.size<=b\/ ∃t li k,loc0 t=an9 li/\(S 0).aE[t]? =an9 k/\k.bL=anq/\li.df=b
 nQ: ∀t li,loc t=an9 li->loc0 t=an9 li\/(S 0).aE.length<=t
 own: ∀t li k,loc t=an9 li->Bo S X (an4 ops) done t k->k.bL=anq->(w0.heap.size<=li.df\/ ∃u lu ku,loc0 u=an9 lu/\(S 0).aE[u]? =an9 ku/\ku.bL=anq/\lu.df=li.df)
 defers:a.defers=[]
 NB:a.tmps.size=nt
def plus (done:Nat->Prop) (i:Nat):Nat->Prop:=fun j=>done j\/j=i
section
variable {F : mX} {rec : Task -> Option Out} {ops : List bU} {S : Nat -> St} {X : Nat -> Option XR} {xw : Nat -> Nat -> Prop} {im0 : Im} {loc0 : Loc} {w0 : World} {nt : Nat}
  {done : Nat -> Prop} {im : Im} {loc : Loc} {a : Act} {w : World} {i : Nat}
structure Place (ops:List bU) (xw:Nat->Nat->Prop) (done:Nat->Prop) (i:Nat):Prop where
 lt:i<an4 ops
 nd: ¬done i
 pre: ∀j,j<an4 ops->xw j i->done j
 eI: ∀k,k<an4 ops->done k-> ∀j,j<an4 ops->xw j k->done j
theorem Place.xU (hp:Place ops xw done i) {k:Nat} (hk:k<an4 ops) (h:xw i k): ¬done k:=fun hd=>hp.nd (hp.eI k hk hd i hp.lt h)
theorem Inv.slot (hr:xT F rec ops S X) (ho:Ord ops S X xw) (hv:Inv ops S X im0 loc0 w0 nt done im loc a w) (hp:Place ops xw done i) {x:bU} (hx:ops[i]? =an9 x) {t:Nat} (ht:t∈aA x):
 VR im loc (lk t (S i).env) (a.tmps.getD t Go.undef):=by
 obtain ⟨m,hm,hd,oU⟩:=hv.tm t;have hwr: ∀j y,ops[j]? =an9 y->y.dst=an9 t->(done j↔j<i):=by
  intro j y hy PY;rcases acl j i with h|h|h
  · exact ⟨fun _=>h,fun _=>hp.pre j (cL hy) (ho.E7 j i t y x h hy hx PY (.inl ht))⟩
  · subst h;exact ⟨fun hd=>absurd hd hp.nd,fun h=>by omega⟩
  exact ⟨fun K9=>absurd K9 (hp.xU (cL hy) (ho.TZ i j t x y h hx hy PY ht)),fun h'=>by omega⟩
 have same:lk t (S i).env=lk t (S m).env:=by
  rcases alt m i with h|h
  · refine hr.NW h (afR hp.lt) fun j hj h1 h2 s8=>?_
    have a1:=hd j _ (v6 hj) s8;have a2:=hwr j _ (v6 hj) s8
    have:=a1.1 (a2.2 h2);omega
  refine (hr.NW h hm fun j hj h1 h2 s8=>?_).symm
  have a1:=hd j _ (v6 hj) s8;have a2:=hwr j _ (v6 hj) s8
  have:=a2.1 (a1.2 h2);omega
 rw [same];exact oU
theorem Inv.cur (hr:xT F rec ops S X) (ho:Ord ops S X xw) (hv:Inv ops S X im0 loc0 w0 nt done im loc a w) (hp:Place ops xw done i) {t:Nat} {li:LI} (hl:loc t=an9 li)
 (ht:(A X i t\/W X i t)) {k:jX} (hc:Bo S X (an4 ops) done t k):(S i).aE[t]? =an9 k:=by
 obtain ⟨m,hm,hw,hcr,hs⟩:=hc;have cT:t<(S i).aE.length:=by
  rcases adc t (S i).aE.length with h|h
  · exact h
  exfalso
  have hmi:i<m:=by
   rcases adc i m with h'|h'
   · exact h'
   have:=hr.ik h' (afR hp.lt);have:=cL hs;omega
  have: ∃c,i<=c/\c<m/\(S c).aE.length<=t/\t<(S (c+1)).aE.length:=by
   have hex: ∀d,i+d<=m->t<(S (i+d)).aE.length-> ∃c,i<=c/\c<i+d/\(S c).aE.length<=t/\t<(S (c+1)).aE.length:=by
    intro d
    induction d with
    |zero=>intro _ h2;exact absurd h2 (by simpa using h)
    |succ d ih=>
     intro h1 h2;rcases adc t (S (i+d)).aE.length with h3|h3
     · obtain ⟨c,c1,c2,c3,c4⟩:=ih (by omega) h3
       exact ⟨c,c1,by omega,c3,c4⟩
     exact ⟨i+d,by omega,by omega,h3,h2⟩
   obtain ⟨c,c1,c2,c3,c4⟩:=hex (m-i) (by omega) (by rw [show i+(m-i)=m by omega];exact cL hs)
   exact ⟨c,c1,by omega,c3,c4⟩
  obtain ⟨c,c1,c2,c3,c4⟩:=this;have hcn:c<(an4 ops):=by omega
  have as8: ¬done c:=by
   intro hdc;rcases afb c1 with e|e
   · subst e;exact hp.nd hdc
   by_cases hsh:ru X i
   · refine hp.xU hcn (ho.KI i c e hcn (.inl ⟨hsh,?_⟩)) hdc
     rcases hr.steps c _ (v6 hcn) with ⟨_,x,hx,_,hX,hn⟩|⟨_,_,hn⟩
     · unfold gT;rw [hX]
       cases x with
       |loc r=>
        refine .inr (.inr (.inr fun Hh=>?_))
        rw [hn] at c4;simp [XR.next,rB,fI,Hh] at c4
        omega
       |shr v s z=>trivial
     rw [hn] at c4;simp at c4;omega
   rcases ho.cl i t hp.lt hsh ht with h'|h'
   · omega
   exact hp.xU hcn (h' c e hcn) hdc
  have:=hv.fresh c hcn as8 t c3 c4
  rw [hl] at this;cases this
 have hwr: ∀j,j<an4 ops->W X j t->(done j↔j<i):=by
  intro j hj hW;rcases acl j i with h|h|h
  · exact ⟨fun _=>h,fun _=>hp.pre j hj (ho.NX j i t h hp.lt hW ht)⟩
  · subst h;exact ⟨fun hd=>absurd hd hp.nd,fun h=>by omega⟩
  refine ⟨fun K9=>absurd K9 (hp.xU hj ?_),fun h'=>by omega⟩
  rcases ht with ht|ht
  · exact ho.agm i j t h hj ht hW
  exact ho.NX i j t h hj ht (.inr hW)
 rcases alt m i with h|h
 · rw [hr.yU h (afR hp.lt) (fun j h1 h2 hW=>by
    have a1:=hw j (by have:=hp.lt;omega) hW
    have a2:=hwr j (by have:=hp.lt;omega) hW
    have:=a1.1 (a2.2 h2);omega) (cL hs)]
   exact hs
 rw [<- hr.yU h hm (fun j h1 h2 hW=>by
  have a1:=hw j (by omega) hW
  have a2:=hwr j (by omega) hW
  have:=a2.1 (a1.2 h2);omega) cT]
 exact hs
end
end Go.Vm
/- A region: one more operation keeps what holds. -/
namespace Go.Vm
theorem BR.aop {im eA:Im} {loc bo:Loc} {w w':World} {li:LI} {k:jX} (h:BR im loc w li k) (hi:nZ im eA) (hl:mv loc bo)
 (hw:k.bL=anq->w'.heap[li.df]? =w.heap[li.df]?):BR eA bo w' li k:=by
 cases hs:k.bL with
 |true=>exact h.mono hi hl (hw hs)
 |false=>
  cases k with
  |arr e rows=>
   cases rows with
   |nil=>exact ⟨h.1,h.2.1,fun dW=>absurd rfl dW⟩
   |cons _ _=>cases hs
  |box _=>cases hs
  |map _=>cases hs
  |dead=>trivial
section
variable {F : mX} {rec : Task -> Option Out} {ops : List bU} {S : Nat -> St} {X : Nat -> Option XR} {xw : Nat -> Nat -> Prop} {im0 : Im} {loc0 : Loc} {w0 : World} {nt : Nat}
  {done : Nat -> Prop} {im : Im} {loc : Loc} {a : Act} {w : World} {i : Nat}
theorem xT.aoq (hr:xT F rec ops S X) {j:Nat} (hj:j<an4 ops): ∀t,t∈(S j).fz->t∈(S (j+1)).fz:=by
 intro t ht;rcases hr.steps j _ (v6 hj) with ⟨_,x,hx,_,_,hn⟩|⟨_,_,hn⟩
 · rw [hn]
   cases x with
   |loc r=>simp only [XR.next];exact agH _ ht
   |shr v s z=>exact (PX hx).2 t ht
 rw [hn];exact ht
theorem xT.Ek (hr : xT F rec ops S X) {m m' : Nat} (h : m <= m') (hm : m' <= (an4 ops)) : ∀ t, t ∈ (S m).fz -> t ∈ (S m').fz := by
  induction m' with
  | zero => have : m = 0 := by omega
            subst this; exact fun _ h => h
  | succ j ih =>
    rcases afb h with e | e
    · subst e; exact fun _ h => h
    exact fun t ht => hr.aoq (by omega) t (ih (by omega) (by omega) t ht)
theorem xT.afp (hr:xT F rec ops S X) {j:Nat} (hj:j<an4 ops) {t:Nat} (h:FR X j t):t∈(S (j+1)).fz:=by
 rcases hr.steps j _ (v6 hj) with ⟨_,x,hx,_,hX,hn⟩|⟨_,hX,_⟩
 · rw [hn]
   unfold FR at h;rw [hX] at h;cases x with
   |loc r=>exact agM _ h
   |shr v s z=>exact h
 unfold FR at h;rw [hX] at h;exact h.elim
theorem aor {j t:Nat} (h:FR X j t):A X j t\/W X j t:=by
 unfold FR at h;unfold A W;cases hX:X j with
 |none=>rw [hX] at h;exact h.elim
 |some x=>
  rw [hX] at h;cases x with
  |loc r=>exact .inl (.inr h)
  |shr v s z=>exact .inr trivial
theorem Inv.E8 (hr:xT F rec ops S X) (ho:Ord ops S X xw) (hp:Place ops xw done i) {t:Nat} (hW:W X i t) (hz:t∉(S i).fz):
 t∉(S 0).fz/\ ∀j,j<an4 ops->done j-> ¬FR X j t:=by
 refine ⟨fun h=>hz (hr.Ek (afa _) (afR hp.lt) t h),fun j hj hd hf=>?_⟩
 rcases acl j i with h|h|h
 · exact hz (hr.Ek h (afR hp.lt) t (hr.afp hj hf))
 · subst h;exact hp.nd hd
 exact hp.xU hj (ho.NX i j t h hj hW (aor hf)) hd
theorem Inv.known (hr:xT F rec ops S X) (ho:Ord ops S X xw) (hv:Inv ops S X im0 loc0 w0 nt done im loc a w) (hp:Place ops xw done i) {r:nU} (hX:X i=an9 (.loc r)) (Aj:(XR.loc r).ok (S i).fz=anq)
 (hn:(S (i+1)).aE.length=(S i).aE.length+an4 r.news):jo im loc (S i).aE w r where
 bG:=hv.bG
 tok:=fun t ht li hl=>by
  obtain ⟨k,hc,sy⟩:=hv.tok t li hl;refine ⟨k,hv.cur hr ho hp hl ?_ hc,sy⟩;rcases ht with ht|ht
  · exact .inl (by unfold A;rw [hX];exact .inl ht)
  exact .inr (by unfold W;rw [hX];exact ht)
 free:=fun t k hm li k' hl hs lZ=>by
  have hW:W X i t:=by unfold W;rw [hX];exact ⟨k,hm⟩
  simp only [XR.ok,ut,af7,UV] at Aj;have hz:t∉(S i).fz:=jF.1 (Aj.1 (t,k) hm);obtain ⟨h0,h1⟩:=Inv.E8 hr ho hp hW hz;obtain ⟨k2,hc,_⟩:=hv.tok t li hl
  have:=hv.cur hr ho hp hl (.inr hW) hc
  rw [hs] at this;injection this with this;subst this;exact hv.free t li k' hl hc lZ h0 h1
 fresh:=fun j hj=>hv.fresh i hp.lt hp.nd _ (by omega) (by omega)
 iK:=fun t u li lj k k' ht hu hl mA hs uY lZ HI hb=>by
  have aw: ∀t,(t∈r.rd\/ ∃b,(t,b)∈r.wr)->A X i t\/W X i t:=fun t h=>by
   rcases h with h|h
   · exact .inl (by unfold A;rw [hX];exact .inl h)
   exact .inr (by unfold W;rw [hX];exact h)
  obtain ⟨k1,Dq,_⟩:=hv.tok t li hl;obtain ⟨k2,CA,_⟩:=hv.tok u lj mA;have e1:=hv.cur hr ho hp hl (aw t ht) Dq;have e2:=hv.cur hr ho hp mA (aw u hu) CA;rw [hs] at e1;injection e1 with e1;subst e1;rw [uY] at e2;injection e2 with e2;subst e2;exact hv.iK t u li lj _ _ hl mA Dq CA lZ HI hb
theorem Inv.Bp (hr:xT F rec ops S X) (ho:Ord ops S X xw) (hv:Inv ops S X im0 loc0 w0 nt done im loc a w) (hp:Place ops xw done i) {x:bU} (hx:ops[i]? =an9 x) {r:nU} (hX:X i=an9 (.loc r))
 (Aj:(XR.loc r).ok (S i).fz=anq) (hS:S (i+1)=(XR.loc r).next x.dst (S i)) {v':Value} {eA:Im} {bo:Loc} {w':World} (oU:VR eA bo r.v v') (he:tg im loc (S i).aE w r eA bo w')
 (s8: ∀d,x.dst=an9 d->d<nt):Inv ops S X im0 loc0 w0 nt (plus done i) eA bo (a.put x.dst v') w':=by
 have cT:(S (i+1)).aE.length=(S i).aE.length+(an4 r.news):=by rw [hS];simp [XR.next,rB,fI]
 have uu:=hp.lt;have Be:vJ r.wr=anq:=by simp only [XR.ok,ut] at Aj;exact Aj.2
 have qu:(S (i+1)).aE=gj r.wr (S i).aE++r.news:=by rw [hS];exact rB _ _
 have aos: ∀t k,(t,k)∈r.wr->t<(S i).aE.length->(S (i+1)).aE[t]? =an9 k:=by
  intro t k hm dI;rw [qu,EQ (by rw [fI];exact dI)]
  exact E6 _ _ Be hm dI
 have ago: ∀j k,r.news[j]? =an9 k->(S (i+1)).aE[(S i).aE.length+j]? =an9 k:=by
  intro j k hj;rw [qu,M2 (by rw [fI];omega),fI,show (S i).aE.length+j- (S i).aE.length=j by omega]
  exact hj
 have wlt: ∀t li,loc t=an9 li->W X i t->t<(S i).aE.length:=by
  intro t li hl hW;obtain ⟨k,hc,_⟩:=hv.tok t li hl;exact cL (hv.cur hr ho hp hl (.inr hW) hc)
 have Ja: ∀t k li,(t,k)∈r.wr->loc t=an9 li->Bo S X (an4 ops) (plus done i) t k:=by
  intro t k li hm hl;have hW:W X i t:=by unfold W;rw [hX];exact ⟨k,hm⟩
  have dI:=wlt t li hl hW;refine ⟨i+1,uu,fun j hj PZ=>?_,fun c hc h1 h2=>?_,aos t k hm dI⟩
  · rcases acl j i with h|h|h
    · exact ⟨fun _=>by omega,fun _=> .inl (hp.pre j hj (ho.NX j i t h uu PZ (.inr hW)))⟩
    · subst h;exact ⟨fun _=>by omega,fun _=> .inr rfl⟩
    refine ⟨fun hd=>?_,fun h'=>by omega⟩
    rcases hd with hd|hd
    · exact absurd hd (hp.xU hj (ho.NX i j t h hj hW (.inr PZ)))
    omega
  rcases adc c (i+1) with h|h
  · exact h
  have:=hr.ik (show i<=c by omega) (by omega);omega
 have yV: ∀j k,r.news[j]? =an9 k->Bo S X (an4 ops) (plus done i) ((S i).aE.length+j) k:=by
  intro j k hj;have NL:=cL hj;refine ⟨i+1,uu,fun q hq hWq=>?_,fun c hc h1 h2=>?_,ago j k hj⟩
  · rcases acl q i with h|h|h
    · refine ⟨fun _=>by omega,fun _=> .inl ?_⟩
      by_cases hs:ru X q
      ·
       refine hp.pre q hq (ho.KI q i h uu (.inl ⟨hs,?_⟩));unfold gT;rw [hX];exact .inr (.inr (.inr (by intro e;rw [e] at hj;simp at hj)))
      rcases ho.cl q _ hq hs (.inr hWq) with h'|h'
      · have:=hr.ik (show q<=i by omega) (by omega);omega
      exact hp.pre q hq (h' i h uu)
    · subst h;exact ⟨fun _=>by omega,fun _=> .inr rfl⟩
    refine ⟨fun hd=>?_,fun h'=>by omega⟩
    rcases hd with hd|hd
    · exfalso
      by_cases hs:ru X q
      · refine hp.xU hq (ho.KI i q h hq (.inr ⟨?_,hs⟩)) hd
        unfold gT;rw [hX];exact .inr (.inr (.inr (by intro e;rw [e] at hj;simp at hj)))
      exact hp.xU hq (ho.agn i q _ h hq (by rintro ⟨v,s,z,e⟩;rw [hX] at e;cases e) (by omega) (by omega) hs hWq) hd
    omega
  rcases adc c (i+1) with h|h
  · exact h
  have:=hr.ik (show i+1<=c by omega) (by omega);omega
 have P0: ∀t k,¬W X i t->Bo S X (an4 ops) done t k->Bo S X (an4 ops) (plus done i) t k:=by
  intro t k hW hc;obtain ⟨m,hm,h1,h2,h3⟩:=hc;refine ⟨m,hm,fun j hj PZ=>?_,h2,h3⟩
  have dW:j≠i:=fun e=>hW (e▸PZ)
  have:=h1 j hj PZ
  exact ⟨fun hd=>this.1 (hd.resolve_right dW),fun h=> .inl (this.2 h)⟩
 have ar5: ¬ru X i:=by rintro ⟨v,s,z,e⟩;rw [hX] at e;cases e
 have yW: ∀t li,bo t=an9 li->(∃j k,t=(S i).aE.length+j/\r.news[j]? =an9 k/\loc t=anp)\/loc t=an9 li:=by
  intro t li hl;rcases he.k9 t li hl with h|⟨h1,h2⟩
  · exact .inr h
  refine .inl ⟨t- (S i).aE.length,r.news[t- (S i).aE.length],by omega,v6 (by omega),?_⟩
  exact hv.fresh i uu hp.nd t h1 (by omega)
 have old: ∀t li k,loc t=an9 li->Bo S X (an4 ops) (plus done i) t k->k.bL=anq-> ∃k0,Bo S X (an4 ops) done t k0/\k0.bL=anq/\BR im loc w li k0/\(¬W X i t->k0=k)/\(W X i t->(t,k)∈r.wr):=by
  intro t li k hl hc hs;obtain ⟨k0,E9,sy⟩:=hv.tok t li hl
  by_cases hW:W X i t
  · have Jb:=hW
    unfold W at Jb;rw [hX] at Jb;obtain ⟨k2,hm⟩:=Jb;have e:=(Ja t k2 li hm hl).unique hr hc;subst e;obtain ⟨k3,h3,h4⟩:=he.Rx t k2 hm hs
    have:=hv.cur hr ho hp hl (.inr hW) E9
    rw [h3] at this;injection this with this;subst this;exact ⟨k3,E9,h4,sy,fun h=>absurd hW h,fun _=>hm⟩
  have e:=(P0 t k0 hW E9).unique hr hc
  subst e;exact ⟨k0,E9,hs,sy,fun _=>rfl,fun h=>absurd h hW⟩
 have Jc: ∀t k li k0,(t,k)∈r.wr->loc t=an9 li->(S i).aE[t]? =an9 k0->Bo S X (an4 ops) done t k0:=by
  intro t k li k0 hm hl hs;obtain ⟨k1,Dq,_⟩:=hv.tok t li hl
  have:=hv.cur hr ho hp hl (.inr (by unfold W;rw [hX];exact ⟨k,hm⟩)) Dq
  rw [hs] at this;injection this with this;subst this;exact Dq
 have T0: ∀t li k0,t∈r.fr->loc t=an9 li->(S i).aE[t]? =an9 k0->Bo S X (an4 ops) done t k0:=by
  intro t li k0 hm hl hs;obtain ⟨k1,Dq,_⟩:=hv.tok t li hl
  have:=hv.cur hr ho hp hl (.inl (by unfold A;rw [hX];exact .inr hm)) Dq
  rw [hs] at this;injection this with this;subst this;exact Dq
 refine {
  tm:=fun t=>?_
  bG:=he.bG
  tok:=fun t li hl=>?_
  iK:=fun t u li lj k k' hl mA hc Cx hs uY hb=>?_
  free:=fun t li k hl hc hs h0 hf=>?_
  fresh:=fun j hj G8 t h1 h2=>?_
  gG:=hv.gG.trans he.gG
  dS:=hv.dS.trans he.dS
  os:=he.os.trans hv.os
  tape:=he.tape.trans hv.tape
  output:=he.output.trans hv.output
  size:=ae9 hv.size he.size
  frame:=fun b hb hh=>?_
  dX:=fun b o hb=>?_
  nQ:=fun t li hl=>?_
  own:=fun t li k hl hc hs=>?_
  defers:=by
   cases hd:x.dst<;>simp [Act.put,hv.defers]
  NB:=by
   cases hd:x.dst<;>simp [Act.put,hv.NB]}
 ·
  by_cases hd:x.dst=an9 t
  · refine ⟨i+1,uu,fun j y hy PY=>?_,?_⟩
    · rcases acl j i with h|h|h
      · exact ⟨fun _=>by omega,fun _=> .inl (hp.pre j (cL hy) (ho.E7 j i t y x h hy hx PY (.inr hd)))⟩
      · subst h;exact ⟨fun _=>by omega,fun _=> .inr rfl⟩
      refine ⟨fun K9=>?_,fun h'=>by omega⟩
      rcases K9 with K9|K9
      · exact absurd K9 (hp.xU (cL hy) (ho.E7 i j t x y h hx hy hd (.inr PY)))
      omega
    rw [hS]
    simp only [XR.next,hd,iJ,rD,if_true,Act.put]
    have:=s8 t hd
    simp [hv.NB,this,oU]
  obtain ⟨m,hm,h1,h2⟩:=hv.tm t
  refine ⟨m,hm,fun j y hy PY=>?_,?_⟩
  · have dW:j≠i:=by intro e;subst e;rw [hx] at hy;injection hy with hy;subst hy;exact hd PY
    have:=h1 j y hy PY
    exact ⟨fun K9=>this.1 (K9.resolve_right dW),fun h=> .inl (this.2 h)⟩
  have:=h2.mono he.gG he.dS
  cases hxd:x.dst with
  |none=>simpa [Act.put] using this
  |some d=>
   have dW:d≠t:=fun e=>hd (by rw [hxd,e])
   simpa [Act.put,af4,dW] using this
 ·
  rcases yW t li hl with ⟨j,k,rfl,hj,_⟩|RJ
  · obtain ⟨h2,_⟩:=he.news j k li hj hl
    exact ⟨k,yV j k hj,h2⟩
  obtain ⟨k0,E9,sy⟩:=hv.tok t li RJ
  by_cases hW:W X i t
  · have Jb:=hW
    unfold W at Jb;rw [hX] at Jb;obtain ⟨k2,hm⟩:=Jb;exact ⟨k2,Ja t k2 li hm RJ,he.wr t k2 li hm RJ⟩
  refine ⟨k0,P0 t k0 hW E9,sy.aop he.gG he.dS fun hs=>?_⟩
  refine he.frame _ (sy.lt hs) fun t2 k2 l2 k3 hm KS hs3 lZ Tn=>?_
  have:=hv.iK t2 t l2 li k3 k0 KS RJ (Jc t2 k2 l2 k3 hm KS hs3) E9 lZ hs Tn
  subst this;exact hW (by unfold W;rw [hX];exact ⟨k2,hm⟩)
 ·
  have T1: ∀t u li lj k k',(∃j k,t=(S i).aE.length+j/\r.news[j]? =an9 k/\loc t=anp)->loc u=an9 lj->bo t=an9 li->Bo S X (an4 ops) (plus done i) t k->Bo S X (an4 ops) (plus done i) u k'->
   k.bL=anq->k'.bL=anq->li.df=lj.df->False:=by
   intro t u li lj k k' hj hlu hl hc Cx hs uY hb;obtain ⟨j,k1,rfl,hj,_⟩:=hj;have e:=(yV j k1 hj).unique hr hc;subst e;obtain ⟨h2,h3⟩:=he.news j k1 li hj hl;obtain ⟨k0,E9,Jd,agp,hk0,hw0⟩:=old u lj k' hlu Cx uY;have dI:=agp.lt Jd;rcases (h3 hs).2 with h|⟨td,lt,kd,hm,hld,hsd,T2,hbd⟩
   · omega
   have:=hv.iK td u lt lj kd k0 hld hlu (Jc td _ lt kd hm hld hsd) E9 T2 Jd (by rw [hbd,hb])
   subst this;have TK:=hw0 (by unfold W;rw [hX];exact ⟨_,hm⟩)
   have e2:=(Ja td _ lj hm hlu).unique hr (Ja td _ lj TK hlu);subst e2;cases uY
  rcases yW t li hl with h1|h1
  · rcases yW u lj mA with h2|h2
    · obtain ⟨j1,k1,rfl,hj1,_⟩:=h1
      obtain ⟨j2,k2,rfl,hj2,_⟩:=h2;have e1:=(yV j1 k1 hj1).unique hr hc;have e2:=(yV j2 k2 hj2).unique hr Cx;subst e1 e2;rw [he.distinct j1 j2 k1 k2 li lj hj1 hj2 hs uY hl mA hb]
    exact (T1 t u li lj k k' h1 h2 hl hc Cx hs uY hb).elim
  rcases yW u lj mA with h2|h2
  · exact (T1 u t lj li k' k h2 h1 mA Cx hc uY hs hb.symm).elim
  obtain ⟨k0,E9,Jd,_⟩:=old t li k h1 hc hs
  obtain ⟨k1,Dq,hs1,_⟩:=old u lj k' h2 Cx uY;exact hv.iK t u li lj k0 k1 h1 h2 E9 Dq Jd hs1 hb
 ·
  rcases yW t li hl with ⟨j,k1,rfl,hj,_⟩|RJ
  · have e:=(yV j k1 hj).unique hr hc
    subst e;obtain ⟨h2,h3⟩:=he.news j k1 li hj hl;exact (h3 hs).1
  obtain ⟨k0,E9,Jd,agp,_,_⟩:=old t li k RJ hc hs
  have hn:=hv.free t li k0 RJ E9 Jd h0 (fun j hj hd=>hf j hj (.inl hd))
  cases hb:eA li.df with
  |none=>rfl
  |some o=>
   rcases he.dX _ _ hb with h|h|⟨t2,l2,k2,h1,h2,h3,h4,h5⟩
   · rw [hn] at h;cases h
   · have:=agp.lt Jd;omega
   have hm:=pO.1 h1
   have:=hv.iK t2 t l2 li k2 k0 h2 RJ (T0 t2 l2 k2 hm h2 h3) E9 h4 Jd h5
   subst this;exact absurd (by unfold FR;rw [hX];exact hm) (hf i uu (.inr rfl))
 ·
  have Xm:j≠i:=fun e=>G8 (.inr e)
  have agq: ¬done j:=fun h=>G8 (.inl h)
  cases hl:bo t with
  |none=>rfl
  |some li=>
   exfalso;rcases he.k9 t li hl with h|⟨h3,h4⟩
   · rw [hv.fresh j hj agq t h1 h2] at h;cases h
   rcases akt Xm with h|h
   · have:=hr.ik (show j+1<=i by omega) (by omega);omega
   have:=hr.ik (show i+1<=j by omega) (by omega);omega
 ·
  have hb2:b<w.heap.size:=afj hb hv.size;rw [he.frame b hb2 (fun t k li k0 hm hl hs lZ Tn=>?_)]
  · exact hv.frame b hb hh
  rcases hv.own t li k0 hl (Jc t k li k0 hm hl hs) lZ with h|⟨u,lu,ku,h1,h2,h3,h4⟩
  · omega
  exact hh u lu ku h1 h2 h3 (by omega)
 · rcases he.dX b o hb with h|h|⟨t,li,k,h1,h2,h3,h4,h5⟩
   · exact hv.dX b o h
   · exact .inr (.inl (ae9 hv.size h))
   rcases hv.own t li k h2 (T0 t li k (pO.1 h1) h2 h3) h4 with h|⟨u,lu,ku,g1,g2,g3,g4⟩
   · exact .inr (.inl (by omega))
   exact .inr (.inr ⟨u,lu,ku,g1,g2,g3,by omega⟩)
 · rcases he.k9 t li hl with h|⟨h,_⟩
   · exact hv.nQ t li h
   exact .inr (ae9 (hr.ik (afa _) (by omega)) h)
 rcases yW t li hl with ⟨j,k1,rfl,hj,_⟩|RJ
 · have e:=(yV j k1 hj).unique hr hc
   subst e;obtain ⟨h2,h3⟩:=he.news j k1 li hj hl;rcases (h3 hs).2 with h|⟨td,lt,kd,hm,hld,hsd,T2,hbd⟩
   · exact .inl (ae9 hv.size h)
   rcases hv.own td lt kd hld (Jc td _ lt kd hm hld hsd) T2 with h|⟨u,lu,ku,g1,g2,g3,g4⟩
   · exact .inl (by omega)
   exact .inr ⟨u,lu,ku,g1,g2,g3,by omega⟩
 obtain ⟨k0,E9,Jd,_⟩:=old t li k RJ hc hs
 exact hv.own t li k0 RJ E9 Jd
end
end Go.Vm
/- A region: a call that works on the blocks themselves, and a skipped operation. -/
namespace Go.Vm
section
variable {F : mX} {rec : Task -> Option Out} {ops : List bU} {S : Nat -> St} {X : Nat -> Option XR} {xw : Nat -> Nat -> Prop} {im0 : Im} {loc0 : Loc} {w0 : World} {nt : Nat}
  {done : Nat -> Prop} {im : Im} {loc : Loc} {a : Act} {w : World} {i : Nat}
theorem HJ {v:PV} {s:cH} {z:List Nat} (hX:X i=an9 (.shr v s z)) (t:Nat):W X i t:=by unfold W;rw [hX];trivial
theorem vQ {j t:Nat} (h:W X j t):gT X j:=by
 unfold W at h;unfold gT;cases hX:X j with
 |none=>rw [hX] at h;exact h.elim
 |some x=>
  rw [hX] at h;cases x with
  |loc r=>
   obtain ⟨k,hk⟩:=h;exact .inr (.inr (.inl (by intro e;rw [e] at hk;cases hk)))
  |shr v s z=>trivial
theorem Inv.sr (hr:xT F rec ops S X) (ho:Ord ops S X xw) (hv:Inv ops S X im0 loc0 w0 nt done im loc a w) (hp:Place ops xw done i) {v:PV} {s:cH} {z:List Nat} (hX:X i=an9 (.shr v s z)):
 SR im loc (S i).aE (S i).fz w where
 bG:=hv.bG
 df:=fun t li hl=>by
  obtain ⟨k,hc,hb⟩:=hv.tok t li hl;exact ⟨k,hv.cur hr ho hp hl (.inr (HJ hX t)) hc,hb⟩
 iK:=fun t u li lj k k' hl mA hs uY h h' hb=>by
  obtain ⟨k1,Dq,_⟩:=hv.tok t li hl;obtain ⟨k2,CA,_⟩:=hv.tok u lj mA;have e1:=hv.cur hr ho hp hl (.inr (HJ hX t)) Dq;have e2:=hv.cur hr ho hp mA (.inr (HJ hX u)) CA;rw [hs] at e1;injection e1 with e1;subst e1;rw [uY] at e2;injection e2 with e2;subst e2;exact hv.iK t u li lj _ _ hl mA Dq CA h h' hb
 free:=fun t li k hl hs h hz=>by
  obtain ⟨k1,Dq,_⟩:=hv.tok t li hl;have e1:=hv.cur hr ho hp hl (.inr (HJ hX t)) Dq;rw [hs] at e1;injection e1 with e1;subst e1;obtain ⟨h0,h1⟩:=Inv.E8 hr ho hp (HJ hX t) (jF.1 hz);exact hv.free t li _ hl Dq h h0 h1
theorem Inv.T3 {S:Nat->St} (ho:Ord ops S X xw) (hp:Place ops xw done i) {x:bU} (hx:ops[i]? =an9 x) {v:PV} {v':Value} {eA:Im} {bo:Loc}
 (hv:Inv ops S X im0 loc0 w0 nt done im loc a w) (hi:nZ im eA) (hl:mv loc bo) (hS:(S (i+1)).env=iJ x.dst v (S i).env) (oU:VR eA bo v v') (s8: ∀d,x.dst=an9 d->d<nt):
 ∀t,∃m,m<=an4 ops/\(∀j y,ops[j]? =an9 y->y.dst=an9 t->(plus done i j↔j<m))/\VR eA bo (lk t (S m).env) ((a.put x.dst v').tmps.getD t Go.undef):=by
 intro t;have uu:=hp.lt
 by_cases hd:x.dst=an9 t
 · refine ⟨i+1,uu,fun j y hy PY=>?_,?_⟩
   · rcases acl j i with h|h|h
     · exact ⟨fun _=>by omega,fun _=> .inl (hp.pre j (cL hy) (ho.E7 j i t y x h hy hx PY (.inr hd)))⟩
     · subst h;exact ⟨fun _=>by omega,fun _=> .inr rfl⟩
     refine ⟨fun K9=>?_,fun h'=>by omega⟩
     rcases K9 with K9|K9
     · exact absurd K9 (hp.xU (cL hy) (ho.E7 i j t x y h hx hy hd (.inr PY)))
     omega
   rw [hS]
   simp only [hd,iJ,rD,if_true,Act.put]
   have:=s8 t hd
   simp [hv.NB,this,oU]
 obtain ⟨m,hm,h1,h2⟩:=hv.tm t
 refine ⟨m,hm,fun j y hy PY=>?_,?_⟩
 · have dW:j≠i:=by intro e;subst e;rw [hx] at hy;injection hy with hy;subst hy;exact hd PY
   have:=h1 j y hy PY
   exact ⟨fun K9=>this.1 (K9.resolve_right dW),fun h=> .inl (this.2 h)⟩
 have:=h2.mono hi hl
 cases hxd:x.dst with
 |none=>simpa [Act.put] using this
 |some d=>
  have dW:d≠t:=fun e=>hd (by rw [hxd,e])
  simpa [Act.put,af4,dW] using this
theorem put_defers (a:Act) (d:Option Nat) (v:Value):(a.put d v).defers=a.defers:=by cases d<;>rfl
theorem La (a:Act) (d:Option Nat) (v:Value):(a.put d v).tmps.size=a.tmps.size:=by cases d<;>simp [Act.put]
theorem Inv.T4 (hr:xT F rec ops S X) (ho:Ord ops S X xw) (hv:Inv ops S X im0 loc0 w0 nt done im loc a w) (hp:Place ops xw done i) {x:bU} (hx:ops[i]? =an9 x) {v:PV} {s:cH} {z:List Nat}
 (hX:X i=an9 (.shr v s z)) (hS:S (i+1)=(XR.shr v s z).next x.dst (S i)) {v':Value} {eA:Im} {bo:Loc} {w':World} (hf:u6 im loc (S i).aE w v s z eA bo w' v')
 (s8: ∀d,x.dst=an9 d->d<nt):Inv ops S X im0 loc0 w0 nt (plus done i) eA bo (a.put x.dst v') w':=by
 have uu:=hp.lt;have qu:(S (i+1)).aE=s:=by rw [hS];rfl
 have ags: ∀t li,loc t=an9 li-> ∀k,(S i).aE[t]? =an9 k->Bo S X (an4 ops) done t k:=by
  intro t li hl k hs;obtain ⟨k1,Dq,_⟩:=hv.tok t li hl;have e1:=hv.cur hr ho hp hl (.inr (HJ hX t)) Dq;rw [hs] at e1;injection e1 with e1;subst e1;exact Dq
 have Xn: ∀t k,s[t]? =an9 k->Bo S X (an4 ops) (plus done i) t k:=by
  intro t k hs;refine ⟨i+1,uu,fun j hj PZ=>?_,fun c hc h1 h2=>?_,by rw [qu];exact hs⟩
  · rcases acl j i with h|h|h
    · exact ⟨fun _=>by omega,fun _=> .inl (hp.pre j hj (ho.KI j i h uu (.inr ⟨vQ PZ,⟨v,s,z,hX⟩⟩)))⟩
    · subst h;exact ⟨fun _=>by omega,fun _=> .inr rfl⟩
    refine ⟨fun hd=>?_,fun h'=>by omega⟩
    rcases hd with hd|hd
    · exact absurd hd (hp.xU hj (ho.KI i j h hj (.inl ⟨⟨v,s,z,hX⟩,vQ PZ⟩)))
    omega
  rcases adc c (i+1) with h|h
  · exact h
  have:=hr.ik (show i+1<=c by omega) (by omega)
  have:=cL hs
  rw [qu] at*;omega
 have Je: ∀t li,bo t=an9 li-> ∀k,Bo S X (an4 ops) (plus done i) t k->s[t]? =an9 k:=by
  intro t li hl k hc;obtain ⟨k1,h1,_⟩:=hf.sr.df t li hl
  have:=hc.unique hr (Xn t k1 h1)
  subst this;exact h1
 refine {
  tm:=Inv.T3 ho hp hx hv hf.gG hf.dS (by rw [hS];rfl) hf.vr s8
  bG:=hf.sr.bG
  tok:=fun t li hl=>by
   obtain ⟨k,h1,h2⟩:=hf.sr.df t li hl;exact ⟨k,Xn t k h1,h2⟩
  iK:=fun t u li lj k k' hl mA hc Cx hs uY hb=>hf.sr.iK t u li lj k k' hl mA (Je t li hl k hc) (Je u lj mA k' Cx) hs uY hb
  free:=fun t li k hl hc hs h0 sx=>by
   refine hf.sr.free t li k hl (Je t li hl k hc) hs (jF.2 ?_)
   have:=sx i uu (.inr rfl)
   unfold FR at this;rw [hX] at this;exact this
  fresh:=fun j hj G8 t h1 h2=>?_
  gG:=hv.gG.trans hf.gG
  dS:=hv.dS.trans hf.dS
  os:=hf.os.trans hv.os
  tape:=hf.tape.trans hv.tape
  output:=hf.output.trans hv.output
  size:=ae9 hv.size hf.size
  frame:=fun b hb hh=>?_
  dX:=fun b o hb=>?_
  nQ:=fun t li hl=>?_
  own:=fun t li k hl hc hs=>?_
  defers:=by rw [put_defers];exact hv.defers
  NB:=by rw [La];exact hv.NB}
 · have Xm:j≠i:=fun e=>G8 (.inr e)
   have agq: ¬done j:=fun h=>G8 (.inl h)
   cases hl:bo t with
   |none=>rfl
   |some li=>
    exfalso;obtain ⟨k,hk,_⟩:=hf.sr.df t li hl;have dI:=cL hk;rcases hf.nQ t li hl with h|h
    · rw [hv.fresh j hj agq t h1 h2] at h;cases h
    rcases akt Xm with h'|h'
    · have:=hr.ik (show j+1<=i by omega) (by omega);omega
    have:=hr.ik (show i+1<=j by omega) (by omega)
    rw [qu] at this;omega
 · rw [hf.frame b (afj hb hv.size) fun t li k hl hs lZ Tn=>?_]
   · exact hv.frame b hb hh
   rcases hv.own t li k hl (ags t li hl k hs) lZ with h|⟨u,lu,ku,g1,g2,g3,g4⟩
   · omega
   exact hh u lu ku g1 g2 g3 (by omega)
 · rcases hf.dX b o hb with h|h|⟨t,li,k,h1,h2,h3,h4⟩
   · exact hv.dX b o h
   · exact .inr (.inl (ae9 hv.size h))
   rcases hv.own t li k h1 (ags t li h1 k h2) h3 with h|⟨u,lu,ku,g1,g2,g3,g4⟩
   · exact .inr (.inl (by omega))
   exact .inr (.inr ⟨u,lu,ku,g1,g2,g3,by omega⟩)
 · rcases hf.nQ t li hl with h|h
   · exact hv.nQ t li h
   exact .inr (ae9 (hr.ik (afa _) (by omega)) h)
 rcases hf.own t li k hl (Je t li hl k hc) hs with h|⟨u,lu,ku,h1,h2,h3,h4⟩
 · exact .inl (ae9 hv.size h)
 rcases hv.own u lu ku h1 (ags u lu h1 ku h2) h3 with h|⟨u',lu',ku',g1,g2,g3,g4⟩
 · exact .inl (by omega)
 exact .inr ⟨u',lu',ku',g1,g2,g3,by omega⟩
theorem Inv.step_skip (_hr:xT F rec ops S X) (ho:Ord ops S X xw) (hv:Inv ops S X im0 loc0 w0 nt done im loc a w) (hp:Place ops xw done i) {x:bU} (hx:ops[i]? =an9 x)
 (hX:X i=anp) (hS:S (i+1)={S i with env:=iJ x.dst .jB (S i).env}) (s8: ∀d,x.dst=an9 d->d<nt):Inv ops S X im0 loc0 w0 nt (plus done i) im loc (a.put x.dst Go.undef) w:=by
 have uu:=hp.lt;have hnW: ∀t,¬W X i t:=fun t h=>by unfold W at h;rw [hX] at h;exact h
 have qu:(S (i+1)).aE=(S i).aE:=by rw [hS]
 have Xn: ∀t k,Bo S X (an4 ops) done t k->Bo S X (an4 ops) (plus done i) t k:=by
  intro t k ⟨m,hm,h1,h2,h3⟩;refine ⟨m,hm,fun j hj PZ=>?_,h2,h3⟩
  have dW:j≠i:=fun e=>hnW t (e▸PZ)
  have:=h1 j hj PZ
  exact ⟨fun hd=>this.1 (hd.resolve_right dW),fun h=> .inl (this.2 h)⟩
 have Je: ∀t k,Bo S X (an4 ops) (plus done i) t k->Bo S X (an4 ops) done t k:=by
  intro t k ⟨m,hm,h1,h2,h3⟩;refine ⟨m,hm,fun j hj PZ=>?_,h2,h3⟩
  have dW:j≠i:=fun e=>hnW t (e▸PZ)
  have:=h1 j hj PZ
  exact ⟨fun hd=>this.1 (.inl hd),fun h=>(this.2 h).resolve_right dW⟩
 refine {
  tm:=Inv.T3 ho hp hx hv (.refl _) (.refl _) (by rw [hS]) .jB s8
  bG:=hv.bG
  tok:=fun t li hl=>let ⟨k,h1,h2⟩:=hv.tok t li hl;⟨k,Xn t k h1,h2⟩
  iK:=fun t u li lj k k' hl mA hc Cx hs uY hb=>hv.iK t u li lj k k' hl mA (Je t k hc) (Je u k' Cx) hs uY hb
  free:=fun t li k hl hc hs h0 sx=>hv.free t li k hl (Je t k hc) hs h0 fun j hj hd=>sx j hj (.inl hd)
  fresh:=fun j hj G8 t h1 h2=>hv.fresh j hj (fun h=>G8 (.inl h)) t h1 h2
  gG:=hv.gG
  dS:=hv.dS
  os:=hv.os
  tape:=hv.tape
  output:=hv.output
  size:=hv.size
  frame:=hv.frame
  dX:=hv.dX
  nQ:=hv.nQ
  own:=fun t li k hl hc hs=>hv.own t li k hl (Je t k hc) hs
  defers:=by rw [put_defers];exact hv.defers
  NB:=by rw [La];exact hv.NB}
theorem Inv.start {st:St} (h0:S 0=st) (kI:SR im0 loc0 st.aE st.fz w0) (her:ER im0 loc0 st.env a.tmps) (hd:a.defers=[]) (hn:a.tmps.size=nt) (hr:xT F rec ops S X):
 Inv ops S X im0 loc0 w0 nt (fun _=>False) im0 loc0 a w0:=by
 subst h0;have dI: ∀t li,loc0 t=an9 li->t<(S 0).aE.length:=fun t li hl=>let ⟨k,h,_⟩:=kI.df t li hl;cL h
 have cur: ∀t li k,loc0 t=an9 li->Bo S X (an4 ops) (fun _=>False) t k->(S 0).aE[t]? =an9 k:=by
  intro t li k hl ⟨m,hm,h1,h2,h3⟩;rw [<- hr.yU (afa m) hm (fun j _ hj hW=>(h1 j (by omega) hW).2 hj) (dI t li hl)]
  exact h3
 exact {
  tm:=fun t=>⟨0,afa _,fun j y _ _=>⟨fun h=>h.elim,fun h=>by omega⟩,her t⟩
  bG:=kI.bG
  tok:=fun t li hl=>by
   obtain ⟨k,h1,h2⟩:=kI.df t li hl;refine ⟨k,⟨0,afa _,fun j _ _=>⟨fun h=>h.elim,fun h=>by omega⟩,fun c hc h3 h4=>?_,h1⟩,h2⟩
   have:=dI t li hl
   have:=hr.ik (afa c) (by omega)
   omega
  iK:=fun t u li lj k k' hl mA hc Cx=>kI.iK t u li lj k k' hl mA (cur t li k hl hc) (cur u lj k' mA Cx)
  free:=fun t li k hl hc hs hz _=>kI.free t li k hl (cur t li k hl hc) hs (jF.2 hz)
  fresh:=fun j hj _ t h1 h2=>by
   cases hl:loc0 t with
   |none=>rfl
   |some li=>
    have:=dI t li hl
    have:=hr.ik (afa j) (by omega)
    omega
  gG:= .refl _
  dS:= .refl _
  os:=rfl
  tape:=rfl
  output:=rfl
  size:=If _
  frame:=fun _ _ _=>rfl
  dX:=fun _ _ h=> .inl h
  nQ:=fun _ _ h=> .inl h
  own:=fun t li k hl hc hs=> .inr ⟨t,li,k,hl,cur t li k hl hc,hs,rfl⟩
  defers:=hd
  NB:=hn}
structure Kept (im0:Im) (loc0:Loc) (jd:cH) (w0:World) (st:St) (im:Im) (loc:Loc) (w:World):Prop where
 sr:SR im loc st.aE st.fz w
 gG:nZ im0 im
 dS:mv loc0 loc
 os:w.os=w0.os
 tape:w.tape=w0.tape
 output:w.output=w0.output
 size:w0.heap.size<=w.heap.size
 frame: ∀b,b<w0.heap.size->(∀t li k,loc0 t=an9 li->jd[t]? =an9 k->k.bL=anq->li.df≠b)->w.heap[b]? =w0.heap[b]?
 dX: ∀b o,im b=an9 o->im0 b=an9 o\/w0.heap.size<=b\/ ∃t li k,loc0 t=an9 li/\jd[t]? =an9 k/\k.bL=anq/\li.df=b
 nQ: ∀t li,loc t=an9 li->loc0 t=an9 li\/an4 jd<=t
 own: ∀t li k,loc t=an9 li->st.aE[t]? =an9 k->k.bL=anq->(w0.heap.size<=li.df\/ ∃u lu ku,loc0 u=an9 lu/\jd[u]? =an9 ku/\ku.bL=anq/\lu.df=li.df)
theorem Inv.finish (hr : xT F rec ops S X) (hv : Inv ops S X im0 loc0 w0 nt done im loc a w) (hd : ∀ j, j < (an4 ops) -> done j) :
    Kept im0 loc0 (S 0).aE w0 (S (an4 ops)) im loc w /\ ER im loc (S (an4 ops)).env a.tmps /\ a.defers = [] /\ a.tmps.size = nt := by
  have cur : ∀ t k, Bo S X (an4 ops) done t k -> (S (an4 ops)).aE[t]? = an9 k := by
    intro t k ⟨m, hm, h1, h2, h3⟩
    rw [hr.yU hm (If _) (fun j h4 h5 hW => by have := (h1 j h5 hW).1 (hd j h5); omega) (cL h3)]
    exact h3
  have Xo : ∀ t li k, loc t = an9 li -> (S (an4 ops)).aE[t]? = an9 k -> Bo S X (an4 ops) done t k := by
    intro t li k hl hs
    obtain ⟨k1, hc, _⟩ := hv.tok t li hl
    have := cur t k1 hc
    rw [hs] at this; injection this with this; subst this; exact hc
  refine ⟨{
    sr := { bG := hv.bG
            df := fun t li hl => let ⟨k, h1, h2⟩ := hv.tok t li hl; ⟨k, cur t k h1, h2⟩
            iK := fun t u li lj k k' hl mA hs uY => hv.iK t u li lj k k' hl mA (Xo t li k hl hs) (Xo u lj k' mA uY)
            free := fun t li k hl hs lZ hz => by
              have hz := jF.1 hz
              refine hv.free t li k hl (Xo t li k hl hs) lZ (fun h => hz (hr.Ek (afa _) (If _) t h)) fun j hj _ hf => ?_
              exact hz (hr.Ek (show j + 1 <= (an4 ops) from hj) (If _) t (hr.afp hj hf)) }
    gG := hv.gG, dS := hv.dS, os := hv.os, tape := hv.tape, output := hv.output, size := hv.size, frame := hv.frame, dX := hv.dX, nQ := hv.nQ
    own := fun t li k hl hs => hv.own t li k hl (Xo t li k hl hs) }, fun t => ?_, hv.defers, hv.NB⟩
  obtain ⟨m, hm, h1, h2⟩ := hv.tm t
  rw [hr.NW hm (If _) fun j hj h3 h4 s8 => ?_]
  · exact h2
  have := (h1 j _ (v6 hj) s8).1 (hd j hj); omega
end
end Go.Vm
/- One operation of a region, in the model. -/
namespace Go.Vm
theorem CH {P:Program} {o:Oper} {a:Act} {w:World} {f:FuncId} {us:Array Value} {R:Value->World->Prop} {next:Act->World->Prop} {Q:Exit->Act->World->Prop}
 (h:(execOp a.eval o).run P w=(callFunc f us).run P w) (hc:uo P f us w R) (hR: ∀v w',R v w'->next (a.put o.dst v) w'):o.wp P a w next Q:=by
 unfold Oper.wp;rw [h];rcases hc with ⟨v,w',h1,h2⟩|⟨h1,h2⟩
 · rw [h1,Oper.upon_value];exact hR v w' h2
 rw [h1,Oper.upon_enter]
 refine h2.mono fun e w' ⟨v,he,hv⟩=>?_
 subst he;exact hR v w' hv
theorem NY {im:Im} {loc:Loc} {e:Env} {a:Act} (x:fE) (h: ∀t,x= .t t->VR im loc (lk t e) (a.tmps.getD t Go.undef)) (o:Operand) (hc:bB x o=anq):VR im loc (x.ev e) (a.eval o):=by
 unfold bB at hc;split at hc
 · rename_i n m
   have:n=m:=by simpa using hc
   subst this;exact h n rfl
 · exact IX hc
 · rename_i f g
   have:f=g:=by simpa using hc
   subst this;exact .eI f [] [] [] [] .nil .nil
 · exact .undef _
 cases hc
section
variable {P : Program} {F : mX} {rec : Task -> Option Out} {ops : List bU} {S : Nat -> St} {X : Nat -> Option XR} {xw : Nat -> Nat -> Prop} {im0 : Im} {loc0 : Loc} {w0 : World} {nt : Nat}
  {done : Nat -> Prop} {im : Im} {loc : Loc} {a : Act} {w : World} {i : Nat} {prims : FuncId -> Bool} {iR : Array Oper}
theorem VR.Xp {v:Value} (h:VR im loc .jB v):v=Go.undef:=by
 cases h;rfl
theorem vR {r:nU} {d:Option Nat} {st:St}:((XR.loc r).next d st).aE.length=an4 st.aE+(an4 r.news):=by simp [XR.next,rB,fI]
theorem HK {x:bU} {o:Oper} {e:Env} {b:Bool} (hc:u9 iR x.guard o.guard=anq) (hs: ∀s c,x.guard=an9 (s,c)->VR im loc (lk s e) (a.tmps.getD s Go.undef)) (h:wanted x.guard e=an9 b):
 Region.wanted o (yielded iR a.tmps)=b:=by
 unfold Region.wanted;cases hg:x.guard with
 |none=>
  rw [hg] at hc h;cases ho:o.guard with
  |none=>simp [wanted] at h;subst h;rfl
  |some q=>rw [ho] at hc;simp [u9] at hc
 |some q=>
  obtain ⟨s,c⟩:=q;rw [hg] at hc h;cases ho:o.guard with
  |none=>rw [ho] at hc;simp [u9] at hc
  |some q'=>
   obtain ⟨j,c'⟩:=q';rw [ho] at hc;simp only [u9,ut,beq_iff_eq] at hc;obtain ⟨rfl,hd⟩:=hc;have hv:=hs s c hg;dsimp only;unfold yielded;rw [hd];simp only [wanted] at h;simp only [Option.bind_some];split at h
   · rename_i b' hl
     rw [hl] at hv
     have:=hv.jE
     have ht:a.tmps[s]? =an9 (.bool b'):=by
      simp only [af5] at this;cases hq:a.tmps[s]? with
      |none=>rw [hq] at this;simp [Go.undef] at this
      |some u=>rw [hq] at this;exact congrArg an9 this
     rw [ht];rw [ww] at h;rw [<- h];cases b'<;>cases c<;>rfl
   · rename_i hl
     rw [hl] at hv
     have:a.tmps.getD s Go.undef=Go.undef:=hv.Xp
     injection h with h;subst h;have ht: ∀b',a.tmps[s]?≠an9 (.bool b'):=by
      intro b' hq;simp only [af5,hq,Option.getD_some,Go.undef] at this;cases this
     split
     · rename_i b' hq
       exact absurd hq (ht b')
     rfl
   cases h
structure Jf (P:Program) (F:mX) (rec:Task->Option Out):Prop where
 func:CD P rec
 kf:yT P F
theorem Inv.wpOp (hE:Jf P F rec) (hr:xT F rec ops S X) (ho:Ord ops S X xw) (hv:Inv ops S X im0 loc0 w0 nt done im loc a w) (hp:Place ops xw done i) {x:bU} {o:Oper} (hx:ops[i]? =an9 x) (hmo:iR[i]? =an9 o)
 (hc:rF P prims nt iR x o=anq) {Q:Exit->Act->World->Prop} {K:Act->World->Prop}
 (hK: ∀eA bo a' w',Inv ops S X im0 loc0 w0 nt (plus done i) eA bo a' w'->K a' w'):Go.wpOp P iR Q i K a w:=by
 unfold rF at hc;simp only [ut,beq_iff_eq] at hc;obtain ⟨⟨⟨s8,hnt⟩,hg⟩,fB⟩:=hc;have hd: ∀d,x.dst=an9 d->d<nt:=by
  intro d h;rw [h] at hnt;simpa using hnt
 have afq: ∀t,t∈aA x->VR im loc (lk t (S i).env) (a.tmps.getD t Go.undef):=fun t ht=>hv.slot hr ho hp hx ht
 have RP: ∀y∈x.op.fo,∀o',bB y o'=anq->VR im loc (y.ev (S i).env) (a.eval o'):=by
  intro y hy o' hco;refine NY y (fun t ht=>afq t ?_) o' hco
  subst ht;exact agM _ (List.mem_filterMap.2 ⟨.t t,hy,rfl⟩)
 have hgs: ∀s c,x.guard=an9 (s,c)->VR im loc (lk s (S i).env) (a.tmps.getD s Go.undef):=by
  intro s c h;refine afq s (agH _ ?_);rw [h];simp
 unfold Go.wpOp;simp only [hmo];rcases hr.steps i x hx with ⟨hw,xr,gL,Aj,hX,hS⟩|⟨hw,hX,hS⟩
 · rw [HK hg hgs hw]
   simp only [if_true];left;have E': ∀{own:Bool} {f:FuncId} {args:List PV} {us:List Value} {r:nU},xr= .loc r->dw F rec own f args (S i).aE (S i).fz=an9 r->eV im loc args us->
    (execOp a.eval o).run P w=(callFunc f ⟨us⟩).run P w->o.wp P a w K Q:=by
    intro own f args us r hxr hcp xA cu;subst hxr;have hk:=hv.known hr ho hp hX Aj (by rw [hS];exact vR)
    refine CH cu (I' hE.func hE.kf hcp xA hk) fun v' w' ⟨eA,bo,oU,xu⟩=>?_
    exact hK _ _ _ _ (s8▸hv.Bp hr ho hp hx hX Aj hS oU xu hd)
   have Lb: ∀{f:FuncId} {args:List PV} {us:List Value},fV rec f args (S i).aE (S i).fz=an9 xr->eV im loc args us->
    (execOp a.eval o).run P w=(callFunc f ⟨us⟩).run P w->o.wp P a w K Q:=by
    intro f args us mZ xA cu;unfold fV at mZ;split at mZ
    · rename_i v s z EW
      split at mZ
      · injection mZ with mZ;subst mZ
        refine CH cu (hE.func f args _ _ v s z EW im loc w us (hv.sr hr ho hp hX) xA) fun v' w' ⟨eA,bo,hf⟩=>?_
        exact hK _ _ _ _ (s8▸hv.T4 hr ho hp hx hX hS hf hd)
      cases mZ
    cases mZ
   have agu: ∀{r:nU},xr= .loc r->bE (S i).env (S i).aE (S i).fz x.op=an9 r->o.wp P a w K Q:=by
    intro r hxr he;subst hxr;have hk:=hv.known hr ho hp hX Aj (by rw [hS];exact vR)
    obtain ⟨nx,w',bo,cu,hnx,xu⟩:=TJ fB RP he hk;unfold Oper.wp;rw [cu];rcases hnx with ⟨rfl,hu⟩|⟨v,rfl,oU⟩
    · rw [Oper.upon_skip]
      exact hK _ _ _ _ (s8▸hv.Bp hr ho hp hx hX Aj hS (by rw [hu];exact .undef _) xu hd)
    rw [Oper.upon_value]
    exact hK _ _ _ _ (s8▸hv.Bp hr ho hp hx hX Aj hS oU xu hd)
   cases WU:x.op with
   |call m f args=>
    rw [WU] at gL fB RP;have T5: ∃as WV,o.op= .call {callee:= .value (.func f),args:=as,argTypes:=WV}/\eW args as.toList=anq:=by
     cases To:o.op with
     |call c=>
      obtain ⟨callee,as,WV⟩:=c;rw [To] at fB;cases callee with
      |value g=>
       cases g with
       |func g=>
        simp only [xg,ut,beq_iff_eq] at fB;obtain ⟨⟨rfl,_⟩,h⟩:=fB;exact ⟨as,WV,rfl,h⟩
       |_=>simp [xg] at fB
      |_=>simp [xg] at fB
     |_=>rw [To] at fB;simp [xg] at fB
    obtain ⟨as,WV,To,hco⟩:=T5;have u5:eV im loc (EE (S i).env args) (as.toList.map a.eval):=nu (fun y hy=>RP y (by simpa [k7.fo] using hy)) hco
    have cu:(execOp a.eval o).run P w=(callFunc f ⟨as.toList.map a.eval⟩).run P w:=by
     have:(⟨as.toList.map a.eval⟩:Array Value)=as.map a.eval:=by apply amY;simp
     rw [this];simp [execOp,To,resolve,Act.eval,Deferred.ofValue,invoke]
    cases m with
    |WN=>
     simp only [xe,F0s] at gL;obtain ⟨r,P1,P2⟩:=gL;exact E' P2.symm P1 u5 cu
    |own=>
     simp only [xe,F0s] at gL;obtain ⟨r,P1,P2⟩:=gL;exact E' P2.symm P1 u5 cu
    |shr=>exact Lb gL u5 cu
    |fp=>
     simp only [xe,F0s] at gL;obtain ⟨r,P1,P2⟩:=gL;subst P2;have hk:=hv.known hr ho hp hX Aj (by rw [hS];exact vR)
     refine CH cu (NT hE.func P1 u5 hk) fun v' w' ⟨eA,bo,oU,xu⟩=>?_
     exact hK _ _ _ _ (s8▸hv.Bp hr ho hp hx hX Aj hS oU xu hd)
   |xb y args=>
    rw [WU] at gL fB RP;have T5: ∃t as WV,o.op= .call {callee:= .value (.tmp t),args:=as,argTypes:=WV}/\bB y (.tmp t)=anq/\eW args as.toList=anq:=by
     cases To:o.op with
     |call c=>
      obtain ⟨callee,as,WV⟩:=c;rw [To] at fB;cases callee with
      |value g=>
       cases g with
       |tmp g=>
        simp only [xg,ut] at fB;exact ⟨g,as,WV,rfl,fB.1,fB.2⟩
       |_=>simp [xg] at fB
      |_=>simp [xg] at fB
     |_=>rw [To] at fB;simp [xg] at fB
    obtain ⟨t,as,WV,To,hcy,hco⟩:=T5;have u5:eV im loc (EE (S i).env args) (as.toList.map a.eval):=nu (fun y hy=>RP y (by simp [k7.fo,hy])) hco
    have hy:=RP y (by simp [k7.fo]) (.tmp t) hcy
    simp only [xe] at gL;split at gL
    · rename_i f p q T6
      rw [T6] at hy;generalize hgv:a.eval (.tmp t)=gv at hy;cases hy with
      |eI _ _ _ us vs h1 h2=>
      have lf:=(h1.append u5).append h2;have cu:(execOp a.eval o).run P w=(callFunc f ⟨us++as.toList.map a.eval++vs⟩).run P w:=by
       have:(⟨us++as.toList.map a.eval++vs⟩:Array Value)=(⟨us⟩++as.map a.eval)++⟨vs⟩:=by apply amY;simp
       rw [this];simp [execOp,To,resolve,hgv,Deferred.ofValue,invoke]
      split at gL
      · exact Lb gL lf cu
      rw [F0s] at gL
      obtain ⟨r,P1,P2⟩:=gL;exact E' P2.symm P1 lf cu
    cases gL
   |_=>
    rw [WU] at gL;simp only [xe,F0s] at gL;obtain ⟨r,P1,P2⟩:=gL;exact agu P2.symm (by rw [WU];exact P1)
 rw [HK hg hgs hw]
 simp only [PP,if_false];exact hK _ _ _ _ (s8▸hv.step_skip hr ho hp hx hX hS hd)
end
end Go.Vm
/- A region, in the order of the text or in a drawn one. -/
namespace Go.Vm
def vd (P:Program) (prims:FuncId->Bool) (nt:Nat) (iR:Array Oper):List bU->List Oper->Bool
 | [],[]=>anq
 |x::xs,o::os=>rF P prims nt iR x o&&vd P prims nt iR xs os
 |_,_=>anr
theorem Bq {P:Program} {prims:FuncId->Bool} {nt:Nat} {iR:Array Oper}: ∀{xs:List bU} {os:List Oper},vd P prims nt iR xs os=anq->
 (an4 xs)=an4 os/\ ∀(i:Nat) (x:bU) (o:Oper),xs[i]? =an9 x->os[i]? =an9 o->rF P prims nt iR x o=anq
 | [],[],_=>⟨rfl,fun i x o h=>by simp at h⟩
 |x::xs,o::os,h=>by
  simp only [vd,ut] at h;obtain ⟨h1,h2⟩:=Bq h.2;refine ⟨by simp [h1],fun i y p hy hp=>?_⟩
  cases i with
  |zero=>simp at hy hp;subst hy hp;exact h.1
  |succ i=>exact h2 i y p (by simpa using hy) (by simpa using hp)
 | [],_::_,h=>by simp [vd] at h
 |_::_,[],h=>by simp [vd] at h
def bit (m i:Nat):Bool:=Nat.testBit m i
def ny (jq:List Nat) (j:Nat):List Edge->Option Nat
 | []=>an9 0
 |e::es=>match ny jq j es with
  |some m=>if Region.binds .any e then (if afF e.on j then an9 (m|||((jq.getD e.on 0)|||(1<<<e.on))) else anp) else an9 m
  |none=>anp
def ve (jq:List Nat):Nat->List Nat->List Oper->Bool
 |_,[],[]=>anq
 |j,m::ms,o::os=>(match ny jq j o.after.toList with|some m'=>m==m'|none=>anr)&&ve jq (j+1) ms os
 |_,_,_=>anr
def vf (i : Nat) (x : bU) (ux : List Nat) : List bU -> List Nat -> Bool
  | [], _ => anq
  | y :: ys, m :: ms => (bit m i || ((match x.dst with
      | some d => !has (aA y) d && (match y.dst with | some d' => !(AC d d') | none => anq)
      | none => anq) && (match y.dst with | some d => !has ux d | none => anq))) && vf i x ux ys ms
  | _ :: _, [] => anr
def vg:Nat->List bU->List Nat->Bool
 |_,[],_=>anq
 |i,x::xs,_::ms=>vf i x (aA x) xs ms&&vg (i+1) xs ms
 |_,_::_,[]=>anr
def CI (P:Program) (prims:FuncId->Bool) (nt:Nat) (draw:Option (List Nat)) (agv:List bU) (iR:Array Oper) (flag:Bool):Bool:=
 vd P prims nt iR agv iR.toList&&match draw with
 |none=>!flag
 |some bf=>flag&&AC (an4 bf) (an4 agv)&&ve bf 0 bf iR.toList&&vg 0 agv bf
section
variable {P : Program} {F : mX} {rec : Task -> Option Out} {ops : List bU} {S : Nat -> St} {X : Nat -> Option XR} {xw : Nat -> Nat -> Prop} {im0 : Im} {loc0 : Loc} {w0 : World} {nt : Nat}
  {done : Nat -> Prop} {im : Im} {loc : Loc} {a : Act} {w : World} {i : Nat} {prims : FuncId -> Bool} {iR : Array Oper}
theorem Ord.text:Ord ops S X (· < ·) where
 E7:=fun _ _ _ _ _ h _ _ _ _=>h
 TZ:=fun _ _ _ _ _ h _ _ _ _=>h
 NX:=fun _ _ _ h _ _ _=>h
 agm:=fun _ _ _ h _ _ _=>h
 agn:=fun _ _ _ h _ _ _ _ _ _=>h
 KI:=fun _ _ h _ _=>h
 cl:=fun _ _ _ _ _=> .inr fun _ h _=>h
theorem Fa (hE:Jf P F rec) (hr:xT F rec ops S X) (hc: ∀(i:Nat) (x:bU) (o:Oper),ops[i]? =an9 x->iR[i]? =an9 o->rF P prims nt iR x o=anq) (cT:(an4 ops)=iR.size)
 {Q:Exit->Act->World->Prop} (hQ: ∀im loc a w,Inv ops S X im0 loc0 w0 nt (fun i=>i<an4 ops) im loc a w->Q .normal a w):
 ∀(d n:Nat) (im:Im) (loc:Loc) (a:Act) (w:World),n+d=an4 ops->Inv ops S X im0 loc0 w0 nt (fun i=>i<n) im loc a w->wpOps P iR Q (List.range' n d) a w
 |0,n,im,loc,a,w,hn,hv=>by
  have:n=(an4 ops):=by omega
  subst this;exact hQ im loc a w hv
 |d+1,n,im,loc,a,w,hn,hv=>by
  rw [List.range'_succ,wpOps_cons];have hx:=v6 (show n<(an4 ops) by omega)
  have ho:=aga (show n<iR.size by omega)
  refine Inv.wpOp hE hr Ord.text hv {lt:=by omega,nd:=by omega,pre:=fun j _ h=>h,eI:=fun k _ h1 j _ h2=>by omega} hx ho (hc n _ _ hx ho) fun eA bo a' w' h'=>?_
  refine Fa hE hr hc cT hQ d (n+1) eA bo a' w' (by omega) ?_
  have e:plus (fun i=>i<n) n=fun i=>i<n+1:=by
   funext j;unfold plus;apply propext;omega
  rw [e] at h';exact h'
def Xq (jq:List Nat) (i j:Nat):Prop:=bit (jq.getD j 0) i=anq
theorem vS {jq:List Nat} {j:Nat}: ∀{es:List Edge} {m:Nat},ny jq j es=an9 m->(∀e∈es,Region.binds .any e=anq->e.on<j)/\
 ∀i,bit m i=anq-> ∃e∈es,Region.binds .any e=anq/\(e.on=i\/bit (jq.getD e.on 0) i=anq)
 | [],m,h=>by
  simp only [ny,ww] at h;subst h;exact ⟨fun e h=>(by cases h),fun i h=>by simp [bit] at h⟩
 |e::es,m,h=>by
  simp only [ny] at h;split at h
  · rename_i m' CG
    obtain ⟨h1,h2⟩:=vS CG;split at h
    · rename_i hb
      split at h
      · rename_i dI
        injection h with h;subst h;refine ⟨fun e' Cj A6=>?_,fun i hi=>?_⟩
        · rcases afE.1 Cj with rfl|Cj
          · simpa using dI
          exact h1 e' Cj A6
        simp only [bit,Nat.testBit_or,agG] at hi
        rcases hi with hi|hi|hi
        · obtain ⟨e',Cj,h3⟩:=h2 i hi
          exact ⟨e',afI _ Cj,h3⟩
        · exact ⟨e,by simp,hb,.inr hi⟩
        refine ⟨e,by simp,hb,.inl ?_⟩
        rw [Nat.one_shiftLeft,Nat.testBit_two_pow] at hi;simpa using hi
      cases h
    rename_i hb
    injection h with h;subst h;refine ⟨fun e' Cj A6=>?_,fun i hi=>?_⟩
    · rcases afE.1 Cj with rfl|Cj
      · exact absurd A6 hb
      exact h1 e' Cj A6
    obtain ⟨e',Cj,h3⟩:=h2 i hi
    exact ⟨e',afI _ Cj,h3⟩
  cases h
theorem Dt {jq:List Nat}: ∀{j:Nat} {ms:List Nat} {os:List Oper},ve jq j ms os=anq->an4 ms=an4 os/\
 ∀(k:Nat) (m:Nat) (o:Oper),ms[k]? =an9 m->os[k]? =an9 o->ny jq (j+k) o.after.toList=an9 m
 |j,[],[],_=>⟨rfl,fun k m o h=>by simp at h⟩
 |j,m::ms,o::os,h=>by
  simp only [ve,ut] at h;obtain ⟨h1,h2⟩:=h;obtain ⟨h3,h4⟩:=Dt h2;refine ⟨by simp [h3],fun k m' o' hm ho=>?_⟩
  cases k with
  |zero=>
   simp at hm ho;subst hm ho;split at h1
   · rename_i m2 TK
     have:m=m2:=by simpa using h1
     subst this;exact TK
   cases h1
  |succ k=>
   have:=h4 k m' o' (by simpa using hm) (by simpa using ho)
   rw [show j+(k+1)=j+1+k by omega];exact this
 |j,[],_::_,h=>by simp [ve] at h
 |j,_::_,[],h=>by simp [ve] at h
theorem Br {i:Nat} {x:bU} {ux:List Nat}: ∀{ys:List bU} {ms:List Nat},vf i x ux ys ms=anq-> ∀(k:Nat) (y:bU),ys[k]? =an9 y->
 bit (ms.getD k 0) i=anq\/((∀d,x.dst=an9 d->d∉aA y/\y.dst≠an9 d)/\ ∀d,y.dst=an9 d->d∉ux)
 | [],_,_,k,y,h=>by simp at h
 |z::ys,[],h,k,y,hy=>by simp [vf] at h
 |z::ys,m::ms,h,k,y,hy=>by
  simp only [vf,ut,agG] at h;obtain ⟨h1,h2⟩:=h;cases k with
  |succ k=>simpa using Br h2 k y (by simpa using hy)
  |zero=>
   simp at hy;subst hy;rcases h1 with h1|⟨h1,h3⟩
   · exact .inl (by simpa using h1)
   refine .inr ⟨fun d hd=>?_,fun d hd=>?_⟩
   · rw [hd] at h1
     simp only [ut,UV] at h1;refine ⟨jF.1 h1.1,fun hz=>?_⟩
     rw [hz] at h1;simp at h1
   rw [hd] at h3
   simp only [UV] at h3;exact jF.1 h3
theorem xV: ∀{i0:Nat} {xs:List bU} {ms:List Nat},vg i0 xs ms=anq-> ∀(i j:Nat) (x y:bU),i<j->xs[i]? =an9 x->xs[j]? =an9 y->
 bit (ms.getD j 0) (i0+i)=anq\/((∀d,x.dst=an9 d->d∉aA y/\y.dst≠an9 d)/\ ∀d,y.dst=an9 d->d∉aA x)
 |i0,[],_,_,i,j,x,y,_,hx,_=>by simp at hx
 |i0,z::xs,[],h,i,j,x,y,_,hx,_=>by simp [vg] at h
 |i0,z::xs,m::ms,h,i,j,x,y,lg,hx,hy=>by
  simp only [vg,ut] at h;obtain ⟨h1,h2⟩:=h;cases j with
  |zero=>omega
  |succ j=>
   cases i with
   |zero=>
    simp at hx;subst hx;simpa using Br h1 j y (by simpa using hy)
   |succ i=>
    have:=xV h2 i j x y (by omega) (by simpa using hx) (by simpa using hy)
    rw [show i0+(i+1)=i0+1+i by omega]
    simpa using this
theorem HL {i:Nat} {t:Tr}: ∀{l:List (Tr×Nat)},IS i t l=anq-> ∀(k:Nat) (b:Tr) (m:Nat),l[k]? =an9 (b,m)->t.uR b=anq->bit m i=anq
 | [],_,k,b,m,h,_=>by simp at h
 |(b',m')::r,h,k,b,m,hk,hc=>by
  simp only [IS,ut,agG,UV] at h;cases k with
  |zero=>
   simp at hk;obtain ⟨rfl,rfl⟩:=hk;rcases h.1 with h1|h1
   · rw [hc] at h1;cases h1
   exact h1
  |succ k=>exact HL h.2 k b m (by simpa using hk) hc
theorem Fb: ∀{i0:Nat} {l:List (Tr×Nat)},rC i0 l=anq->(∀(i:Nat) (t:Tr) (m:Nat),l[i]? =an9 (t,m)->t.cl=anq)/\
 ∀(i j:Nat) (t b:Tr) (m m':Nat),i<j->l[i]? =an9 (t,m)->l[j]? =an9 (b,m')->t.uR b=anq->bit m' (i0+i)=anq
 |_,[],_=>⟨fun i t m h=>by simp at h,fun i j t b m m' _ h=>by simp at h⟩
 |i0,(t0,m0)::r,h=>by
  simp only [rC,ut] at h;obtain ⟨⟨h1,h2⟩,h3⟩:=h;obtain ⟨h4,h5⟩:=Fb h3;refine ⟨fun i t m hi=>?_,fun i j t b m m' lg hi hj hc=>?_⟩
  · cases i with
    |zero=>simp at hi;obtain ⟨rfl,rfl⟩:=hi;exact h1
    |succ i=>exact h4 i t m (by simpa using hi)
  cases j with
  |zero=>omega
  |succ j=>
   cases i with
   |zero=>
    simp at hi;obtain ⟨rfl,rfl⟩:=hi;exact HL h2 j b m' (by simpa using hj) hc
   |succ i=>
    rw [show i0+(i+1)=i0+1+i by omega]
    exact h5 i j t b m m' (by omega) (by simpa using hi) (by simpa using hj) hc
theorem Fc {l m:List Nat} {t:Nat} (h1:t∈l) (h2:t∈m):meets l m=anq:=by
 unfold meets;rw [am9];exact ⟨t,h1,pO.2 h2⟩
theorem Ord.drawn (hr : xT F rec ops S X) {jq : List Nat} (Kz : (an4 jq) = (an4 ops)) (hs : vg 0 ops jq = anq) (ho : rC 0 ((zL S X (an4 ops)).zip jq) = anq) : Ord ops S X (Xq jq) := by
  obtain ⟨A7, hcz⟩ := Fb ho
  have D1 : ∀ i, i < (an4 ops) -> ((zL S X (an4 ops)).zip jq)[i]? = an9 (zC (X i) (S i), jq.getD i 0) := by
    intro i hi
    rw [List.getElem?_zip_eq_some]
    refine ⟨?_, ?_⟩
    · unfold zL; simp [hi]
    rw [afU, v6 (by omega)]; rfl
  have uR : ∀ i j, i < j -> j < (an4 ops) -> (zC (X i) (S i)).uR (zC (X j) (S j)) = anq -> Xq jq i j := by
    intro i j lg hj hc
    have := hcz i j _ _ _ _ lg (D1 i (by omega)) (D1 j hj) hc
    unfold Xq; simpa using this
  have tch : ∀ j, gT X j -> (zC (X j) (S j)).gT = anq := by
    intro j h
    unfold gT at h
    unfold zC
    cases hX : X j with
    | none => rw [hX] at h; exact h.elim
    | some x =>
      rw [hX] at h
      cases x with
      | shr v s z => rfl
      | loc r =>
        simp only [XR.tr, Tr.gT, Bool.or_false]
        rcases h with h | h | h | h
        · cases Hc : r.rd with
          | nil => exact absurd Hc h
          | cons _ _ => simp
        · cases Hc : r.fr with
          | nil => exact absurd Hc h
          | cons _ _ => simp
        · cases Hc : r.wr with
          | nil => exact absurd Hc h
          | cons _ _ => simp
        cases Hc : r.news with
        | nil => exact absurd Hc h
        | cons _ _ => simp
  have brr : ∀ j, ru X j -> (zC (X j) (S j)).KI = anq := by
    rintro j ⟨v, s, z, h⟩; rw [h]; rfl
  have tW : ∀ j t, W X j t -> gT X j := fun j t h => vQ h
  have tA : ∀ j t, A X j t -> gT X j := by
    intro j t h
    unfold A at h; unfold gT
    cases hX : X j with
    | none => rw [hX] at h; exact h.elim
    | some x =>
      rw [hX] at h
      cases x with
      | shr v s z => exact h.elim
      | loc r =>
        rcases h with h | h
        · exact .inl (by intro e; rw [e] at h; cases h)
        exact .inr (.inl (by intro e; rw [e] at h; cases h))
  have KI : ∀ i j, i < j -> j < (an4 ops) -> (ru X i /\ gT X j \/ gT X i /\ ru X j) -> Xq jq i j := by
    intro i j lg hj h
    refine uR i j lg hj ?_
    unfold Tr.uR
    rcases h with ⟨h1, h2⟩ | ⟨h1, h2⟩
    · rw [brr i h1, tch j h2]; simp
    rw [brr j h2, tch i h1]; simp
  have wrT : ∀ j t, W X j t -> ¬ ru X j -> t ∈ (zC (X j) (S j)).wr := by
    intro j t h hn
    unfold W at h
    cases hX : X j with
    | none => rw [hX] at h; exact h.elim
    | some x =>
      rw [hX] at h
      cases x with
      | shr v s z => exact absurd ⟨v, s, z, hX⟩ hn
      | loc r =>
        obtain ⟨k, hk⟩ := h
        exact List.mem_map.2 ⟨(t, k), hk, rfl⟩
  have rdT : ∀ j t, A X j t -> t ∈ (zC (X j) (S j)).rd := by
    intro j t h
    unfold A at h
    cases hX : X j with
    | none => rw [hX] at h; exact h.elim
    | some x =>
      rw [hX] at h
      cases x with
      | shr v s z => exact h.elim
      | loc r => exact af2.2 h
  exact {
    E7 := fun i j t x y lg hx hy hd hu => by
      rcases xV hs i j x y lg hx hy with h | ⟨h, _⟩
      · unfold Xq; simpa using h
      rcases hu with hu | hu
      · exact absurd hu (h t hd).1
      exact absurd hu (h t hd).2
    TZ := fun i j t x y lg hx hy hd hu => by
      rcases xV hs i j x y lg hx hy with h | ⟨_, h⟩
      · unfold Xq; simpa using h
      exact absurd hu (h t hd)
    NX := fun i j t lg hj hW hAW => by
      by_cases hi : ru X i
      · exact KI i j lg hj (.inl ⟨hi, hAW.elim (tA j t) (tW j t)⟩)
      by_cases RN : ru X j
      · exact KI i j lg hj (.inr ⟨tW i t hW, RN⟩)
      refine uR i j lg hj ?_
      unfold Tr.uR
      rcases hAW with h | h
      · rw [Fc (wrT i t hW hi) (rdT j t h)]; simp
      rw [Fc (wrT i t hW hi) (wrT j t h RN)]; simp
    agm := fun i j t lg hj hA hW => by
      by_cases RN : ru X j
      · exact KI i j lg hj (.inr ⟨tA i t hA, RN⟩)
      refine uR i j lg hj ?_
      unfold Tr.uR
      rw [Fc (rdT i t hA) (wrT j t hW RN)]; simp
    agn := fun i j t lg hj Xj h1 h2 RN hW => by
      refine uR i j lg hj ?_
      unfold Tr.uR
      have : ((zC (X j) (S j)).wr.any fun t => af6 (zC (X i) (S i)).lo t && afF t (zC (X i) (S i)).hi) = anq := by
        rw [am9]
        refine ⟨t, wrT j t hW RN, ?_⟩
        rcases hr.steps i _ (v6 (show i < (an4 ops) by omega)) with ⟨_, x, hx, _, hX, hn⟩ | ⟨_, hX, hn⟩
        · cases x with
          | shr v s z => exact absurd ⟨v, s, z, hX⟩ Xj
          | loc r =>
            rw [hn, vR] at h2
            rw [hX]
            simp only [zC, XR.tr, ut, afo]
            exact ⟨h1, by simpa using h2⟩
        rw [hn] at h2; dsimp only at h2; omega
      rw [this]; simp
    KI := KI
    cl := fun i t hi Xj hAW => by
      left
      have hc := A7 i _ _ (D1 i hi)
      cases hX : X i with
      | none => rcases hAW with h | h
                · unfold A at h; rw [hX] at h; exact h.elim
                unfold W at h; rw [hX] at h; exact h.elim
      | some x =>
        cases x with
        | shr v s z => exact absurd ⟨v, s, z, hX⟩ Xj
        | loc r =>
          have hb : ∀ u v : Nat, afF u v = anq -> u < v := fun u v h => by simpa using h
          rw [hX] at hc
          simp only [zC, XR.tr, ut, af7] at hc
          rcases hAW with h | h
          · unfold A at h; rw [hX] at h
            exact hb _ _ (hc.1 t (af2.2 h))
          unfold W at h; rw [hX] at h
          obtain ⟨k, hk⟩ := h
          exact hb _ _ (hc.2 (t, k) hk) }
end
end Go.Vm
/- A region: the theorem. -/
namespace Go.Vm
section
variable {P : Program} {F : mX} {rec : Task -> Option Out} {ops : List bU} {S : Nat -> St} {X : Nat -> Option XR} {im0 : Im} {loc0 : Loc} {w0 : World} {nt : Nat}
  {im : Im} {loc : Loc} {a : Act} {w : World} {i : Nat} {prims : FuncId -> Bool} {iR : Array Oper} {jq : List Nat}
def kq (l:Array Bool) (i:Nat):Prop:=l.getD i anr=anq
theorem Lc (hE:Jf P F rec) (hr:xT F rec ops S X) (ho:Ord ops S X (Xq jq)) (hc: ∀(i:Nat) (x:bU) (o:Oper),ops[i]? =an9 x->iR[i]? =an9 o->rF P prims nt iR x o=anq) (cT:(an4 ops)=iR.size)
 (hm: ∀(k:Nat) (o:Oper),iR[k]? =an9 o->ny jq k o.after.toList=an9 (jq.getD k 0))
 {Q:Exit->Act->World->Prop} (hQ: ∀im loc a w (done:Nat->Prop),(∀i,i<an4 ops->done i)->Inv ops S X im0 loc0 w0 nt done im loc a w->Q .normal a w):
 ∀(Aw:Nat) (l:Array Bool) (im:Im) (loc:Loc) (a:Act) (w:World),l.size=an4 ops->Aw+l.toList.count anq=an4 ops->(∀k j,kq l k->Xq jq j k->kq l j)->
  Inv ops S X im0 loc0 w0 nt (kq l) im loc a w->wpAny P .any iR Q Aw l a w:=by
 have full: ∀l:Array Bool,l.size=an4 ops->Region.ready .any iR l=[]-> ∀i,i<an4 ops->kq l i:=by
  intro l hl Hh i
  induction i using Nat.strongRecOn with
  |_ i ih=>
   intro hi
   by_cases h:kq l i
   · exact h
   exfalso
   have zB:i∈Region.ready .any iR l:=by
    rw [mem_ready];have ho:=aga (show i<iR.size by omega)
    refine ⟨?_,_,ho,fun e he hb=>?_⟩
    · unfold kq at h
      have dI:i<l.size:=by omega
      simp [dI] at h ⊢;exact h
    have:=(vS (hm i _ ho)).1 e (by simpa using he) hb
    exact ih e.on this (by omega)
   rw [Hh] at zB;cases zB
 intro Aw
 induction Aw with
 |zero=>
  intro l im loc a w hl aoz Xr hv;have rE: ∀b∈l.toList,anq=b:=by
   have:l.toList.count anq=(an4 l.toList):=by simp only [Array.length_toList];omega
   exact List.count_eq_length.1 this
  have P3: ∀i,i<an4 ops->kq l i:=by
   intro i hi;have dI:i<l.size:=by omega
   have:=rE (l[i]) (by simp)
   unfold kq;simp [dI,<- this]
  refine ⟨?_,hQ im loc a w _ P3 hv⟩;cases Hc:Region.ready .any iR l with
  |nil=>rfl
  |cons x xs=>
   exfalso;have zB:x∈Region.ready .any iR l:=by rw [Hc];simp
   obtain ⟨h0,o,hox,_⟩:=mem_ready.1 zB;have dI:=(NE.1 hox).1
   have:=P3 x (by omega)
   unfold kq at this;have Ld:x<l.size:=by omega
   simp [Ld] at this h0;rw [this] at h0;cases h0
 |succ Aw ih=>
  intro l im loc a w hl aoz Xr hv;refine ⟨fun Hh=>hQ im loc a w _ (full l hl Hh) hv,fun i hi=>?_⟩
  obtain ⟨h0,o,hox,rE⟩:=mem_ready.1 hi;have dI:=(NE.1 hox).1;have Ld:i<l.size:=by omega
  have hx:=v6 (show i<(an4 ops) by omega)
  have aoA: ∀j,Xq jq j i->kq l j:=by
   intro j hj;obtain ⟨e,he,hb,h⟩:=(vS (hm i o hox)).2 j hj;have ly:kq l e.on:=rE e (by simpa using he) hb
   rcases h with rfl|h
   · exact ly
   exact Xr _ _ ly h
  have G8: ¬kq l i:=by
   unfold kq;simp [Ld] at h0 ⊢;exact h0
  refine Inv.wpOp hE hr ho hv {lt:=by omega,nd:=G8,pre:=fun j _ h=>aoA j h,eI:=fun k _ h1 j _ h2=>Xr k j h1 h2} hx hox (hc i _ _ hx hox) fun eA bo a' w' h'=>?_
  have e:plus (kq l) i=kq (l.setIfInBounds i anq):=by
   funext j
   apply propext;unfold plus kq
   by_cases lg:i=j
   · subst lg;simp [Ld]
   simp only [getD_set_ne anr lg]
   exact ⟨fun h=>h.elim id fun h=>absurd h.symm lg,.inl⟩
  rw [e] at h';refine ih _ eA bo a' w' (by simpa using hl) ?_ ?_ h'
  · rw [Array.toList_setIfInBounds,List.count_set (by simpa using Ld)]
    have:l.toList[i]=anr:=by simp [Ld] at h0;simpa using h0
    rw [this];simp only [Array.count_toList] at aoz ⊢;simp;omega
  intro k j hk hj
  rw [<- e] at hk ⊢;rcases hk with hk|rfl
  · exact .inl (Xr k j hk hj)
  exact .inl (aoA j hj)
theorem ER.fU {st:Env} {fU:List Nat} (h:ER im loc st a.tmps):ER im loc (fU.map fun s=>(s,lk s st)) a.tmps:=by
 intro t
 have:lk t (fU.map fun s=>(s,lk s st))=lk t st\/lk t (fU.map fun s=>(s,lk s st))= .undef:=by
  induction fU with
  |nil=>exact .inr rfl
  |cons s r ih=>
   simp only [List.map_cons,rD];split
   · rename_i e;subst e;exact .inl rfl
   exact ih
 rcases this with h'|h'
 · rw [h'];exact h t
 rw [h'];exact .undef _
structure xi (im:Im) (loc:Loc) (nt:Nat) (st:St) (a:Act):Prop where
 env:ER im loc st.env a.tmps
 defers:a.defers=[]
 NB:a.tmps.size=nt
theorem Kept.world {jd : cH} {st : St} {w1 : World} (h : Kept im0 loc0 jd w1 st im loc w) (hh : w1.heap = w0.heap) (ho : w1.os = w0.os) (ht : w1.tape = w0.tape) (hp : w1.output = w0.output) : Kept im0 loc0 jd w0 st im loc w :=
  { sr := h.sr, gG := h.gG, dS := h.dS, os := h.os.trans ho, tape := h.tape.trans ht, output := h.output.trans hp, size := by have := h.size; rw [hh] at this; exact this
    frame := by have := h.frame; rw [hh] at this; exact this
    dX := by have := h.dX; rw [hh] at this; exact this
    nQ := h.nQ
    own := by have := h.own; rw [hh] at this; exact this }
theorem SR.world {aE:cH} {fz:List Nat} {w1:World} (h:SR im loc aE fz w) (hh:w1.heap=w.heap):SR im loc aE fz w1 where
 bG:=by rw [hh];exact h.bG
 df:=fun t li hl=>let ⟨k,h1,h2⟩:=h.df t li hl;⟨k,h1,h2.mono (.refl _) (.refl _) (by rw [hh])⟩
 iK:=h.iK
 free:=h.free
theorem NZ (hE:Jf P F rec) (qv:P.follows .mixedOrders=anq) {draw:Option (List Nat)} {fU:List Nat} {id:Nat} {flag:Bool} {st kO:St}
 (hc:CI P prims nt draw ops iR flag=anq) (gL:lz F rec draw ops fU st=an9 kO) (kI:SR im0 loc0 st.aE st.fz w0) (ha:xi im0 loc0 nt st a) {Q:Exit->Act->World->Prop}
 (hQ: ∀im loc a' w',Kept im0 loc0 st.aE w0 kO im loc w'->xi im loc nt kO a'->Q .normal a' w'):(Code.region id iR flag).wp P Q a w0:=by
 unfold CI at hc;simp only [ut] at hc;obtain ⟨RQ,hd⟩:=hc;obtain ⟨cT,Xs⟩:=Bq RQ;have cT:(an4 ops)=iR.size:=by simpa using cT
 have Xs: ∀(i:Nat) (x:bU) (o:Oper),ops[i]? =an9 x->iR[i]? =an9 o->rF P prims nt iR x o=anq:=fun i x o hx ho=>Xs i x o hx (by simpa using ho)
 unfold lz at gL;cases he:mB F rec ops st [] with
 |none=>rw [he] at gL;cases gL
 |some q=>
  obtain ⟨nX,tr⟩:=q;rw [he] at gL;dsimp only at gL;obtain ⟨S,X,h0,hn,hr,htr⟩:=CF ops st [] nX tr he;have fin: ∀(w1:World),w1.heap=w0.heap->w1.os=w0.os->w1.tape=w0.tape->w1.output=w0.output->kO={nX with env:=fU.map fun s=>(s,lk s nX.env)}-> ∀im loc a' w' (done:Nat->Prop),(∀i,i<an4 ops->done i)->
   Inv ops S X im0 loc0 w1 nt done im loc a' w'->Q .normal a' w':=by
   intro w1 q1 q2 q3 q4 ck im loc a' w' done hdn hv;obtain ⟨hk,her,hdf,hns⟩:=hv.finish hr hdn;rw [hn] at hk her;rw [h0] at hk;subst ck;have hk:=hk.world q1 q2 q3 q4;exact hQ im loc a' w' {sr:=hk.sr,gG:=hk.gG,dS:=hk.dS,os:=hk.os,tape:=hk.tape,output:=hk.output,size:=hk.size,frame:=hk.frame,dX:=hk.dX,nQ:=hk.nQ,own:=hk.own} ⟨her.fU,hdf,hns⟩
  cases draw with
  |none=>
   dsimp only at hd gL
   have:flag=anr:=by simpa using hd
   subst this;injection gL with gL;refine wp_region ?_;rw [List.range_eq_range'];refine Fa hE hr Xs cT (fun im loc a w hv=>fin w0 rfl rfl rfl rfl gL.symm im loc a w _ (fun i h=>h) hv) iR.size 0 im0 loc0 a w0 (by omega) ?_
   have:=Inv.start (ops:=ops) (X:=X) (w0:=w0) h0 kI ha.env ha.defers ha.NB hr
   have e:(fun _:Nat=>False)=fun i=>i<0:=by funext i;apply propext;exact ⟨fun h=>h.elim,fun h=>by omega⟩
   rw [e] at this;exact this
  |some bf=>
   dsimp only at hd gL;simp only [ut] at hd;obtain ⟨⟨⟨rfl,hbl⟩,hmk⟩,WT⟩:=hd;have hbl:(an4 bf)=(an4 ops):=by simpa using hbl
   split at gL
   · rename_i To
     injection gL with gL;have atg:tr.reverse=zL S X (an4 ops):=by rw [htr];simp
     rw [atg] at To;obtain ⟨_,hmk⟩:=Dt hmk;refine wp_region_any qv ?_;refine Lc (w0:={w0 with drawn:=w0.drawn+1}) (im0:=im0) (loc0:=loc0) hE hr (Ord.drawn hr hbl WT To) Xs cT ?_ (fun im loc a w done hdn hv=>fin {w0 with drawn:=w0.drawn+1} rfl rfl rfl rfl gL.symm im loc a w done hdn hv) iR.size _ im0 loc0 a _ (by simp [cT]) ?_ ?_ ?_
     · intro k o ho
       have dI:=(NE.1 ho).1;have hk:bf[k]? =an9 (bf.getD k 0):=by
        rw [afU,v6 (by omega)];rfl
       simpa using hmk k _ o hk (by simpa using ho)
     · simp [cT,List.count_replicate]
     · intro k j h
       unfold kq at h
       by_cases hk:k<iR.size<;>simp [hk] at h
     have:=Inv.start (ops:=ops) (X:=X) (w0:={w0 with drawn:=w0.drawn+1}) h0 (kI.world rfl) ha.env ha.defers ha.NB hr
     have e:(fun _:Nat=>False)=kq (afi iR.size anr):=by
      funext i;apply propext
      unfold kq
      by_cases hk:i<iR.size<;>simp [hk]
     rw [e] at this;exact this
   cases gL
end
end Go.Vm
/- What a function keeps from its beginning on; the head of a loop. -/
namespace Go.Vm
theorem Kept.trans {im0 Ei Ej:Im} {loc0 dj qX:Loc} {jd:cH} {w0 w1 w2:World} {nX DZ:St} (h1:Kept im0 loc0 jd w0 nX Ei dj w1) (h2:Kept Ei dj nX.aE w1 DZ Ej qX w2) (hl:(an4 jd)<=an4 nX.aE):
 Kept im0 loc0 jd w0 DZ Ej qX w2 where
 sr:=h2.sr
 gG:=h1.gG.trans h2.gG
 dS:=h1.dS.trans h2.dS
 os:=h2.os.trans h1.os
 tape:=h2.tape.trans h1.tape
 output:=h2.output.trans h1.output
 size:=ae9 h1.size h2.size
 frame:=fun b hb hh=>by
  rw [h2.frame b (afj hb h1.size) fun t li k hl hs lZ Tn=>?_]
  · exact h1.frame b hb hh
  rcases h1.own t li k hl hs lZ with h|⟨u,lu,ku,g1,g2,g3,g4⟩
  · omega
  exact hh u lu ku g1 g2 g3 (by omega)
 dX:=fun b o hb=>by
  rcases h2.dX b o hb with h|h|⟨t,li,k,g1,g2,g3,g4⟩
  · exact h1.dX b o h
  · exact .inr (.inl (ae9 h1.size h))
  rcases h1.own t li k g1 g2 g3 with h|⟨u,lu,ku,k1,k2,k3,k4⟩
  · exact .inr (.inl (by omega))
  exact .inr (.inr ⟨u,lu,ku,k1,k2,k3,by omega⟩)
 nQ:=fun t li h=>by
  rcases h2.nQ t li h with h|h
  · exact h1.nQ t li h
  exact .inr (ae9 hl h)
 own:=fun t li k hl hs lZ=>by
  rcases h2.own t li k hl hs lZ with h|⟨u,lu,ku,g1,g2,g3,g4⟩
  · exact .inl (ae9 h1.size h)
  rcases h1.own u lu ku g1 g2 g3 with h|⟨u',lu',ku',k1,k2,k3,k4⟩
  · exact .inl (by omega)
  exact .inr ⟨u',lu',ku',k1,k2,k3,by omega⟩
structure zM (im0:Im) (loc0:Loc) (jd:cH) (w0:World) (st:St) (im:Im) (loc:Loc) (w:World):Prop where
 kept:Kept im0 loc0 jd w0 st im loc w
 kn:st.kn=an4 jd
 len:(an4 jd)<=an4 st.aE
 dom: ∀t li,loc0 t=an9 li->t<an4 jd
theorem Fe {F:mX} {rec:Task->Option Out}: ∀(ops:List bU) (st:St) (tr:List Tr) (kO:St) (RO:List Tr),mB F rec ops st tr=an9 (kO,RO)->kO.kn=st.kn
 | [],st,tr,kO,RO,h=>by simp only [mB,ww,IR] at h;rw [h.1]
 |o::l,st,tr,kO,RO,h=>by
  simp only [mB] at h;split at h
  · split at h
    · rename_i x hx
      split at h
      · have:=Fe l _ _ kO RO h
        rw [this];cases x<;>rfl
      cases h
    cases h
  · have:=Fe l _ _ kO RO h
    exact this
  cases h
theorem Jg {F:mX} {rec:Task->Option Out} {draw:Option (List Nat)} {ops:List bU} {fU:List Nat} {st kO:St} (h:lz F rec draw ops fU st=an9 kO):kO.kn=st.kn/\an4 st.aE<=(an4 kO.aE):=by
 unfold lz at h;cases he:mB F rec ops st [] with
 |none=>rw [he] at h;cases h
 |some q=>
  obtain ⟨nX,tr⟩:=q;rw [he] at h;dsimp only at h;obtain ⟨S,X,h0,hn,hr,_⟩:=CF ops st [] nX tr he;have h1:=Fe ops st [] nX tr he;have h2:=hr.ik (afa (an4 ops)) (If _);rw [h0,hn] at h2;cases draw with
  |none=>dsimp only at h;injection h with h;subst h;exact ⟨h1,h2⟩
  |some bf=>
   dsimp only at h;split at h
   · injection h with h;subst h;exact ⟨h1,h2⟩
   cases h
section
variable {im : Im} {loc dj : Loc} {m : List Nat}
theorem Lf {fz:List Nat}: ∀{l:List Nat} {i0 u t:Nat},l[u]? =an9 t->(i0+u)∉xF fz i0 l->t∉fz
 | [],i0,u,t,h,_=>by simp at h
 |s::r,i0,u,t,h,hn=>by
  simp only [xF] at hn;cases u with
  |zero=>
   simp at h;subst h;intro hf;rw [pp (pO.2 hf)] at hn;exact hn (by simp)
  |succ u=>
   refine Lf (l:=r) (i0:=i0+1) (u:=u) (by simpa using h) fun zB=>?_
   rw [show i0+(u+1)=i0+1+u by omega] at hn
   split at hn
   · exact hn (afI _ zB)
   exact hn zB
theorem Ff {aE:cH}: ∀{n:Nat} {ts seen:List Nat} {m:List Nat},reach aE n ts seen=an9 m->(∃l,m=seen++l)/\(seen.Nodup->m.Nodup)
 |_,[],seen,m,h=>by
  have h:an9 seen=an9 m:=by rw [<- h];unfold reach;cases ‹Nat› <;>rfl
  injection h with h;subst h;exact ⟨⟨[],by simp⟩,id⟩
 |0,_::_,seen,m,h=>by simp [reach] at h
 |n+1,t::ts,seen,m,h=>by
  simp only [reach] at h;split at h
  · exact Ff h
  rename_i hn
  split at h
  · obtain ⟨⟨l,hl⟩,h2⟩:=Ff h
    refine ⟨⟨t::l,by rw [hl];simp⟩,fun hd=>h2 ?_⟩
    rw [am1];refine ⟨hd,by simp,fun a ha b hb=>?_⟩
    have:b=t:=by simpa using hb
    subst this;intro e;subst e;exact hn (pO.2 ha)
  cases h
theorem Lg: ∀{n i:Nat},i<n->(uQ n)[i]? =an9 i
 |n+1,i,h=>by
  have hl: ∀n,(uQ n).length=n:=by
   intro n;induction n with
   |zero=>rfl
   |succ n ih=>simp [uQ,ih]
  simp only [uQ];rcases adc i n with h'|h'
  · rw [EQ (by rw [hl];exact h')];exact Lg h'
  rw [M2 (by rw [hl];exact h'),hl]
  have:i=n:=by omega
  subst this;simp
theorem Lh: ∀{n i:Nat},i∈uQ n->i<n
 |n+1,i,h=>by
  simp only [uQ,af2,afc] at h;rcases h with h|h
  · have:=Lh h;omega
  omega
theorem Fg: ∀n,(uQ n).Nodup
 |0=>by simp [uQ]
 |n+1=>by
  simp only [uQ];rw [am1];refine ⟨Fg n,by simp,fun a ha b hb=>?_⟩
  have:=Lh ha
  have:b=n:=by simpa using hb
  omega
end
end Go.Vm
/- The head of a loop. -/
namespace Go.Vm
def RR (s2:cH):Prop:= ∀(j:Nat) (k:jX),s2[j]? =an9 k-> ∃e,k= .arr e []
theorem VR.HA {im:Im} {loc:Loc} {x:PV} {u:Value} (h:VR im loc x u): ∀k:Option Nat,VR im loc (HA k x) u
 |none=>h
 |some _=>by
  cases h with
  |own t esz off len cap ex li a cV hl he hn hc hx hk h=>exact .own t esz off len cap anr li a cV hl he hn hc hx (fun h=>by cases h) h
  |undef=>exact .undef _
  |jB=>exact .jB
  |int k n=>exact .int k n
  |bool b=>exact .bool b
  |str s=>exact .str s
  |agg cs vs h=>exact .agg cs vs h
  |cq cs vs h=>exact .cq cs vs h
  |sl e c r a cap h1 h2 h3=>exact .sl e c r a cap h1 h2 h3
  |ptr t e r o li h1 h2 h3=>exact .ptr t e r o li h1 h2 h3
  |bH cs off b o vs h hv=>exact .bH cs off b o vs h hv
  |mp t li hl=>exact .mp t li hl
  |eI fn a b as bs ha hb=>exact .eI fn a b as bs ha hb
  |dR=>exact .dR
theorem Ax {im:Im} {loc dj:Loc} {m:List Nat} {e:Env} {tmps:Array Value} (hm:Ren m loc dj) (he:ER im loc e tmps): ∀{live:List (Nat×Option Nat)} {nx:Nat} {e1:Env} {s2:cH},rz e m nx live=an9 (e1,s2)->
 RR s2/\((∀(j:Nat) (esz:Nat),s2[j]? =an9 (.arr esz [])->dj (nx+j)=an9 ⟨0,0,esz,0,0⟩)->ER im dj e1 tmps)
 | [],nx,e1,s2,h=>by
  simp only [rz,ww,IR] at h;obtain ⟨rfl,rfl⟩:=h;exact ⟨fun j k h=>by simp at h,fun _ t=> .undef _⟩
 |(s,k)::r,nx,e1,s2,h=>by
  have hs:=he s;simp only [rz] at h;split at h
  · rename_i esz e' vj
    rw [F0s] at h;obtain ⟨⟨e2,s3⟩,h1,h2⟩:=h;simp only [IR] at h2;obtain ⟨rfl,rfl⟩:=h2;obtain ⟨g1,g2⟩:=Ax hm he h1;refine ⟨fun j k hj=>?_,fun hl t=>?_⟩
    · cases j with
      |zero=>simp at hj;exact ⟨_,hj.symm⟩
      |succ j=>exact g1 j k (by simpa using hj)
    rw [rD]
    split
    · rename_i e;subst e
      rw [vj] at hs;generalize hg:tmps.getD s Go.undef=v at hs;cases hs with
      |sl _ _ _ a cap h1 h2 h3=>
      have:cap=0:=by simpa using h2 rfl
      subst this;exact .own nx esz 0 0 0 anr ⟨0,0,esz,0,0⟩ a 0 (by simpa using hl 0 esz rfl) rfl (If _) (If _) (If _) (fun h=>by cases h) (.inl rfl)
    refine g2 (fun j ath hj=>?_) t
    have:=hl (j+1) ath (by simpa using hj)
    rw [show nx+1+j=nx+(j+1) by omega];exact this
  split at h
  · rename_i v' p h1 h2
    injection h with h;simp only [IR] at h;obtain ⟨rfl,rfl⟩:=h;obtain ⟨g1,g2⟩:=Ax hm he (e1:=p.1) (s2:=p.2) h2;refine ⟨g1,fun hl t=>?_⟩
    rw [rD];split
    · rename_i e;subst e
      exact (Tu hm hs h1).HA _
    exact g2 hl t
  cases h
theorem eV.setAt {im:Im} {loc:Loc} {x:PV}: ∀{xs:List PV} {vs:List Value} {c:Nat} {y:PV},eV im loc xs vs->xs[c]? =an9 y->(∀v,VR im loc y v->VR im loc x v)->eV im loc (xs.set c x) vs
 | [],_,c,y,h,hc,_=>by simp at hc
 |z::zs,vs,c,y,h,hc,hx=>by
  cases h with
  |cons _ v _ us g1 g2=>
   cases c with
   |zero=>simp at hc;subst hc;exact .cons _ _ _ _ (hx v g1) g2
   |succ c=>exact .cons _ _ _ _ g1 (eV.setAt g2 (by simpa using hc) hx)
theorem N0 {im0 im:Im} {loc0 loc:Loc} {jd:cH} {w0 w:World} {nt:Nat} {st:St} {a:Act} (t c esz:Nat) (hk:zM im0 loc0 jd w0 st im loc w) (ha:xi im loc nt st a):
 ∃dj,zM im0 loc0 jd w0 (rA st t c esz) im dj w/\xi im dj nt (rA st t c esz) a:=by
 unfold rA;split
 · rename_i cs hb
   split
   · rename_i e hc
     have sr:=hk.kept.sr;have aoC: ∀u li,loc u=an9 li->u<(an4 st.aE):=fun u li h=>by obtain ⟨k,h1,_⟩:=sr.df u li h;exact cL h1
     have hn:loc (an4 st.aE)=anp:=by
      cases h:loc (an4 st.aE) with
      |none=>rfl
      |some li=>exact absurd (aoC _ _ h) (Nat.lt_irrefl _)
     let dj:Loc:=fun u=>if u=(an4 st.aE) then an9 ⟨0,0,esz,0,0⟩ else loc u
     have ly:mv loc dj:=fun u li h=>by
      have:=aoC u li h
      simp only [dj,show u≠(an4 st.aE) by omega,if_false];exact h
     have back: ∀u li,dj u=an9 li->u≠an4 st.aE->loc u=an9 li:=fun u li h hu=>by
      simpa only [dj,hu,if_false] using h
     have N1:t<(an4 st.aE):=cL hb;have get: ∀u,u<an4 st.aE->(st.aE.set t (.box (cs.set c (.own (an4 st.aE) esz 0 0 0 anr)))++[.arr esz []])[u]? =if t=u then an9 (.box (cs.set c (.own (an4 st.aE) esz 0 0 0 anr))) else st.aE[u]?:=fun u hu=>by
      rw [EQ (by simpa using hu),am6]
      split
      · rename_i e;subst e;simp
      rfl
     have aoD:(st.aE.set t (.box (cs.set c (.own (an4 st.aE) esz 0 0 0 anr)))++[.arr esz []])[an4 st.aE]? =an9 (.arr esz []):=by
      rw [M2 (by simp)];simp
     have bL: ∀(u:Nat) (k:jX),(st.aE.set t (.box (cs.set c (.own (an4 st.aE) esz 0 0 0 anr)))++[.arr esz []])[u]? =an9 k->k.bL=anq->u≠an4 st.aE/\ ∃k0:jX,st.aE[u]? =an9 k0/\k0.bL=anq:=by
      intro u k hu hs;have dI:=cL hu;simp only [aff,amW,List.length_singleton] at dI;have dW:u≠(an4 st.aE):=by
       intro e;subst e;rw [aoD] at hu;injection hu with hu;subst hu;cases hs
      refine ⟨dW,?_⟩;rw [get u (by omega)] at hu
      split at hu
      · rename_i e;subst e;exact ⟨_,hb,rfl⟩
      exact ⟨k,hu,hs⟩
     refine ⟨dj,⟨⟨?_,hk.kept.gG,hk.kept.dS.trans ly,hk.kept.os,hk.kept.tape,hk.kept.output,hk.kept.size,hk.kept.frame,hk.kept.dX,fun u li h=>?_,fun u li k h hs lZ=>?_⟩,hk.kn,?_,hk.dom⟩,⟨ha.env.mono (nZ.refl _) ly,ha.defers,ha.NB⟩⟩
     · refine {
        bG:=sr.bG
        df:=fun u li hl=>?_
        iK:=fun u u' li lj k k' hl mA hs uY lZ HI hbk=>?_
        free:=fun u li k hl hs lZ hz=>?_}
       · by_cases hu:u=an4 st.aE
         · subst hu
           simp only [dj,if_true] at hl;injection hl with hl;subst hl;exact ⟨_,aoD,rfl,rfl,fun h=>absurd rfl h⟩
         have Ky:=back u li hl hu
         obtain ⟨k,h1,h2⟩:=sr.df u li Ky
         show∃k,(st.aE.set t (.box (cs.set c (.own (an4 st.aE) esz 0 0 0 anr)))++[.arr esz []])[u]? =an9 k/\BR im dj w li k
         rw [get u (cL h1)];split
         · rename_i et;subst et
           rw [hb] at h1;injection h1 with h1;subst h1;obtain ⟨g1,g2,g3,vs,el,g4,g5,g6⟩:=h2;refine ⟨_,rfl,by simpa using g1,g2,g3,vs,el,g4,g5,(g6.mono (nZ.refl _) ly).setAt hc fun v hv=>?_⟩
           cases hv with
           |sl _ _ _ a' cap h1 h2 h3=>
           have:cap=0:=by simpa using h2 rfl
           subst this;exact .own _ esz 0 0 0 anr ⟨0,0,esz,0,0⟩ a' 0 (by simp only [dj,if_true]) rfl (If _) (If _) (If _) (fun h=>by cases h) (.inl rfl)
         exact ⟨k,h1,h2.mono (nZ.refl _) ly rfl⟩
       · obtain ⟨n1,k0,g1,g2⟩:=bL u k hs lZ
         obtain ⟨n2,k0',g1',g2'⟩:=bL u' k' uY HI;exact sr.iK u u' li lj k0 k0' (back _ _ hl n1) (back _ _ mA n2) g1 g1' g2 g2' hbk
       obtain ⟨n1,k0,g1,g2⟩:=bL u k hs lZ
       exact sr.free u li k0 (back _ _ hl n1) g1 g2 hz
     · by_cases hu:u=an4 st.aE
       · right;have:=hk.len;omega
       exact hk.kept.nQ u li (back u li h hu)
     · obtain ⟨n1,k0,g1,g2⟩:=bL u k hs lZ
       exact hk.kept.own u li k0 (back _ _ h n1) g1 g2
     have:=hk.len
     show (an4 jd)<=(st.aE.set t (.box (cs.set c (.own (an4 st.aE) esz 0 0 0 anr)))++[jX.arr esz []]).length;simp only [aff,amW];omega
   exact ⟨loc,hk,ha⟩
 exact ⟨loc,hk,ha⟩
theorem qw {im0 im:Im} {loc0:Loc} {jd:cH} {w0 w:World} {nt:Nat} {a:Act}: ∀(live:List (Nat×Option Nat)) {st:St} {loc:Loc},zM im0 loc0 jd w0 st im loc w->xi im loc nt st a->
 ∃dj,zM im0 loc0 jd w0 (kG live st) im dj w/\xi im dj nt (kG live st) a
 | [],st,loc,hk,ha=>⟨loc,hk,ha⟩
 |(s,k)::r,st,loc,hk,ha=>by
  simp only [kG];split
  · split
    · split
      · rename_i t _
        obtain ⟨dj,h1,h2⟩:=N0 t _ _ hk ha;exact qw r h1 h2
      exact qw r hk ha
    exact qw r hk ha
  exact qw r hk ha
theorem Li {im0 im:Im} {loc0 loc:Loc} {jd:cH} {w0 w:World} {nt:Nat} {live:List (Nat×Option Nat)} {st nX:St} {a:Act} (h:EG live st=an9 nX) (hk:zM im0 loc0 jd w0 st im loc w) (ha:xi im loc nt st a):
 ∃dj,zM im0 loc0 jd w0 nX im dj w/\xi im dj nt nX a:=by
 unfold EG at h;split at h
 · cases h
 rename_i m agw
 split at h
 · rename_i s1 e1 s2 hs1 hlv
   injection h with h;subst h;refine (fun hh: ∃dj,zM im0 loc0 jd w0 {env:=e1,aE:=s1++s2,fz:=xF st.fz 0 m,kn:=st.kn} im dj w/\xi im dj nt {env:=e1,aE:=s1++s2,fz:=xF st.fz 0 m,kn:=st.kn} a=>
    let ⟨_,g1,g2⟩:=hh;qw live g1 g2) ?_
   obtain ⟨⟨ml,Kz⟩,G8⟩:=Ff agw;have G8:=G8 (Fg _);obtain ⟨HE,D1⟩:=Cr hs1;have aoE: ∀n,(uQ n).length=n:=by
    intro n;induction n with
    |zero=>rfl
    |succ n ih=>simp [uQ,ih]
   have hid: ∀t,t<st.kn->m[t]? =an9 t:=by
    intro t ht;rw [Kz,EQ (by rw [aoE];exact ht)]
    exact Lg ht
   have awB:st.kn<=(an4 m):=by rw [Kz];simp [aoE]
   let dj:Loc:=fun u=>if u<(an4 m) then (match m[u]? with|some t=>loc t|none=>anp) else match s2[u-(an4 m)]? with
    |some (.arr e [])=>an9 ⟨0,0,e,0,0⟩
    |_=>anp
   have E5:Ren m loc dj:=by
    intro u t hu
    have:=cL hu
    simp only [dj,this,if_true,hu]
   obtain ⟨ati,her⟩:=Ax E5 ha.env hlv;have old: ∀u li,dj u=an9 li->u<an4 m-> ∃t,m[u]? =an9 t/\loc t=an9 li:=by
    intro u li hl hu;have e:=v6 hu;rw [E5 u _ e] at hl;exact ⟨_,e,hl⟩
   have aoF: ∀u,u<an4 m->(s1++s2)[u]? =s1[u]?:=fun u hu=>EQ (by rw [HE];exact hu)
   have aoG: ∀u,¬u<an4 m->(s1++s2)[u]? =s2[u-(an4 m)]?:=fun u hu=>by rw [M2 (by rw [HE];omega),HE]
   have yX: ∀(u:Nat) (k:jX),(s1++s2)[u]? =an9 k->k.bL=anq->u<(an4 m):=by
    intro u k hs lZ;rcases adc u (an4 m) with h|h
    · exact h
    rw [aoG u (by omega)] at hs
    obtain ⟨e,rfl⟩:=ati _ _ hs;cases lZ
   have back: ∀(u:Nat) (k:jX),(s1++s2)[u]? =an9 k-> ∀t,m[u]? =an9 t-> ∃k0:jX,st.aE[t]? =an9 k0/\k.bL=k0.bL:=by
    intro u k hs t ht;obtain ⟨k0,k',g1,g2,g3⟩:=D1 u t ht;rw [aoF u (cL ht),g3] at hs;injection hs with hs;subst hs;exact ⟨k0,g1,Bc g2⟩
   have sr:=hk.kept.sr;have agy:SR im dj (s1++s2) (xF st.fz 0 m) w:=by
    refine {
     bG:=sr.bG
     df:=fun u li hl=>?_
     iK:=fun u u' li lj k k' hl mA hs uY lZ HI hb=>?_
     free:=fun u li k hl hs lZ hz=>?_}
    · by_cases hu:u<an4 m
      · obtain ⟨t,ht,dI⟩:=old u li hl hu
        obtain ⟨k0,h1,h2⟩:=sr.df t li dI;obtain ⟨k1,k',g1,g2,g3⟩:=D1 u t ht;rw [h1] at g1;injection g1 with g1;subst g1;exact ⟨k',by rw [aoF u hu];exact g3,HC E5 g2 h2⟩
      simp only [dj,hu,if_false] at hl
      split at hl
      · rename_i e he
        injection hl with hl;subst hl;exact ⟨.arr e [],by rw [aoG u hu];exact he,rfl,rfl,fun h=>absurd rfl h⟩
      cases hl
    · have hu:=yX u k hs lZ
      have Cl:=yX u' k' uY HI;obtain ⟨t,ht,dI⟩:=old u li hl hu;obtain ⟨t',P4,Ld⟩:=old u' lj mA Cl;obtain ⟨k0,g1,g2⟩:=back u k hs t ht;obtain ⟨k0',g1',g2'⟩:=back u' k' uY t' P4
      have:=sr.iK t t' li lj k0 k0' dI Ld g1 g1' (by rw [<- g2];exact lZ) (by rw [<- g2'];exact HI) hb
      subst this;have pw:=afV.1 G8;have e1:=(Do.1 ht).2;have e2:=(Do.1 P4).2;rcases acl u u' with h|h|h
      · exact absurd (e1.trans e2.symm) (pw u u' hu Cl h)
      · exact h
      exact absurd (e2.trans e1.symm) (pw u' u Cl hu h)
    have hu:=yX u k hs lZ
    obtain ⟨t,ht,dI⟩:=old u li hl hu;obtain ⟨k0,g1,g2⟩:=back u k hs t ht;refine sr.free t li k0 dI g1 (by rw [<- g2];exact lZ) (jF.2 ?_)
    exact Lf (i0:=0) ht (by have:=jF.1 hz;simpa using this)
   refine ⟨dj,⟨⟨agy,hk.kept.gG,fun t li hl=>?_,hk.kept.os,hk.kept.tape,hk.kept.output,hk.kept.size,hk.kept.frame,hk.kept.dX,fun t li hl=>?_,fun u li k hl hs lZ=>?_⟩,hk.kn,?_,hk.dom⟩,
    ⟨her fun j esz hj=>?_,ha.defers,ha.NB⟩⟩
   · have h1:=hk.kept.dS t li hl
     have ht:t<st.kn:=by rw [hk.kn];exact hk.dom t li hl
     rw [E5 t t (hid t ht)];exact h1
   · rcases adc t st.kn with ht|ht
     · rw [E5 t t (hid t ht)] at hl
       exact hk.kept.nQ t li hl
     right;rw [hk.kn] at ht;exact ht
   · have hu:=yX u k hs lZ
     obtain ⟨t,ht,dI⟩:=old u li hl hu;obtain ⟨k0,g1,g2⟩:=back u k hs t ht;exact hk.kept.own t li k0 dI g1 (by rw [<- g2];exact lZ)
   · rw [<- hk.kn]
     simp only [aff];omega
   simp only [dj,show¬an4 m+j<(an4 m) by omega,if_false,show (an4 m)+j-(an4 m)=j by omega,hj]
 exact (by cases h)
theorem Xt {im0 im:Im} {loc0 loc:Loc} {jd:cH} {w0 w:World} {nt:Nat} {live:List (Nat×Option Nat)} {st nX:St} {a:Act} (h:norm live st=an9 nX) (hk:zM im0 loc0 jd w0 st im loc w) (ha:xi im loc nt st a):
 ∃dj,zM im0 loc0 jd w0 nX im dj w/\xi im dj nt nX a:=by
 unfold norm at h;cases h1:EG live st with
 |none=>rw [h1] at h;cases h
 |some s=>
  rw [h1] at h;dsimp only at h;obtain ⟨dj,gS,ti⟩:=Li h1 hk ha;split at h
  · exact Li h gS ti
  injection h with h
  subst h;exact ⟨dj,gS,ti⟩
end Go.Vm
/- The code of a function; what it returns. -/
namespace Go.Vm
def gz (P:Program) (prims:FuncId->Bool) (nt:Nat):jY->Code->Bool
 | .skip,.skip=>anq
 | .region d ops _,.region _ iR flag=>CI P prims nt d ops iR flag
 | .seq a b,.seq c d=>gz P prims nt a c&&gz P prims nt b d
 | .cond c a b,.cond c' a' b'=>bB c c'&&gz P prims nt a a'&&gz P prims nt b b'
 | .block id b,.block id' b'=>id==id'&&gz P prims nt b b'
 | .loop _ b,.loop b'=>gz P prims nt b b'
 | .exit id,.exit id'=>id==id'
 | .ret,.ret=>anq
 |_,_=>anr
def hJ.out:hJ->Exit
 | .normal=> .normal
 | .exit id=> .exit id
 | .ret=> .ret
section
variable {P : Program} {F : mX} {rec : Task -> Option Out} {im0 : Im} {loc0 : Loc} {jd : cH} {w0 : World} {nt : Nat} {prims : FuncId -> Bool}
structure At (im0:Im) (loc0:Loc) (jd:cH) (w0:World) (nt:Nat) (st:St) (a:Act) (w:World):Prop where
 ex: ∃im loc,zM im0 loc0 jd w0 st im loc w/\xi im loc nt st a
def CJ (P : Program) (prims : FuncId -> Bool) (rec : Task -> Option Out) : Prop :=
  ∀ (live : List (Nat × Option Nat)) (x : jY) (st : St) (e : hJ) (kO : St), rec (.loop live x st) = an9 (.code e kO) ->
    ∀ (c : Code) (nt : Nat) (im0 : Im) (loc0 : Loc) (jd : cH) (w0 : World) (a : Act) (w : World), gz P prims nt x c = anq -> At im0 loc0 jd w0 nt st a w ->
      ∀ (b : Frame) (k : List Item) (cs : List Frame), ∃ a' w', At im0 loc0 jd w0 nt kO a' w' /\ Arrives P (lone (b.at a (.code c :: .inLoop c :: k)) cs w) b k cs e.out a' w'
theorem kJ (hE:Jf P F rec) (hL:CJ P prims rec) (qv:P.follows .mixedOrders=anq): ∀(x:jY) (c:Code) (st:St) (e:hJ) (kO:St),gz P prims nt x c=anq->s7 F rec x st=an9 (e,kO)->
 ∀(a:Act) (w:World),At im0 loc0 jd w0 nt st a w-> ∀(Q:Exit->Act->World->Prop),(∀a' w',At im0 loc0 jd w0 nt kO a' w'->Q e.out a' w')->c.wp P Q a w
 | .skip,c,st,e,kO,hc,gL,a,w,ha,Q,hQ=>by
  cases c<;>simp only [gz,PP] at hc
  simp only [s7,ww,IR] at gL;obtain ⟨rfl,rfl⟩:=gL;exact wp_skip (hQ _ _ ha)
 | .region d ops fU,c,st,e,kO,hc,gL,a,w,ha,Q,hQ=>by
  cases c<;>simp only [gz,PP] at hc
  simp only [s7,F0s] at gL;obtain ⟨nX,gL,h⟩:=gL;simp only [IR] at h;obtain ⟨rfl,rfl⟩:=h;obtain ⟨im,loc,hk,Fh⟩:=ha.ex;refine NZ hE qv hc gL hk.kept.sr Fh fun eA bo a' w' Lj Fi=>hQ a' w' ⟨eA,bo,?_,Fi⟩
  obtain ⟨h1,h2⟩:=Jg gL;exact ⟨hk.kept.trans Lj hk.len,by rw [h1];exact hk.kn,ae9 hk.len h2,hk.dom⟩
 | .seq x y,c,st,e,kO,hc,gL,a,w,ha,Q,hQ=>by
  cases c<;>simp only [gz,PP,ut] at hc
  obtain ⟨h1,h2⟩:=hc;simp only [s7] at gL;refine wp_seq ?_;cases hx:s7 F rec x st with
  |none=>rw [hx] at gL;cases gL
  |some q=>
   obtain ⟨e1,nX⟩:=q;rw [hx] at gL;refine kJ hE hL qv x _ st e1 nX h1 hx a w ha _ fun a' w' Fi=>?_
   cases e1 with
   |normal=>exact kJ hE hL qv y _ nX e kO h2 gL a' w' Fi Q hQ
   |exit id=>
    simp only [ww,IR] at gL;obtain ⟨rfl,rfl⟩:=gL;exact hQ a' w' Fi
   |ret=>
    simp only [ww,IR] at gL;obtain ⟨rfl,rfl⟩:=gL;exact hQ a' w' Fi
 | .cond cc x y,c,st,e,kO,hc,gL,a,w,ha,Q,hQ=>by
  cases c<;>simp only [gz,PP,ut] at hc
  obtain ⟨⟨h0,h1⟩,h2⟩:=hc;obtain ⟨im,loc,hk,Fh⟩:=ha.ex;have hv:=NY (a:=a) (e:=st.env) cc (fun t _=>Fh.env t) _ h0
  simp only [s7] at gL;split at gL
  · rename_i hb
    rw [hb] at hv;exact wp_cond_true hv.jE (kJ hE hL qv x _ st e kO h1 gL a w ha Q hQ)
  · rename_i hb
    rw [hb] at hv;exact wp_cond_false hv.jE (kJ hE hL qv y _ st e kO h2 gL a w ha Q hQ)
  cases gL
 | .block id x,c,st,e,kO,hc,gL,a,w,ha,Q,hQ=>by
  cases c<;>simp only [gz,PP,ut,beq_iff_eq] at hc
  obtain ⟨rfl,h1⟩:=hc;refine wp_block ?_;simp only [s7] at gL;cases hx:s7 F rec x st with
  |none=>rw [hx] at gL;cases gL
  |some q=>
   obtain ⟨e1,nX⟩:=q;rw [hx] at gL;refine kJ hE hL qv x _ st e1 nX h1 hx a w ha _ fun a' w' Fi=>?_
   cases e1 with
   |normal=>
    simp only [ww,IR] at gL;obtain ⟨rfl,rfl⟩:=gL;exact hQ a' w' Fi
   |ret=>
    simp only [ww,IR] at gL;obtain ⟨rfl,rfl⟩:=gL;exact hQ a' w' Fi
   |exit j=>
    dsimp only at gL;simp only [hJ.out,Exit.inBlock];split at gL
    · rename_i hj
      have:j=id:=by simpa using hj
      simp only [ww,IR] at gL;obtain ⟨rfl,rfl⟩:=gL;rw [pp this];exact hQ a' w' Fi
    rename_i hj
    have:j≠id:=by simpa using hj
    simp only [ww,IR] at gL;obtain ⟨rfl,rfl⟩:=gL;rw [rc this];exact hQ a' w' Fi
 | .loop live x,c,st,e,kO,hc,gL,a,w,ha,Q,hQ=>by
  cases c<;>simp only [gz,PP] at hc
  simp only [s7] at gL;split at gL
  · rename_i e1 nX hr
    simp only [ww,IR] at gL;obtain ⟨rfl,rfl⟩:=gL;intro b k cs;obtain ⟨a',w',h1,h2⟩:=hL live x st _ _ hr _ nt im0 loc0 jd w0 a w hc ha b k cs;exact ⟨_,a',w',hQ a' w' h1,.of_steps (.one step_loop) h2⟩
  cases gL
 | .exit id,c,st,e,kO,hc,gL,a,w,ha,Q,hQ=>by
  cases c<;>simp only [gz,PP,beq_iff_eq] at hc
  subst hc;simp only [s7,ww,IR] at gL;obtain ⟨rfl,rfl⟩:=gL;exact wp_exit (hQ _ _ ha)
 | .ret,c,st,e,kO,hc,gL,a,w,ha,Q,hQ=>by
  cases c<;>simp only [gz,PP] at hc
  simp only [s7,ww,IR] at gL;obtain ⟨rfl,rfl⟩:=gL;exact wp_ret (hQ _ _ ha)
theorem RS (hE:Jf P F rec) (hL:CJ P prims rec) (qv:P.follows .mixedOrders=anq):CJ P prims (step F rec):=by
 intro live x st e kO h c nt im0 loc0 jd w0 a w hc ha b k cs;simp only [step] at h;cases hn:norm live st with
 |none=>rw [hn] at h;cases h
 |some nX=>
  rw [hn] at h;dsimp only at h;obtain ⟨im,loc,hk,Fh⟩:=ha.ex;obtain ⟨dj,gS,ti⟩:=Xt hn hk Fh;have db:At im0 loc0 jd w0 nt nX a w:=⟨im,dj,gS,ti⟩;cases hx:s7 F rec x nX with
  |none=>rw [hx] at h;cases h
  |some q=>
   obtain ⟨e1,DZ⟩:=q;rw [hx] at h;have hw:=kJ hE hL qv x c nX e1 DZ hc hx a w db (fun e' a' w'=>e'=e1.out/\At im0 loc0 jd w0 nt DZ a' w') fun a' w' h=>⟨rfl,h⟩
   obtain ⟨e',a1,w1,⟨rfl,hq⟩,Hi⟩:=hw b (.inLoop c::k) cs;cases e1 with
   |normal=>
    dsimp only at h;obtain ⟨a',w',h1,h2⟩:=hL live x DZ e kO h c nt im0 loc0 jd w0 a1 w1 hc hq b k cs;exact ⟨a',w',h1,.of_steps (Steps.trans Hi (.one step_inLoop)) h2⟩
   |exit id=>
    simp only [ww,Out.code.injEq] at h;obtain ⟨rfl,rfl⟩:=h;exact ⟨a1,w1,hq,.pass (x:= .inLoop c) rfl (fun _ _=> .inl (by simp [hJ.out])) Hi⟩
   |ret=>
    simp only [ww,Out.code.injEq] at h;obtain ⟨rfl,rfl⟩:=h;exact ⟨a1,w1,hq,.pass (x:= .inLoop c) rfl (fun _ _=> .inl (by simp [hJ.out])) Hi⟩
def o8 (P:Program):List RV->List ResultVar->Bool
 | [],[]=>anq
 | .tmp t::r,.tmp t'::s=>t==t'&&o8 P r s
 | .cell t agg::r,.cell t' ty::s=>t==t'&&Bb P ty agg&&o8 P r s
 |_,_=>anr
def N2 (tmps:Array Value):ResultVar->Sem Value
 | .tmp t=>pure (tmps.getD t undef)
 | .cell a t=>do loadVar t (<- asAddr (tmps.getD a undef))
theorem RU {im:Im} {loc:Loc} {aE:cH} {agg:Option Nat} {p:PV} {u:Value} {r:nU} (hp:VR im loc p u) (h:oY aE agg p=an9 r): ∃ad,u= .pointer (an9 ad):=by
 cases hp<;>first|(simp [oY] at h;done)|exact ⟨_,rfl⟩
theorem SR.known {im:Im} {loc:Loc} {aE:cH} {fz:List Nat} {w:World} (h:SR im loc aE fz w) {r:nU} (hn:r.news=[]) (hw:r.wr=[]):jo im loc aE w r where
 bG:=h.bG
 tok:=fun t _ li hl=>h.df t li hl
 free:=fun t k hm=>by rw [hw] at hm;cases hm
 fresh:=fun j hj=>by rw [hn] at hj;simp at hj
 iK:=fun t u li lj k k' _ _=>h.iK t u li lj k k'
theorem N3 {aE:cH} {agg:Option Nat} {p:PV} {r:nU} (h:oY aE agg p=an9 r):r.news=[]/\r.wr=[]:=by
 unfold oY at h;split at h
 · split at h
   · split at h
     · rw [F0s] at h;obtain ⟨_,_,rfl⟩:=h;exact ⟨rfl,rfl⟩
     cases h
   · split at h
     · rw [F0s] at h;obtain ⟨_,_,rfl⟩:=h;exact ⟨rfl,rfl⟩
     cases h
   cases h
 · rw [F0s] at h;obtain ⟨_,_,rfl⟩:=h;exact ⟨rfl,rfl⟩
 cases h
theorem T7 {im : Im} {loc : Loc} {st : St} {a : Act} {w : World} (kI : SR im loc st.aE st.fz w) (ha : ER im loc st.env a.tmps) : ∀ {rs : List RV} {vs : List PV} {os : List ResultVar}, o8 P rs os = anq -> nW st rs = an9 vs ->
    ∃ us, (os.mapM (N2 a.tmps)).run P w = .ok us w /\ eV im loc vs us
  | [], vs, os, hc, h => by
    cases os <;> simp only [o8, PP] at hc
    simp only [nW, ww] at h; subst h
    exact ⟨[], by simp, .nil⟩
  | r :: rs, vs, [], hc, h => by cases r <;> simp [o8] at hc
  | r :: rs, vs, o :: os, hc, h => by
    simp only [nW] at h
    split at h
    · rename_i v Nz h1 h2
      injection h with h; subst h
      have Be : ∃ u, (N2 a.tmps o).run P w = .ok u w /\ VR im loc v u /\ o8 P rs os = anq := by
        cases r with
        | tmp t =>
          cases o with
          | tmp t' =>
            simp only [o8, ut, beq_iff_eq] at hc
            obtain ⟨rfl, hc⟩ := hc
            simp only [EJ, ww] at h1; subst h1
            exact ⟨_, rfl, ha t, hc⟩
          | cell _ _ => simp [o8] at hc
        | cell t agg =>
          cases o with
          | tmp t' => simp [o8] at hc
          | cell t' ty =>
            simp only [o8, ut, beq_iff_eq] at hc
            obtain ⟨⟨rfl, hag⟩, hc⟩ := hc
            simp only [EJ, F0s] at h1
            obtain ⟨rr, h3, rfl⟩ := h1
            obtain ⟨g1, g2⟩ := N3 h3
            obtain ⟨u, cu, oU, _⟩ := KO (P := P) (ha t) hag h3 (kI.known g1 g2)
            obtain ⟨ad, had⟩ := RU (ha t) h3
            refine ⟨u, ?_, oU, hc⟩
            simp only [N2, had, asAddr]
            rw [had] at cu
            simpa [Instr.loadAt, Instr.sureAddr] using cu
      obtain ⟨u, hu, oU, hc⟩ := Be
      obtain ⟨us, xA, atk⟩ := T7 kI ha hc h2
      refine ⟨u :: us, ?_, .cons _ _ _ _ oU atk⟩
      rw [List.mapM_cons]
      simp only [afS, hu, agb, xA, an1]
    cases h
theorem Fj {im:Im} {loc:Loc} {st:St} {a:Act} {w:World} {fn:Func} (kI:SR im loc st.aE st.fz w) (ha:ER im loc st.env a.tmps) {rs:List RV} {vs:List PV} (hc:o8 P rs fn.results.toList=anq) (h:nW st rs=an9 vs):
 ∃u,(results fn a.tmps).run P w= .ok u w/\VR im loc (results1 vs) u:=by
 obtain ⟨us,h1,h2⟩:=T7 (P:=P) kI ha hc h;have e:fn.results.mapM (N2 a.tmps)=List.toArray<$>fn.results.toList.mapM (N2 a.tmps):=Array.mapM_eq_mapM_toList;have h3:(fn.results.mapM (N2 a.tmps)).run P w= .ok us.toArray w:=by
  rw [e];rw [map_eq_pure_bind,afS,h1];rfl
 have Bs:results fn a.tmps=(do let vs <- fn.results.mapM (N2 a.tmps);pure (if h:vs.size=1 then vs[0] else .tuple vs)):=by
  unfold results
  congr 1
 rw [Bs];simp only [afS,h3,agb,an1];refine ⟨_,rfl,?_⟩;cases h2 with
 |nil=>exact .cq _ _ .nil
 |cons x u xs us g2 g3=>
  cases g3 with
  |nil=>exact g2
  |cons y v ys vs g4 g5=>exact .cq _ _ (.cons _ _ _ _ g2 (.cons _ _ _ _ g4 g5))
end
end Go.Vm
/- What the logical machine answers, the model answers. -/
namespace Go.Vm
def au (P:Program) (prims:FuncId->Bool) (x:aJ) (f:FuncId):Bool:=
 match P.funcs[f]? with
 |some fn=>!(fn.name== "runtime.NumGoroutine")&&af6 x.Dk fn.ntmps&&o8 P x.res fn.results.toList&&(match fn.body with|some c=>gz P prims fn.ntmps x.code c|none=>anr)
 |none=>anr
section
variable {P : Program} {F : mX} {rec : Task -> Option Out} {prims : FuncId -> Bool}
def Lk (P:Program) (prims:FuncId->Bool) (F:mX):Prop:= ∀f x,F f=an9 (.code x)->au P prims x f=anq
theorem Ll: ∀(args:List PV) (i t:Nat),lk t (uT i args)=if i<=t then (args[t-i]?).getD .undef else .undef
 | [],i,t=>by simp [uT,lk]
 |v::r,i,t=>by
  simp only [uT,rD];rw [Ll r (i+1) t]
  by_cases h:i=t
  · subst h;simp
  rw [rc h]
  by_cases h2:i<=t
  · rw [pp h2,pp (by omega)]
    have:t-i=(t- (i+1))+1:=by omega
    rw [this];simp
  rw [rc h2,rc (by omega)]
theorem HM {im:Im} {loc:Loc} {args:List PV} {us:List Value} (h:eV im loc args us) (n:Nat):ER im loc (uT 0 args) ((⟨us⟩:Array Value)++afi n Go.undef):=by
 intro t;rw [Ll];simp only [afa,if_true,Nat.sub_zero];cases ha:args[t]? with
 |none=>exact .undef _
 |some x=>
  obtain ⟨v,hv,hr⟩:=h.get t x ha
  have:((⟨us⟩:Array Value)++afi n Go.undef).getD t Go.undef=v:=by
   have dI:=cL hv;simp only [af5];rw [Array.getElem?_append_left (by simpa using dI)]
   simp [hv]
  rw [this];exact hr
theorem iq {f:FuncId} {fn:Func} {c:Code} {us:Array Value} {w:World} (hf:P.funcs[f]? =an9 fn) (hn:(fn.name== "runtime.NumGoroutine")=anr) (hb:fn.body=an9 c):(callFunc f us).run P w= .ok (.enter f us) w:=by
 unfold callFunc;have hn: ¬fn.name= "runtime.NumGoroutine" :=by simpa using hn
 simp [afS,hf,hn,hb]
theorem RW (hE:Jf P F rec) (hL:CJ P prims rec) (hT:Lk P prims F) (qv:P.follows .mixedOrders=anq):CD P (step F rec):=by
 intro f args aE fz v u7 I8 h im loc w us kI xA;simp only [step] at h;split at h
 · rename_i x hF
   have hc:=hT f x hF;unfold au at hc;cases hf:P.funcs[f]? with
   |none=>rw [hf] at hc;cases hc
   |some fn=>
    rw [hf] at hc;simp only [ut,UV] at hc;obtain ⟨⟨⟨qx,hna⟩,Bs⟩,qy⟩:=hc;cases hb:fn.body with
    |none=>rw [hb] at qy;cases qy
    |some c=>
     rw [hb] at qy;dsimp only at qy;refine .inr ⟨iq hf qx hb,calls_of_wp hf hb ?_⟩;split at h
     · rename_i cT
       have cT:(an4 args)=x.Dk:=by simpa using cT
       have hna:x.Dk<=fn.ntmps:=by simpa using hna
       have ayp:=xA.mY
       let st0:St:={env:=uT 0 args,aE,fz,kn:=an4 aE}
       let a0:Act:={tmps:=(⟨us⟩:Array Value)++afi (fn.ntmps- (⟨us⟩:Array Value).size) Go.undef,defers:=[]}
       have db:At im loc aE w fn.ntmps st0 a0 w:=by
        refine ⟨im,loc,⟨⟨kI,.refl _,.refl _,rfl,rfl,rfl,If _,fun _ _ _=>rfl,fun _ _ h=> .inl h,fun _ _ h=> .inl h,fun t li k hl hs lZ=> .inr ⟨t,li,k,hl,hs,lZ,rfl⟩⟩,rfl,If _,fun t li hl=>?_⟩,⟨HM xA _,rfl,?_⟩⟩
        · obtain ⟨k,hk,_⟩:=kI.df t li hl
          exact cL hk
        simp only [a0,am8,agO]
        show (an4 us)+_=_
        have:(⟨us⟩:Array Value).size=(an4 us):=rfl
        rw [this];omega
       have fin: ∀(st:St),(nW st x.res).map (fun vs=>Out.func (results1 vs) st.aE st.fz)=an9 (.func v u7 I8)-> ∀a' w',At im loc aE w fn.ntmps st a' w'->
        a'.defers=[]/\ ∃u,(results fn a'.tmps).run P w'= .ok u w'/\ ∃v',Ending.returned u= .returned v'/\ ∃eA bo,u6 im loc aE w v u7 I8 eA bo w' v':=by
        intro st ck a' w' db
        obtain ⟨eA,bo,hk,Fh⟩:=db.ex;rw [F0s] at ck;obtain ⟨vs,I3,he⟩:=ck;simp only [Out.func.injEq] at he;obtain ⟨rfl,rfl,rfl⟩:=he;obtain ⟨u,hu,oU⟩:=Fj (P:=P) (fn:=fn) hk.kept.sr Fh.env Bs I3;have K:=hk.kept;exact ⟨Fh.defers,u,hu,u,rfl,eA,bo,⟨K.gG,K.dS,oU,K.sr,K.os,K.tape,K.output,K.size,K.frame,K.dX,K.nQ,K.own⟩⟩
       split at h
       · rename_i st gL
         exact kJ hE hL qv x.code c st0 .normal st qy gL a0 w db _ fun a' w' agz=>fin st h a' w' agz
       · rename_i st gL
         exact kJ hE hL qv x.code c st0 .ret st qy gL a0 w db _ fun a' w' agz=>fin st h a' w' agz
       cases h
     cases h
 · rename_i p hF
   obtain ⟨fn,c,hf,qx,hb,key⟩:=hE.kf.2 f p hF;rw [F0s] at h;obtain ⟨⟨v1,s1,z1⟩,hp,he⟩:=h;simp only [Out.func.injEq] at he;obtain ⟨rfl,rfl,rfl⟩:=he;exact key args aE fz _ _ _ hp im loc w us kI xA
 cases h
theorem afr (hT:Lk P prims F) (Bl:yT P F) (qv:P.follows .mixedOrders=anq): ∀n,CD P (run F n)/\CJ P prims (run F n)
 |0=>⟨fun f args aE fz v u7 I8 h=>by simp [run] at h,fun live x st e kO h=>by simp [run] at h⟩
 |n+1=>by
  obtain ⟨h1,h2⟩:=afr hT Bl qv n;have hE:Jf P F (run F n):=⟨h1,Bl⟩;exact ⟨RW hE h2 hT qv,RS hE h2 qv⟩
theorem RX (hT:Lk P prims F) (Bl:yT P F) (qv:P.follows .mixedOrders=anq) {n:Nat} {f:FuncId} {args:List PV} {v:PV} {u7:cH} {I8:List Nat} (h:run F n (.func f args [] [])=an9 (.func v u7 I8))
 {im:Im} {w:World} {us:List Value} (Xi: ∀b o,im b=an9 o->w.heap[b]? =an9 o) (xA:eV im gf args us):
 Calls P f ⟨us⟩ w fun e w'=> ∃u,e= .returned u/\(∃eA bo,VR eA bo v u/\SR eA bo u7 I8 w')/\w'.os=w.os/\w'.tape=w.tape/\w'.output=w.output/\w.heap.size<=w'.heap.size/\ ∀b,b<w.heap.size->w'.heap[b]? =w.heap[b]?:=by
 have key:=(afr hT Bl qv n).1 f args [] [] v u7 I8 h im gf w us (SR.empty Xi) xA;rcases key with ⟨u,w',h1,h2⟩|⟨h1,h2⟩
 · exfalso
   cases n with
   |zero=>simp [run] at h
   |succ n=>
    have h:step F (run F n) (.func f args [] [])=an9 (.func v u7 I8):=h;simp only [step] at h;split at h
    · rename_i x hF
      have hc:=hT f x hF;unfold au at hc;cases hf:P.funcs[f]? with
      |none=>rw [hf] at hc;cases hc
      |some fn=>
       rw [hf] at hc;simp only [ut,UV] at hc;cases hb:fn.body with
       |none=>rw [hb] at hc;exact (by have hzz:=hc.2;cases hzz)
       |some c=>
        rw [iq hf hc.1.1.1 hb] at h1;cases h1
    · rename_i p hF
      obtain ⟨fn,c,hf,qx,hb,key⟩:=Bl.2 f p hF;rw [iq hf qx hb] at h1;cases h1
    cases h
 refine h2.mono fun e w' ⟨u,he,eA,bo,hp⟩=>⟨u,he,⟨eA,bo,hp.vr,hp.sr⟩,hp.os,hp.tape,hp.output,hp.size,fun b hb=>hp.frame b hb fun t li k hl=>by cases hl⟩
end
end Go.Vm
/- Functions that are known without their code: math/bits.Add64 and Sub64, slices.Clone. -/
namespace Go.Vm
section
variable {P : Program}
theorem N4 {im:Im} {w:World} {v:PV} {u:Value} (kI:SR im gf [] [] w) (hv:VR im gf v u):u6 im gf [] w v [] [] im gf w u where
 gG:= .refl _
 dS:= .refl _
 vr:=hv
 sr:=kI
 os:=rfl
 tape:=rfl
 output:=rfl
 size:=If _
 frame:=fun _ _ _=>rfl
 dX:=fun _ _ h=> .inl h
 nQ:=fun _ _ h=> .inl h
 own:=fun t li k h=>by cases h
theorem N5 {im:Im} {loc:Loc} {k1 k2 k3:IntKind} {a b c:Int} {us:List Value} (h:eV im loc [.int k1 a,.int k2 b,.int k3 c] us):us=[.int k1 a,.int k2 b,.int k3 c]:=by
 cases h with
 |cons _ _ _ _ h1 h=>
  cases h with
  |cons _ _ _ _ h2 h=>
   cases h with
   |cons _ _ _ _ h3 h=>
    cases h;rw [h1.gx,h2.gx,h3.gx]
theorem N6 {f:FuncId} {fn:Func} (hf:P.funcs[f]? =an9 fn) (qx:(fn.name== "runtime.NumGoroutine")=anr) (hb:fn.body.isNone=anq) (hn:Extern.findNext fn=anp) (he:Extern.find fn=an9 add64Entry):I9 P f Ai:=by
 intro args v news hp im w us kI xA;unfold Ai at hp;split at hp
 · rename_i a b c
   split at hp
   · rename_i hc
     have hc:c<=1:=by simpa using hc
     simp only [ww,IR] at hp;obtain ⟨rfl,rfl⟩:=hp;obtain rfl:=N5 xA;refine .inl ⟨_,w,?_,im,gf,N4 kI (.cq _ [.int .u64 (((a:Int)+b+c)%18446744073709551616),.int .u64 (((a:Int)+b+c) / 18446744073709551616)] (.cons _ _ _ _ ?_ (.cons _ _ _ _ ?_ .nil)))⟩
     · rw [run_callFunc_extern hf qx hb hn he]
       have:=run_add64 (P:=P) (a:Int) b c (by omega) (by omega) (by omega) (by omega) w
       simp only [afK];rw [this];rfl
     · have:aks ((a+b+c)%18446744073709551616)=((a:Int)+b+c)%18446744073709551616:=by
        simp only [afK];omega
       rw [this];exact .int _ _
     have:aks ((a+b+c) / 18446744073709551616)=((a:Int)+b+c) / 18446744073709551616:=by
      simp only [afK];omega
     rw [this];exact .int _ _
   cases hp
 cases hp
def xcA (esz:Nat):jY:= .region anp [⟨an9 2,.Ti (.c (.sl esz anq [])),anp⟩] [0]
def xcN (esz:Nat):jY:= .seq (.region anp [⟨an9 2,.Ti (.c (.sl esz anq [])),anp⟩] [2]) .ret
def xcC (esz:Nat) (zero:Row):jY:= .seq (.region anp [⟨an9 5,.A' esz 0 zero [],anp⟩,⟨an9 6,.Ti (.t 0),anp⟩,⟨an9 7,.append esz (.t 5) (.t 6),anp⟩,⟨an9 2,.Ti (.t 7),anp⟩] [2]) .ret
def T8 (P:Program) (o:Oper):Bool:=
 o.guard.isNone&&o.dst==an9 4&&(match o.op with
  | .binOp .eql t x (.const (.slice anp 0 0)) _=>bB (.t 3) x&&sq P t
  |_=>anr)
def Lm (P:Program) (esz:Nat) (zero:Row) (f:FuncId):Bool:=
 match P.funcs[f]? with
 |some fn=>!(fn.name== "runtime.NumGoroutine")&&afF 7 fn.ntmps&&o8 P [.tmp 2] fn.results.toList&&(match fn.body with
  |some (.seq a (.seq (.seq (.region _ ops anr) (.cond c n .skip)) r))=>
   gz P (fun _=>anq) fn.ntmps (xcA esz) a&&gz P (fun _=>anq) fn.ntmps (xcN esz) n&&gz P (fun _=>anq) fn.ntmps (xcC esz zero) r&&bB (.t 4) c&&
    (match ops.toList with
    | [o1,o2]=>rF P (fun _=>anq) fn.ntmps ops ⟨an9 3,.Ti (.t 0),anp⟩ o1&&T8 P o2
    |_=>anr)
  |_=>anr)
 |none=>anr
theorem Xu:Jf P (fun _=>anp) (fun _=>anp):=⟨(fun _ _args _sto _fz _v _sto' _fz' h=>(by cases h)),⟨(fun _ _k _p h=>(by cases h)),(fun _ _p h=>(by cases h))⟩⟩
theorem P5 {prims:FuncId->Bool}:CJ P prims (fun _=>anp):=fun _ _x _st _e _st' h=>(by cases h)
theorem m7 (qv:P.follows .mixedOrders=anq) {esz:Nat} {zero:Row} {f:FuncId} (hc:Lm P esz zero f=anq):I9 P f (fG esz):=by
 intro args v news hp im w us kI xA;unfold Lm at hc;cases hf:P.funcs[f]? with
 |none=>rw [hf] at hc;cases hc
 |some fn=>
  rw [hf] at hc;simp only [ut,UV] at hc;obtain ⟨⟨⟨qx,hnt⟩,Bs⟩,qy⟩:=hc;have hnt:7<fn.ntmps:=by simpa using hnt
  split at qy
  · rename_i ca id ops cc cn cr hb
    simp only [ut] at qy;obtain ⟨⟨⟨⟨hA,hN⟩,hC⟩,NI⟩,RQ⟩:=qy;split at RQ
    · rename_i o1 o2 hl
      simp only [ut] at RQ;obtain ⟨ho1,ho2⟩:=RQ;have atn: ∃e c rows,args=[.sl e c rows]:=by
       unfold fG at hp;split at hp
       · exact ⟨_,_,_,rfl⟩
       cases hp
      obtain ⟨e,cl,rows,rfl⟩:=atn;obtain ⟨u,rfl⟩: ∃u,us=[u]:=by
       cases xA with
       |cons _ u _ us h1 h2=>cases h2;exact ⟨u,rfl⟩
      refine .inr ⟨iq hf qx hb,calls_of_wp hf hb ?_⟩
      let st0:St:={env:=[(0,.sl e cl rows)],aE:=[],fz:=[],kn:=0}
      let a0:Act:={tmps:=(⟨[u]⟩:Array Value)++afi (fn.ntmps- (⟨[u]⟩:Array Value).size) Go.undef,defers:=[]}
      have ato:At im gf [] w fn.ntmps st0 a0 w:=by
       refine ⟨im,gf,⟨⟨kI,.refl _,.refl _,rfl,rfl,rfl,If _,fun _ _ _=>rfl,fun _ _ h=> .inl h,fun _ _ h=> .inl h,fun t li k hl=>by cases hl⟩,rfl,If _,fun t li hl=>by cases hl⟩,⟨HM xA _,rfl,?_⟩⟩
       simp only [a0,am8,agO];show 1+(fn.ntmps-1)=_;omega
      have fin: ∀(st:St) (v':PV),lk 2 st.env=v'-> ∀a' w',At im gf [] w fn.ntmps st a' w'->
       a'.defers=[]/\ ∃u,(results fn a'.tmps).run P w'= .ok u w'/\ ∃v'':Value,Ending.returned u= .returned v''/\ ∃eA bo,u6 im gf [] w v' st.aE st.fz eA bo w' v'':=by
       intro st v' hv' a' w' db
       obtain ⟨eA,bo,hk,Fh⟩:=db.ex;obtain ⟨u,hu,oU⟩:=Fj (P:=P) (fn:=fn) hk.kept.sr Fh.env Bs (vs:=[v']) (by simp [nW,EJ,hv'])
       have K:=hk.kept;exact ⟨Fh.defers,u,hu,u,rfl,eA,bo,⟨K.gG,K.dS,oU,K.sr,K.os,K.tape,K.output,K.size,K.frame,K.dX,K.nQ,K.own⟩⟩
      refine wp_seq ?_;refine kJ Xu P5 qv (xcA esz) _ st0 .normal {env:=[(0,.sl e cl rows)],aE:=[],fz:=[],kn:=0} hA rfl a0 w ato _ fun a1 w1 atp=>?_
      refine wp_seq (wp_seq ?_);refine wp_region ?_;have aoH:ops= #[o1,o2]:=amY (by simpa using hl)
      subst aoH;obtain ⟨Ei,dj,gS,Ln⟩:=atp.ex;have Jh:=Ln.env 0;have Jh:VR Ei dj (.sl e cl rows) (a1.tmps.getD 0 Go.undef):=Jh;obtain ⟨ad,cap,Xk,Ha,WQ,lB⟩:=Jh.oa;unfold rF at ho1;simp only [ut,beq_iff_eq] at ho1;obtain ⟨⟨⟨hd1,_⟩,Tp⟩,T9⟩:=ho1;have atq:o1.guard=anp:=by
       cases hg:o1.guard with
       |none=>rfl
       |some q=>rw [hg] at Tp;simp [u9] at Tp
      have aoI: ∃x,(o1.op= .move x\/o1.op= .assign x)/\bB (.t 0) x=anq:=by
       cases ho:o1.op<;>rw [ho] at T9<;>simp only [xg] at T9<;>first|exact ⟨_,.inl rfl,T9⟩|exact ⟨_,.inr rfl,T9⟩|simp at T9
      obtain ⟨x1,Hj,agA⟩:=aoI;have atr:a1.eval x1= .slice ad (an4 rows) cap:=by
       have h:=NY (a:=a1) (e:=[(0,PV.sl e cl rows)]) (.t 0) (fun t ht=>by injection ht with ht;subst ht;exact Ln.env 0) x1 agA
       cases x1 with
       |tmp t=>
        have:(0:Nat)=t:=by simpa [bB] using agA
        subst this;simpa [Act.eval] using Xk
       |_=>simp [bB] at agA
      have aoJ:(execOp a1.eval o1).run P w1= .ok (.value (.slice ad (an4 rows) cap)) w1:=by
       rcases Hj with h|h<;>simp [execOp,h,atr]
      unfold T8 at ho2;simp only [ut,beq_iff_eq,Option.isNone_iff_eq_none] at ho2;obtain ⟨⟨hg2,hd2⟩,Xv⟩:=ho2;split at Xv
      case h_2=>cases Xv
      rename_i ty x2 ub aoL;simp only [ut] at Xv;obtain ⟨Xw,ck⟩:=Xv;have att:x2= .tmp 3:=by
       cases x2 with
       |tmp t=>
        have:(3:Nat)=t:=by simpa [bB] using Xw
        subst this;rfl
       |_=>simp [bB] at Xw
      subst att;unfold sq at ck;split at ck
      case h_2=>cases ck
      rename_i el nS;have atu:a1.tmps.size=fn.ntmps:=Ln.NB
      let a2:Act:=a1.put (an9 3) (.slice ad (an4 rows) cap)
      have IY:a2.tmps.getD 3 Go.undef= .slice ad (an4 rows) cap:=by
       simp only [a2,Act.put,af5];rw [afh (by omega)];rfl
      have aoM:(execOp a2.eval o2).run P w1= .ok (.value (.bool ad.isNone)) w1:=by
       simp only [execOp,aoL];refine eO ?_;have e3:a2.eval (.tmp 3)= .slice ad (an4 rows) cap:=by simpa [Act.eval] using IY
       rw [e3];have hg:(eqGuard .eql ty (.tmp 3) (.const (.slice anp 0 0)) (.slice ad (an4 rows) cap) (a2.eval (.const (.slice anp 0 0)))).run P w1= .ok () w1:=by
        unfold eqGuard;simp
       simp only [afS,hg,agb];exact Lib.run_eql_slice_nil w1 ty el ad (an4 rows) cap 0 0 nS
      let a3:Act:=a2.put (an9 4) (.bool ad.isNone)
      have agB:At im gf [] w fn.ntmps {env:=[(0,.sl e cl rows)],aE:=[],fz:=[],kn:=0} a3 w1:=by
       refine ⟨Ei,dj,gS,⟨fun t=>?_,Ln.defers,by simp [a3,a2,Act.put,atu]⟩⟩
       have h:=Ln.env t;simp only [rD] at h ⊢
       by_cases ht:t=0
       · subst ht
         simp only [if_true] at h ⊢;simpa [a3,a2,Act.put,af4] using h
       rw [rc (fun e=>ht e.symm)];exact .undef _
      have Kx:a3.eval cc= .bool ad.isNone:=by
       cases cc with
       |tmp t=>
        have:(4:Nat)=t:=by simpa [bB] using NI
        subst this;simp only [Act.eval,a3,Act.put,af5];rw [afh (by simp [a2,Act.put];omega)];rfl
       |_=>simp [bB] at NI
      have agC:List.range #[o1,o2].size=[0,1]:=rfl;rw [agC];simp only [wpOps];have e0:(#[o1,o2]:Array Oper)[0]? =an9 o1:=rfl;have e1:(#[o1,o2]:Array Oper)[1]? =an9 o2:=rfl;rw [e0];dsimp only;have hw1:Region.wanted o1 (yielded #[o1,o2] a1.tmps)=anq:=by unfold Region.wanted;rw [atq]
      rw [hw1,pp rfl];refine .inl ?_;unfold Oper.wp;rw [aoJ,Oper.upon_value,<- hd1,e1];dsimp only;have Xg:Region.wanted o2 (yielded #[o1,o2] (a1.put (an9 3) (.slice ad (an4 rows) cap)).tmps)=anq:=by unfold Region.wanted;rw [hg2]
      rw [Xg,pp rfl];refine .inl ?_;rw [show a1.put (an9 3) (.slice ad (an4 rows) cap)=a2 from rfl,aoM,Oper.upon_value,hd2];show (Code.cond cc cn .skip).wp P _ a3 w1;cases had:ad with
      |none=>
       have Hh:rows=[]:=by
        rcases rows with _|⟨r,rs⟩
        · rfl
        obtain ⟨b,o,h,_⟩:=lB (by simp)
        rw [had] at h;cases h
       subst Hh;simp only [fG,ww,IR] at hp;obtain ⟨rfl,rfl⟩:=hp;refine wp_cond_true (by rw [Kx,had];rfl) ?_
       refine kJ Xu P5 qv (xcN esz) _ _ .ret {env:=[(2,.sl esz anq [])],aE:=[],fz:=[],kn:=0} hN rfl a3 w1 agB _ fun a4 w4 T'=>?_
       obtain ⟨hdf,u',Cl,v'',atv,eA,bo,WX⟩:=fin _ _ rfl a4 w4 T';refine ⟨hdf,u',Cl,v'',atv,eA,bo.set 1 ⟨0,0,esz,0,0⟩,?_⟩;have P6: ∀t,bo t=anp:=fun t=>by
        cases hl:bo t with
        |none=>rfl
        |some li=>obtain ⟨k,hk,_⟩:=WX.sr.df t li hl;simp at hk
       obtain ⟨ad',cV,hv3,_,atw,_⟩:=WX.vr.oa;have E9:cV=0:=by simpa using atw rfl
       subst E9;exact {
        gG:=WX.gG,dS:=fun t li h=>by cases h
        vr:=by rw [hv3];exact .own 1 esz 0 0 0 anr ⟨0,0,esz,0,0⟩ ad' 0 (Loc.eQ _ _ _) rfl (If _) (If _) (If _) (fun h=>by cases h) (.inl rfl)
        sr:={
         bG:=WX.sr.bG
         df:=fun t li h=>by
          unfold Loc.set at h;split at h
          · rename_i ht;subst ht;injection h with h;subst h
            exact ⟨_,rfl,rfl,rfl,fun h=>absurd rfl h⟩
          rw [P6 t] at h;cases h
         iK:=fun t u li lj k k' h h' hs uY D2=>by
          unfold Loc.set at h;split at h
          · rename_i ht;subst ht;simp at hs;subst hs;cases D2
          rw [P6 t] at h;cases h
         free:=fun t li k h hs D2=>by
          unfold Loc.set at h;split at h
          · rename_i ht;subst ht;simp at hs;subst hs;cases D2
          rw [P6 t] at h;cases h}
        os:=WX.os,tape:=WX.tape,output:=WX.output,size:=WX.size,frame:=WX.frame,dX:=WX.dX
        nQ:=fun t li h=> .inr (afa _)
        own:=fun t li k h hs D2=>by
         unfold Loc.set at h;split at h
         · rename_i ht;subst ht;simp at hs;subst hs;cases D2
         rw [P6 t] at h;cases h}
      |some ad'=>
       refine wp_cond_false (by rw [Kx,had];rfl) (wp_skip ?_)
       rcases rows with _|⟨r,rs⟩
       · simp only [fG,ww,IR] at hp
         obtain ⟨rfl,rfl⟩:=hp;exact kJ Xu P5 qv (xcC esz zero) _ _ .ret {env:=[(2,.own 1 esz 0 0 0 anr)],aE:=[.arr esz [],.arr esz []],fz:=[],kn:=0} hC rfl a3 w1 agB _ fun a4 w4 T'=>fin _ _ rfl a4 w4 T'
       simp only [fG] at hp
       split at hp
       case isFalse=>cases hp
       rename_i PQ;simp only [ut,aku,afo] at PQ;obtain ⟨rfl,ij⟩:=PQ;simp only [ww,IR] at hp;obtain ⟨rfl,rfl⟩:=hp;have hap:iP [.arr e []] [] e (.own 0 e 0 0 0 anq) (.sl e cl (r::rs))=an9 {v:= .own 1 e 0 (0+(an4 rs+1)) (0+(an4 rs+1)) anr,news:=[.arr e (r::rs)],rd:=[0]}:=by
        have h1:AC e e=anq:=by simp
        have h2:af6 (an4 rs+1) 0=anr:=rfl;have h3:af6 (0+(an4 rs+1)) eN=anq:=by simpa using ij
        simp only [iP,rowsOf,h1,if_true];simp [h2,ij,iO]
       refine kJ Xu P5 qv (xcC e zero) _ _ .ret {env:=[(2,.own 1 e 0 (0+(an4 rs+1)) (0+(an4 rs+1)) anr)],aE:=[.arr e [],.arr e (r::rs)],fz:=[],kn:=0} hC ?_ a3 w1 agB _ fun a4 w4 T'=>fin _ _ rfl a4 w4 T'
       simp only [xcC,s7,lz,mB,wanted,xe,bE,fE.ev,lk];simp [qk,XR.ok,vJ,XR.next,iJ,KJ,gj,lk,hap]
    cases RQ
  cases qy
end
end Go.Vm
/- slices.Insert of one row: what it leaves of the memory. -/
namespace Go.Vm
section
variable {P : Program} {im eA : Im} {loc bo : Loc} {aE : cH} {fz : List Nat} {w w' : World}
theorem pP (w:World) (dT sT ty el:TypeId) (esz g o agD aty:Nat) (a:Addr) (ui sCap:Nat) (cur:Array Value) (t:TypeId) (cs:List Value)
 (hu:P.underlying dT=an9 (.slice el)) (hs:(P.info? el).map (·.size)=an9 esz)
 (hg:w.heap[g]? =an9 (.cells cur t (0,0))) (hn:Nat.min ui agD*esz=an4 cs)
 (atz: ∀j v,cs[j]? =an9 v->w.cell? (a.add j)=an9 v) (qW:o+an4 cs<=cur.size) (h1: ∀v∈cs,v.oneCell'=anq):
 (Builtin.copy_ #[dT,sT] ty #[.slice (an9 ⟨g,o,anp⟩) agD aty,.slice (an9 a) ui sCap]).run P w=
  .ok (goInt (Nat.min ui agD)) (w.setRow g (mM o cs cur.toList).toArray):=by
 have hl:=run_loadCells_list (P:=P) w a cs atz;have ck:=run_storeCells_at P g o t cs 0 cur w hg (by simpa using qW) h1
 cases hq:P.info? el with
 |none=>simp [hq] at hs
 |some i=>
  have hi:i.size=esz:=by simpa [hq] using hs
  simp [Builtin.copy_,run_underlying hu,Builtin.lenOf,Builtin.firstCells,sizeOf,typeInfo,hq,hi,hn,hl,ck,mM]
theorem BR.fU {li:LI} {k:jX} (h:BR im loc w li k) (hi:nZ im eA) (hl:mv loc bo) (hw:k.bL=anq->w'.heap[li.df]? =w.heap[li.df]?):BR eA bo w' li k:=by
 cases hs:k.bL with
 |true=>exact h.mono hi hl (hw hs)
 |false=>
  cases k with
  |arr e rows=>
   cases rows with
   |nil=>exact ⟨h.1,h.2.1,fun dW=>absurd rfl dW⟩
   |cons r rs=>cases hs
  |box cs=>cases hs
  |map es=>cases hs
  |dead=>trivial
theorem yY {r:nU} {t:Nat} {u:Value} (kI:SR im loc aE fz w) (he:tg im loc aE w r eA bo w') (sx:r.fr=[]) (hw:r.wr=[(t,.dead)]) (ht:t<an4 aE) (hv:VR eA bo r.v u):
 u6 im loc aE w r.v (aE.set t .dead++r.news) fz eA bo w' u:=by
 have cT:(aE.set t .dead).length=(an4 aE):=by simp
 have old: ∀t' li,loc t'=an9 li->t'<(an4 aE):=fun t' li h=>by
  obtain ⟨k,hk,_⟩:=kI.df t' li h;exact (Do.1 hk).1
 have RY: ∀t' li k,loc t'=an9 li->(aE.set t .dead++r.news)[t']? =an9 k->k.bL=anq->t'≠t/\aE[t']? =an9 k:=by
  intro t' li k h hk hs;have dI:=old t' li h;rw [EQ (by omega),am6] at hk
  split at hk
  · first|(injection hk with hk;subst hk;cases hs)|(split at hk<;>first|(injection hk with hk;subst hk;cases hs)|cases hk)
  rename_i dW;exact ⟨fun e=>dW e.symm,hk⟩
 have RZ: ∀t' k,an4 aE<=t'->(aE.set t .dead++r.news)[t']? =an9 k->r.news[t'-(an4 aE)]? =an9 k:=by
  intro t' k h hk
  rwa [M2 (by omega),cT] at hk
 have HN: ∀t' li,bo t'=an9 li->loc t'=an9 li\/(an4 aE<=t'/\t'=an4 aE+(t'-(an4 aE))):=by
  intro t' li h;rcases he.k9 t' li h with h|⟨h,_⟩
  · exact .inl h
  exact .inr ⟨h,by omega⟩
 have imn: ∀b o,eA b=an9 o->im b=an9 o\/w.heap.size<=b:=by
  intro b o h;rcases he.dX b o h with h|h|⟨t0,li,k,h,_⟩
  · exact .inl h
  · exact .inr h
  rw [sx] at h;cases h
 have aoN: ∀t' li k,loc t'=an9 li->aE[t']? =an9 k->t'≠t->k.bL=anq->BR im loc w li k->w'.heap[li.df]? =w.heap[li.df]?:=by
  intro t' li k hl hk dW hs hb;refine he.frame li.df (hb.lt hs) fun t0 k1 l0 k0 hm Ky hk0 Jd e=>?_
  rw [hw] at hm;obtain ⟨rfl,rfl⟩:t0=t/\k1= .dead:=by simpa using hm
  exact dW (kI.iK _ _ _ _ _ _ hl Ky hk hk0 hs Jd e.symm)
 have Xx: ∀t' li k,bo t'=an9 li->an4 aE<=t'->r.news[t'-(an4 aE)]? =an9 k->BR eA bo w' li k/\
  (k.bL=anq->eA li.df=anp/\(w.heap.size<=li.df\/ ∃lt k0,loc t=an9 lt/\aE[t]? =an9 k0/\k0.bL=anq/\lt.df=li.df)):=by
  intro t' li k hl ly hk;obtain ⟨h1,h2⟩:=he.news (t'-(an4 aE)) k li hk (by rw [show (an4 aE)+(t'-(an4 aE))=t' by omega];exact hl)
  refine ⟨h1,fun hs=>⟨(h2 hs).1,?_⟩⟩
  rcases (h2 hs).2 with h|⟨t0,lt,k0,hm,a,b,c,d⟩
  · exact .inl h
  rw [hw] at hm
  obtain rfl:t0=t:=by have:=afc.1 hm;injection this
  exact .inr ⟨lt,k0,a,b,c,d⟩
 have apart: ∀t1 u1 li lj k k',loc t1=an9 li->t1≠t->aE[t1]? =an9 k->k.bL=anq->bo u1=an9 lj->an4 aE<=u1->r.news[u1-(an4 aE)]? =an9 k'->k'.bL=anq->li.df≠lj.df:=by
  intro t1 u1 li lj k k' hl dW hk hs mA ly Lj uY e;obtain ⟨k2,Ck,hb⟩:=kI.df t1 li hl;rw [hk] at Ck;injection Ck with Ck;subst Ck;rcases ((Xx u1 lj k' mA ly Lj).2 uY).2 with h|⟨lt,k0,a,b,c,d⟩
  · have:=hb.lt hs;omega
  exact dW (kI.iK _ _ _ _ _ _ hl a hk b hs c (by rw [e,d]))
 exact {
  gG:=he.gG,dS:=he.dS,vr:=hv
  sr:={
   bG:=he.bG
   df:=fun t' li h=>by
    rcases HN t' li h with ho|⟨ly,_⟩
    · obtain ⟨k,hk,hb⟩:=kI.df t' li ho
      have dI:=old t' li ho
      by_cases e:t'=t
      · subst e
        exact ⟨.dead,by rw [EQ (by omega),List.getElem?_set_self (by omega)],trivial⟩
      refine ⟨k,by rw [EQ (by omega),agJ (fun x=>e x.symm)];exact hk,hb.fU he.gG he.dS fun hs=>aoN t' li k ho hk e hs hb⟩
    have hn:t'-(an4 aE)<(an4 r.news):=by
     rcases he.k9 t' li h with ho|⟨_,h2⟩
     · have:=old t' li ho;omega
     omega
    obtain ⟨hb,_⟩:=Xx t' li _ h ly (v6 hn);exact ⟨_,by rw [M2 (by omega),cT];exact v6 hn,hb⟩
   iK:=fun t1 u1 li lj k k' hl mA hk Lj hs uY e=>by
    rcases HN t1 li hl with h1|⟨h1,_⟩<;>rcases HN u1 lj mA with h2|⟨h2,_⟩
    · obtain ⟨n1,e1⟩:=RY _ _ _ h1 hk hs
      obtain ⟨n2,e2⟩:=RY _ _ _ h2 Lj uY;exact kI.iK _ _ _ _ _ _ h1 h2 e1 e2 hs uY e
    · obtain ⟨n1,e1⟩:=RY _ _ _ h1 hk hs
      exact absurd e (apart _ _ _ _ _ _ h1 n1 e1 hs mA h2 (RZ _ _ h2 Lj) uY)
    · obtain ⟨n2,e2⟩:=RY _ _ _ h2 Lj uY
      exact absurd e.symm (apart _ _ _ _ _ _ h2 n2 e2 uY hl h1 (RZ _ _ h1 hk) hs)
    have:=he.distinct (t1-(an4 aE)) (u1-(an4 aE)) k k' li lj (RZ _ _ h1 hk) (RZ _ _ h2 Lj) hs uY (by rw [show (an4 aE)+(t1-(an4 aE))=t1 by omega];exact hl) (by rw [show (an4 aE)+(u1-(an4 aE))=u1 by omega];exact mA) e
    omega
   free:=fun t' li k hl hk hs hz=>by
    rcases HN t' li hl with h1|⟨h1,_⟩
    · obtain ⟨n1,e1⟩:=RY _ _ _ h1 hk hs
      obtain ⟨k2,Ck,hb⟩:=kI.df t' li h1;rw [e1] at Ck;injection Ck with Ck;subst Ck;have h0:=kI.free t' li k h1 e1 hs hz;cases hi:eA li.df with
      |none=>rfl
      |some o=>
       rcases imn _ _ hi with h|h
       · rw [h0] at h;cases h
       have:=hb.lt hs;omega
    exact ((Xx t' li k hl h1 (RZ _ _ h1 hk)).2 hs).1}
  os:=he.os,tape:=he.tape,output:=he.output,size:=he.size
  frame:=fun b hb h=>he.frame b hb fun t0 k li k0 hm hl hk hs=>h t0 li k0 hl hk hs
  dX:=fun b o h=>by
   rcases imn b o h with h|h
   · exact .inl h
   exact .inr (.inl h)
  nQ:=fun t' li h=>by
   rcases HN t' li h with h|⟨h,_⟩
   · exact .inl h
   exact .inr h
  own:=fun t' li k hl hk hs=>by
   rcases HN t' li hl with h1|⟨h1,_⟩
   · obtain ⟨n1,e1⟩:=RY _ _ _ h1 hk hs
     exact .inr ⟨t',li,k,h1,e1,hs,rfl⟩
   rcases ((Xx t' li k hl h1 (RZ _ _ h1 hk)).2 hs).2 with h|⟨lt,k0,a,b,c,d⟩
   · exact .inl h
   exact .inr ⟨t,lt,k0,a,b,c,d⟩}
theorem SR.HO (h:SR im loc aE fz w):loc (an4 aE)=anp:=by
 cases hl:loc (an4 aE) with
 |none=>rfl
 |some li=>obtain ⟨k,hk,_⟩:=h.df _ _ hl;simp at hk
theorem R0 {t e:Nat} {li:LI} {rows L:List Row} {arr fin:Array Value} {el:TypeId} (kI:SR im loc aE fz w) (hl:loc t=an9 li) (ck:aE[t]? =an9 (.arr e rows)) (dW:rows≠[]) (hf:has fz t=anr)
 (ha:w.heap[li.df]? =an9 (.cells arr el (0,0))) (hh:w'.heap=w.heap.setIfInBounds li.df (.cells fin el (0,0))) (ho:w'.os=w.os) (ht:w'.tape=w.tape) (hp:w'.output=w.output)
 (qR:fin.size=li.sz) (qW:li.sh+an4 L*e<=li.sz) (hr:bO (fun k=>fin[k]?) li.sh e L):
 tg im loc aE w {v:= .own (an4 aE) e 0 (an4 L) (an4 L) anr,news:=[.arr e L],wr:=[(t,.dead)]} im (loc.set (an4 aE) ⟨li.df,li.sh,e,an4 L,li.sz⟩) w':=by
 have dI:=(NE.1 ha).1;have Aq:(jX.arr e rows).bL=anq:=nv dW;have Bh:=kI.free t li _ hl ck Aq hf;have TC:=kI.HO;exact {
  gG:= .refl _,dS:=Loc.xI _ TC
  bG:=fun b o hb=>by
   have h1:=kI.bG b o hb;have NP:li.df≠b:=fun e=>by rw [e,hb] at Bh;cases Bh
   rw [hh,af4,rc NP];exact h1
  dX:=fun _ _ h=> .inl h,os:=ho,tape:=ht,output:=hp
  size:=by rw [hh];simp
  Rx:=fun t' k hm hs=>by
   obtain ⟨rfl,rfl⟩:t'=t/\k= .dead:=by simpa using hm
   cases hs
  frame:=fun b _ hb=>by
   have NP:=hb t .dead li _ (afc.2 rfl) hl ck Aq;rw [hh,af4,rc NP]
  wr:=fun t' k li hm mA=>by
   obtain ⟨rfl,rfl⟩:t'=t/\k= .dead:=by simpa using hm
   trivial
  k9:=fun t' l h=>by
   unfold Loc.set at h;split at h
   · rename_i e;subst e;exact .inr ⟨If _,by simp⟩
   exact .inl h
  news:=Cu fun j k hj=>by
   cases j with
   |zero=>
    simp at hj;subst hj;refine ⟨_,Loc.eQ _ _ _,⟨rfl,rfl,fun _=>⟨fin,el,by rw [hh];simp [dI],qR,qW,hr⟩⟩,fun _=>⟨Bh,.inr ⟨t,li,_,afc.2 rfl,hl,ck,Aq,rfl⟩⟩⟩
   |succ j=>simp at hj
  distinct:=fun i j ki kj li lj h1 h2 _ _ _ _ _=>by
   cases i<;>cases j<;>simp at h1 h2<;>rfl}
theorem HP {t e:Nat} {L:List Row} {fin:Array Value} {el:TypeId} (kI:SR im loc aE fz w)
 (hh:w'.heap=w.heap.push (.cells fin el (0,0))) (ho:w'.os=w.os) (ht:w'.tape=w.tape) (hp:w'.output=w.output)
 (qW:(an4 L)*e<=fin.size) (hr:bO (fun k=>fin[k]?) 0 e L):
 tg im loc aE w {v:= .own (an4 aE) e 0 (an4 L) (an4 L) anr,news:=[.arr e L],wr:=[(t,.dead)]} im (loc.set (an4 aE) ⟨w.heap.size,0,e,an4 L,fin.size⟩) w':=by
 have TC:=kI.HO;have old: ∀b,b<w.heap.size->w'.heap[b]? =w.heap[b]?:=fun b hb=>by rw [hh,Array.getElem?_push,rc (by omega)]
 have dI: ∀b o,im b=an9 o->b<w.heap.size:=fun b o h=>(NE.1 (kI.bG b o h)).1
 exact {
  gG:= .refl _,dS:=Loc.xI _ TC
  bG:=fun b o hb=>by rw [old b (dI b o hb)];exact kI.bG b o hb
  dX:=fun _ _ h=> .inl h,os:=ho,tape:=ht,output:=hp
  size:=by rw [hh];simp
  Rx:=fun t' k hm hs=>by
   obtain ⟨rfl,rfl⟩:t'=t/\k= .dead:=by simpa using hm
   cases hs
  frame:=fun b hb _=>old b hb
  wr:=fun t' k li hm mA=>by
   obtain ⟨rfl,rfl⟩:t'=t/\k= .dead:=by simpa using hm
   trivial
  k9:=fun t' l h=>by
   unfold Loc.set at h;split at h
   · rename_i e;subst e;exact .inr ⟨If _,by simp⟩
   exact .inl h
  news:=Cu fun j k hj=>by
   cases j with
   |zero=>
    simp at hj;subst hj;refine ⟨_,Loc.eQ _ _ _,⟨rfl,rfl,fun _=>⟨fin,el,by rw [hh];simp,rfl,by simpa using qW,hr⟩⟩,fun _=>⟨?_,.inl (If _)⟩⟩
    cases hi:im w.heap.size with
    |none=>rfl
    |some o=>have:=dI _ _ hi;omega
   |succ j=>simp at hj
  distinct:=fun i j ki kj li lj h1 h2 _ _ _ _ _=>by
   cases i<;>cases j<;>simp at h1 h2<;>rfl}
theorem HQ {esz:Nat}: ∀{rows:List Row} (_: ∀r∈rows,an4 r=esz) (i:Nat),(rows.take i).flatMap aV=(rows.flatMap aV).take (i*esz)
 | [],_,i=>by simp
 |r::rs,h,0=>by simp
 |r::rs,h,i+1=>by
  have hr:(aV r).length=esz:=by rw [lC];exact h r (by simp)
  have e1:(aV r).take ((i+1)*esz)=aV r:=afg (by rw [hr,agS];omega)
  rw [List.take_succ_cons,agc,HQ (fun x hx=>h x (by simp [hx])) i,agc,List.take_append,e1,hr,show (i+1)*esz-esz=i*esz by rw [agS];omega]
theorem HR {esz:Nat}: ∀{rows:List Row} (_: ∀r∈rows,an4 r=esz) (i:Nat),(rows.drop i).flatMap aV=(rows.flatMap aV).drop (i*esz)
 | [],_,i=>by simp
 |r::rs,h,0=>by simp
 |r::rs,h,i+1=>by
  have hr:(aV r).length=esz:=by rw [lC];exact h r (by simp)
  have e1:(aV r).drop ((i+1)*esz)=[]:=agt (by rw [hr,agS];omega)
  rw [List.drop_succ_cons,HR (fun x hx=>h x (by simp [hx])) i,agc,List.drop_append,e1,hr,show (i+1)*esz-esz=i*esz by rw [agS];omega,List.nil_append]
theorem Xy {α:Type} {o k:Nat} {cs vs l:List α} (hl:o+(an4 cs+an4 vs)<=an4 l) (hk:k<=an4 cs) (mZ: ∀j v,j<k->cs[j]? =an9 v->l[o+j]? =an9 v):
 ∀j v,(cs.take k++vs++cs.drop k)[j]? =an9 v->(mM (o+k) vs (mM (o+k+an4 vs) (cs.drop k) l))[o+j]? =an9 v:=by
 intro j v h;have hd:(cs.drop k).length=an4 cs-k:=agj;have ht:(cs.take k).length=k:=by rw [agr];omega
 have l1:o+k+an4 vs+(cs.drop k).length<=(an4 l):=by rw [hd];omega
 rw [gW _ _ _ (by rw [cW _ _ _ l1];omega)]
 rcases adc j k with h1|h1
 · rw [rc (by omega),gW _ _ _ l1,rc (by omega)]
   rw [afk,EQ (by omega),agd h1] at h
   exact mZ j v h1 h
 rw [afk,M2 (by omega),ht] at h
 rcases adc (j-k) (an4 vs) with h2|h2
 · rw [EQ h2] at h
   rw [pp ⟨by omega,by omega⟩,<- h]
   congr 1;omega
 rw [M2 h2] at h
 have:=(Do.1 h).1
 rw [rc (by omega),gW _ _ _ l1,pp ⟨by omega,by omega⟩,<- h]
 congr 1;omega
theorem Ua {α:Type} {k:Nat} {cs vs l:List α} (hl:(an4 cs)+an4 vs<=an4 l) (hk:k<=an4 cs) (mZ: ∀(j:Nat) (v:α),j<k->cs[j]? =an9 v->l[j]? =an9 v):
 ∀(j:Nat) (v:α),(cs.take k++vs++cs.drop k)[j]? =an9 v->(mM (k+an4 vs) (cs.drop k) (mM k vs l))[j]? =an9 v:=by
 intro j v h;have hd:(cs.drop k).length=an4 cs-k:=agj;have ht:(cs.take k).length=k:=by rw [agr];omega
 have l1:k+an4 vs<=(an4 l):=by omega
 rw [gW _ _ _ (by rw [cW _ _ _ l1,hd];omega)]
 rcases adc j k with h1|h1
 · rw [rc (by omega),gW _ _ _ l1,rc (by omega)]
   rw [afk,EQ (by omega),agd h1] at h
   exact mZ j v h1 h
 rw [afk,M2 (by omega),ht] at h
 rcases adc (j-k) (an4 vs) with h2|h2
 · rw [EQ h2] at h
   rw [rc (by omega),gW _ _ _ l1,pp ⟨by omega,by omega⟩,<- h]
 rw [M2 h2] at h
 have:=(Do.1 h).1
 rw [pp ⟨by omega,by omega⟩,<- h]
 congr 1;omega
theorem SR.R2 (h:SR im loc aE fz w) {t:Nat} (hf:has fz t=anr) {r:nU} (hw:r.wr=[(t,.dead)]):jo im loc aE w r where
 bG:=h.bG
 tok:=fun t _ li hl=>h.df t li hl
 free:=fun t' k hm li k' hl hk hs=>by
  rw [hw] at hm;obtain rfl:t'=t:=by have:=afc.1 hm;injection this
  exact h.free t' li k' hl hk hs hf
 fresh:=fun j hj=>by
  cases hl:loc (an4 aE+j) with
  |none=>rfl
  |some li=>obtain ⟨k,hk,_⟩:=h.df _ _ hl;rw [List.getElem?_eq_none (by omega)] at hk;cases hk
 iK:=fun t u li lj k k' _ _=>h.iK t u li lj k k'
structure Lo (P:Program) (f:FuncId) (e:Nat) (tS:TypeId):Prop where
 ends: ∀(od:Option Addr) (n c vb oV vc:Nat) (w w':World) (v':Value),n<=c->(Builtin.append_ #[tS,tS] tS #[.slice od n c,.slice (an9 ⟨vb,oV,anp⟩) 1 vc]).run P w= .ok v' w'->
  Calls P f #[.slice od n c,.int .i64 n,.slice (an9 ⟨vb,oV,anp⟩) 1 vc] w fun e W=>e= .returned v'/\W=w'
 room: ∀(b off n c i vb oV vc:Nat) (cs vs:List Value) (arr av:Array Value) (el ev:TypeId) (w:World),i<n->n+1<=c->n<=1048576->vb≠b->w.heap[b]? =an9 (.cells arr el (0,0))->w.heap[vb]? =an9 (.cells av ev (0,0))->
  off+(n+1)*e<=arr.size->an4 cs=n*e->an4 vs=e->(∀(j:Nat) (v:Value),cs[j]? =an9 v->arr[off+j]? =an9 v)->(∀(j:Nat) (v:Value),vs[j]? =an9 v->av[oV+j]? =an9 v)->(∀v∈cs,v.oneCell'=anq)->(∀v∈vs,v.oneCell'=anq)->
  ∃fin:List Value,an4 fin=arr.size/\(∀(j:Nat) (v:Value),(cs.take (i*e)++vs++cs.drop (i*e))[j]? =an9 v->fin[off+j]? =an9 v)/\
  Calls P f #[.slice (an9 ⟨b,off,anp⟩) n c,.int .i64 i,.slice (an9 ⟨vb,oV,anp⟩) 1 vc] w fun x w'=>
   x= .returned (.slice (an9 ⟨b,off,anp⟩) (n+1) c)/\w'.heap=w.heap.setIfInBounds b (.cells fin.toArray el (0,0))/\w'.os=w.os/\w'.tape=w.tape/\w'.output=w.output
 full: ∀(b off n i vb oV vc:Nat) (cs vs:List Value) (w:World),i<n->n<=1048576->an4 cs=n*e->an4 vs=e->
  (∀(j:Nat) (v:Value),cs[j]? =an9 v->w.cell? ⟨b,off+j,anp⟩=an9 v)->(∀(j:Nat) (v:Value),vs[j]? =an9 v->w.cell? ⟨vb,oV+j,anp⟩=an9 v)->(∀v∈cs,v.oneCell'=anq)->(∀v∈vs,v.oneCell'=anq)->
  ∃(G:Nat) (fin:List Value) (el:TypeId),n+1<=G/\an4 fin=G*e/\(∀(j:Nat) (v:Value),(cs.take (i*e)++vs++cs.drop (i*e))[j]? =an9 v->fin[j]? =an9 v)/\
  Calls P f #[.slice (an9 ⟨b,off,anp⟩) n n,.int .i64 i,.slice (an9 ⟨vb,oV,anp⟩) 1 vc] w fun x w'=>
   x= .returned (.slice (an9 ⟨w.heap.size,0,anp⟩) (n+1) G)/\w'.heap=w.heap.push (.cells fin.toArray el (0,0))/\w'.os=w.os/\w'.tape=w.tape/\w'.output=w.output
theorem Bk.ins {f:FuncId} {e:Nat} {tS tE:TypeId} {fn:Func} {c:Code} {i0:TypeInfo} {z:Value} (hf:P.funcs[f]? =an9 fn) (qx:(fn.name== "runtime.NumGoroutine")=anr) (hb:fn.body=an9 c)
 (ht:P.underlying tS=an9 (.slice tE)) (hi:P.info? tE=an9 i0) (qR:i0.size=e) (hz:i0.zero=an9 z) (KT:z.cells.size=e) (NN:i0.bytes<=1048576) (he0:0<e) (H:Lo P f e tS):Bk P f (IT e):=by
 refine ⟨fn,c,hf,qx,hb,?_⟩;intro args aE fz v u7 I8 hp im loc w us kI xA;unfold IT at hp;split at hp
 case h_2=>cases hp
 rename_i t e1 off len cap ex i u e2 anZ KK Ub ex2;split at hp
 case h_2=>cases hp
 rename_i e3 rows e4 new ck hsu;split at hp
 case isFalse=>cases hp
 rename_i hc;simp only [ut,aku,UV,decide_eq_true_eq,afo] at hc;obtain ⟨⟨⟨⟨⟨⟨⟨⟨⟨⟨⟨q1,q2⟩,rfl⟩,rfl⟩,cT⟩,rfl⟩,Bf⟩,htu⟩,Tj⟩,P7⟩,hil⟩,ij⟩:=hc;have q1:=q1.symm;subst q1;have q2:=q2.symm;subst q2;have ij:len+1<=1048576:=ij;injection hp with hp;simp only [IR] at hp;obtain ⟨rfl,rfl,rfl⟩:=hp
 obtain ⟨k,rfl⟩: ∃k:Nat,i=(k:Int):=⟨i.toNat,by omega⟩
 simp only [Int.toNat_natCast] at hil ⊢;obtain ⟨x0,R3,rfl,Jh,xA⟩: ∃x0 R3,us=x0::R3/\VR im loc (.own t e 0 len cap ex) x0/\eV im loc [.int .i64 (k:Int),.own u e 0 1 Ub ex2] R3:=by cases xA with|cons _ a _ b h1 h2=>exact ⟨a,b,rfl,h1,h2⟩
 obtain ⟨x1,us2,rfl,Hj,xA⟩: ∃x1 us2,R3=x1::us2/\VR im loc (.int .i64 (k:Int)) x1/\eV im loc [.own u e 0 1 Ub ex2] us2:=by cases xA with|cons _ a _ b h1 h2=>exact ⟨a,b,rfl,h1,h2⟩
 obtain ⟨x2,us3,rfl,Xw,xA⟩: ∃x2 us3,us2=x2::us3/\VR im loc (.own u e 0 1 Ub ex2) x2/\eV im loc [] us3:=by cases xA with|cons _ a _ b h1 h2=>exact ⟨a,b,rfl,h1,h2⟩
 obtain rfl:us3=[]:=by cases xA;rfl
 have Hj:=Hj.gx;subst Hj;obtain ⟨li,a,cV,rfl,hl,he,Cv,hlc,NI,_,Bg⟩:=Jh.gV;obtain ⟨lj,a2,Uc,rfl,KS,Dp,awI,ays,ayt,_,aoQ⟩:=Xw.gV;have N1:t<(an4 aE):=(Do.1 ck).1;obtain ⟨k1,gS,sy⟩:=kI.df t li hl;rw [ck] at gS;injection gS with gS;subst gS;obtain ⟨k2,Ck,atA⟩:=kI.df u lj KS;rw [hsu] at Ck;injection Ck with Ck;subst Ck
 obtain ⟨b1,b2,b3⟩:=sy;obtain ⟨d1,d2,d3⟩:=atA;have agE:new≠[]:=by intro h;subst h;simp at Bf
 obtain ⟨av,ev,NA,hv2,hv3,agF⟩:=d3 agE;have e34:e=e3:=by rw [<- b1,he]
 subst e34;have e44:e=e4:=by rw [<- d1,Dp]
 subst e44;obtain rfl:a2=an9 ⟨lj.df,lj.sh,anp⟩:=by
  rcases aoQ with h|⟨_,h,_⟩
  · omega
  simpa using h
 have He:=agF.ob;have Tk:=agF.plain;have Hf:=dF He;rw [Bf] at Hf;refine .inr ⟨iq hf qx hb,?_⟩;rcases adc k len with hk|hk
 ·
  have oe:rows≠[]:=by intro h;subst h;simp at cT;omega
  obtain ⟨arr,el,ti,IY,Kx,db⟩:=b3 oe;obtain ⟨Xb,rfl,qW⟩:li.n≠0/\a=an9 ⟨li.df,li.sh,anp⟩/\li.sh+cV*e<=li.sz:=by
   rcases Bg with h|⟨h1,h2,h3⟩
   · omega
   exact ⟨h1,by simpa using h2,by simpa using h3⟩
  have KQ:=db.ob;have Xe:=db.plain;have TA:=dF KQ;rw [<- cT] at TA;obtain ⟨L,hL⟩: ∃L,L=rows.take k++new++rows.drop k:=⟨_,rfl⟩;have hLl:(an4 L)=len+1:=by rw [hL];simp only [aff,agr,agj,Bf];omega
  have hLf:L.flatMap aV=(rows.flatMap aV).take (k*e)++new.flatMap aV++(rows.flatMap aV).drop (k*e):=by
   rw [hL,afQ,afQ,HQ KQ,HR KQ]
  have hLr: ∀r∈L,an4 r=e:=by
   intro r hr;rw [hL] at hr;rcases af2.1 hr with h|h
   · rcases af2.1 h with h|h
     · exact KQ r (agX h)
     exact He r h
   exact KQ r (aig h)
  have hLp: ∀r∈L,∀c∈r,c.plain=anq:=by
   intro r hr;rw [hL] at hr;rcases af2.1 hr with h|h
   · rcases af2.1 h with h|h
     · exact Xe r (agX h)
     exact Tk r h
   exact Xe r (aig h)
  rw [<- hL,<- hLl];have mZ: ∀j v,(rows.flatMap aV)[j]? =an9 v->arr[li.sh+j]? =an9 v:=fun j v hj=>db.flat j v hj
  have I3: ∀j v,(new.flatMap aV)[j]? =an9 v->av[lj.sh+j]? =an9 v:=fun j v hj=>agF.flat j v hj
  have Hb:(len+1)*e<=cV*e\/cV=len:=by
   rcases adc len cV with h|h
   · exact .inl (akr _ h)
   exact .inr (by omega)
  rcases Hb with tj|P3
  · have aoS:len+1<=cV:=Nat.le_of_mul_le_mul_right tj he0
    have dW:lj.df≠li.df:=fun h=>by
     have:=kI.iK u t lj li _ _ KS hl hsu ck (nv agE) (nv oe) h
     rw [this] at htu;simp at htu
    obtain ⟨fin,f1,f2,f3⟩:=H.room li.df li.sh len cV k lj.df lj.sh Uc _ _ arr av el ev w hk aoS (by omega) dW ti NA (by omega) TA (by omega) mZ I3 (oc Xe) (oc Tk)
    refine f3.mono fun x w' ⟨hx,hh,ho,htp,hpp⟩=>⟨_,hx,im,loc.set (an4 aE) ⟨li.df,li.sh,e,an4 L,li.sz⟩,?_⟩
    have hE:=R0 (w':=w') (L:=L) kI hl ck oe Tj ti hh ho htp hpp (by simp [f1,IY]) (by rw [hLl];omega) (bO.Ao hLr hLp fun j v hj=>by
     rw [hLf] at hj;simpa using f2 j v hj)
    refine yY kI hE rfl rfl N1 ?_;rw [<- hLl];exact .own _ _ 0 _ _ anr ⟨li.df,li.sh,e,an4 L,li.sz⟩ _ cV (Loc.eQ _ _ _) rfl (by show 0+an4 L<=an4 L;omega) (If _) (by omega) (fun h=>by cases h) (.inr ⟨by show (an4 L)≠0;omega,by simp,by show li.sh+(0+cV)*e<=li.sz;rw [an2];exact qW⟩)
  subst P3
  obtain ⟨G,fin,el',g1,g2,g3,g4⟩:=H.full li.df li.sh cV k lj.df lj.sh Uc _ _ w hk (by omega) TA (by omega) (fun j v hj=>by simp only [amo,ti];exact mZ j v hj) (fun j v hj=>by simp only [amo,NA];exact I3 j v hj) (oc Xe) (oc Tk)
  have hg:(cV+1)*e<=G*e:=akr _ g1;refine g4.mono fun x w' ⟨hx,hh,ho,htp,hpp⟩=>⟨_,hx,im,loc.set (an4 aE) ⟨w.heap.size,0,e,an4 L,fin.toArray.size⟩,?_⟩
  have hE:=HP (w':=w') (t:=t) (L:=L) (e:=e) kI hh ho htp hpp (by rw [hLl];simp [g2];omega) (bO.Ao hLr hLp fun j v hj=>by
   rw [hLf] at hj;simpa using g3 j v hj)
  refine yY kI hE rfl rfl N1 ?_;rw [<- hLl];exact .own _ _ 0 _ _ anr ⟨w.heap.size,0,e,an4 L,fin.toArray.size⟩ _ G (Loc.eQ _ _ _) rfl (by show 0+an4 L<=an4 L;omega) (If _) (by omega) (fun h=>by cases h) (.inr ⟨by show (an4 L)≠0;omega,by simp,by show 0+(0+G)*e<=fin.toArray.size;simp [g2]⟩)
 ·
  obtain rfl:k=len:=by omega
  have atB:rows.take k++new++rows.drop k=rows++new:=by
   rw [afg (by omega),agt (by omega),List.append_nil]
  rw [atB];have atC:VR im loc (.own t e 0 k k anr) (.slice a k cV):= .own t e 0 k k anr li a cV hl he (by omega) (If _) (by omega) (by simp) Bg
  have A8:rowsOf aE e (.own u e 0 1 Ub ex2)=an9 new:=by
   have:(new.drop 0).take 1=new:=by rw [an0,afg (by omega)]
   show (if AC e e=anq then (match aE[u]? with|some (.arr _ rows)=>an9 ((rows.drop 0).take 1)|_=>anp) else anp)=_
   rw [pp (Nat.beq_refl e),hsu];exact congrArg an9 this
  have hap:iP aE fz e (.own t e 0 k k anr) (.own u e 0 1 Ub ex2)=an9 {v:= .own (an4 aE) e 0 (k+1) (k+1) anr,news:=[.arr e (rows++new)],wr:=[(t,.dead)],rd:=[u]}:=by
   have h1:af6 (k+1) k=anr:=by
    cases h:af6 (k+1) k with
    |false=>rfl
    |true=>have:=Nat.le_of_ble_eq_true h;omega
   have h2:af6 (k+1) eN=anq:=by simpa [eN] using ij
   have h3:(rows.drop 0).take k=rows:=by rw [an0,afg (by omega)]
   unfold iP;rw [A8];cases new with
   |nil=>exact absurd rfl agE
   |cons r rs=>
    have h0:(r::rs).length=1:=Bf;simp only [h0,ck,h1,h2,h3,Tj,iO];simp
  obtain ⟨v',w',bo,cu,oU,hE⟩:=EP (P:=P) (w:=w) (ty:=tS) ht ht hi qR hz KT NN atC Xw hap (kI.R2 Tj rfl);refine (H.ends a k cV lj.df lj.sh Uc w w' v' (by omega) cu).mono fun x W ⟨hx,hW⟩=>⟨v',hx,im,bo,?_⟩
  subst hW;exact yY kI hE rfl rfl N1 oU
end
end Go.Vm
/- slices.Concat of two slices that nobody writes to: the table's entry. -/
namespace Go.Vm
def Ud (P : Program) (f : FuncId) : Prop :=
  ∀ (vb c : Nat) (a1 a2 : Option Addr) (c1 c2 : Nat) (Hk Hl : List Value) (av : Array Value) (ev : TypeId) (w : World), w.heap[vb]? = an9 (.cells av ev (0, 0)) -> av[0]? = an9 (.slice a1 (an4 Hk) c1) -> av[1]? = an9 (.slice a2 (an4 Hl) c2) -> 1 <= (an4 Hk) + (an4 Hl) -> (an4 Hk) + (an4 Hl) <= 1048576 ->
    (∀ (j : Nat) (v : Value), Hk[j]? = an9 v -> ∃ b o, a1 = an9 ⟨b, o, anp⟩ /\ w.cell? ⟨b, o + j, anp⟩ = an9 v) -> (∀ (j : Nat) (v : Value), Hl[j]? = an9 v -> ∃ b o, a2 = an9 ⟨b, o, anp⟩ /\ w.cell? ⟨b, o + j, anp⟩ = an9 v) -> (∀ v ∈ Hk, v.oneCell' = anq) -> (∀ v ∈ Hl, v.oneCell' = anq) ->
    ∃ (G : Nat) (fin : List Value) (el : TypeId), (an4 Hk) + (an4 Hl) <= G /\ (an4 fin) = G /\ (∀ (j : Nat) (v : Value), (Hk ++ Hl)[j]? = an9 v -> fin[j]? = an9 v) /\
    Calls P f #[.slice (an9 ⟨vb, 0, anp⟩) 2 c] w fun x w' => x = .returned (.slice (an9 ⟨w.heap.size, 0, anp⟩) ((an4 Hk) + (an4 Hl)) G) /\ w'.heap = w.heap.push (.cells fin.toArray el (0, 0)) /\ w'.os = w.os /\ w'.tape = w.tape /\ w'.output = w.output
section
variable {P : Program} {im : Im} {loc : Loc} {w : World}
theorem m8 {rows:List Row} (h:vK rows=anq):(∀r∈rows,an4 r=1)/\ ∀r∈rows,∀c∈r,c.plain=anq:=by
 unfold vK at h;rw [af7] at h;constructor
 · intro r hr
   have:=h r hr
   simp only [ut,aku] at this;exact this.1
 intro r hr c hc
 have:=h r hr
 simp only [ut,af7] at this;exact this.2 c hc
theorem Lp {e:Nat} {cl:Bool} {rows:List Row} {u:Value} (h:VR im loc (.sl e cl rows) u) (h1:vK rows=anq) (he:(AC e 1||rows.isEmpty)=anq) (bG: ∀b o,im b=an9 o->w.heap[b]? =an9 o):
 ∃a c,u= .slice a (rows.flatMap aV).length c/\(rows.flatMap aV).length=an4 rows/\ ∀(j:Nat) (v:Value),(rows.flatMap aV)[j]? =an9 v-> ∃b o,a=an9 ⟨b,o,anp⟩/\w.cell? ⟨b,o+j,anp⟩=an9 v:=by
 obtain ⟨a,cap,rfl,_,_,lB⟩:=h.oa;obtain ⟨l1,l2⟩:=m8 h1;have hl:=dF l1;rw [Nat.mul_one] at hl;refine ⟨a,cap,by rw [hl],hl,fun j v hj=>?_⟩
 have dW:rows≠[]:=by intro h;subst h;simp at hj
 obtain ⟨b,o,rfl,db⟩:=lB dW;obtain rfl:e=1:=by
  cases rows with
  |nil=>exact absurd rfl dW
  |cons r rs=>simpa using he
 exact ⟨b,o,rfl,qt bG (db.flat j v hj)⟩
theorem Bk.cat {f:FuncId} {fn:Func} {c:Code} (hf:P.funcs[f]? =an9 fn) (qx:(fn.name== "runtime.NumGoroutine")=anr) (hb:fn.body=an9 c) (H:Ud P f):Bk P f IQ:=by
 refine ⟨fn,c,hf,qx,hb,?_⟩;intro args aE fz v u7 I8 hp im loc w us kI xA;unfold IQ at hp;split at hp
 case h_2=>cases hp
 rename_i t e off len cap ex;split at hp
 case h_2=>cases hp
 rename_i e1 cl1 x e2 cl2 y ck;split at hp
 case isFalse=>cases hp
 rename_i hc;simp only [ut,aku,UV,afo] at hc;obtain ⟨⟨⟨⟨⟨⟨⟨⟨⟨rfl,rfl⟩,rfl⟩,Tj⟩,Hj⟩,Xz⟩,Hd⟩,ij⟩,Tl⟩,Dp⟩:=hc;have ij:(an4 x)+an4 y<=1048576:=ij;injection hp with hp;simp only [IR] at hp;obtain ⟨rfl,rfl,rfl⟩:=hp
 obtain ⟨x0,R3,rfl,Jh,xA⟩: ∃x0 R3,us=x0::R3/\VR im loc (.own t 1 0 2 cap ex) x0/\eV im loc [] R3:=by cases xA with|cons _ a _ b h1 h2=>exact ⟨a,b,rfl,h1,h2⟩
 obtain rfl:R3=[]:=by cases xA;rfl
 obtain ⟨li,a,cV,rfl,hl,he,Cv,hlc,NI,_,Bg⟩:=Jh.gV;obtain ⟨k1,gS,sy⟩:=kI.df t li hl;rw [ck] at gS;injection gS with gS;subst gS;obtain ⟨_,_,b3,vs,ev,b4,b5,b6⟩:=sy;have N1:t<(an4 aE):=(Do.1 ck).1
 obtain ⟨u1,vs1,rfl,v1,b6⟩: ∃u1 vs1,vs=u1::vs1/\VR im loc (.sl e1 cl1 x) u1/\eV im loc [.sl e2 cl2 y] vs1:=by cases b6 with|cons _ a _ b h1 h2=>exact ⟨a,b,rfl,h1,h2⟩
 obtain ⟨u2,vs2,rfl,v2,b6⟩: ∃u2 vs2,vs1=u2::vs2/\VR im loc (.sl e2 cl2 y) u2/\eV im loc [] vs2:=by cases b6 with|cons _ a _ b h1 h2=>exact ⟨a,b,rfl,h1,h2⟩
 obtain rfl:vs2=[]:=by cases b6;rfl
 obtain rfl:a=an9 ⟨li.df,0,anp⟩:=by
  rcases Bg with h|⟨_,h,_⟩
  · omega
  rw [b3] at h;simpa using h
 obtain ⟨a1,d1,rfl,l1,r1⟩:=Lp v1 Hj Tl kI.bG;obtain ⟨a2,d2,rfl,l2,r2⟩:=Lp v2 Xz Dp kI.bG;obtain ⟨G,fin,el,g1,g2,g3,g4⟩:=H li.df cV a1 a2 d1 d2 (x.flatMap aV) (y.flatMap aV) _ ev w b4 rfl rfl (by omega) (by omega) r1 r2 (oc (m8 Hj).2) (oc (m8 Xz).2)
 refine .inr ⟨iq hf qx hb,?_⟩;have hL:(x++y).length=(x.flatMap aV).length+(y.flatMap aV).length:=by rw [aff];omega
 refine g4.mono fun z w' ⟨hz,hh,ho,htp,hpp⟩=>⟨_,hz,im,loc.set (an4 aE) ⟨w.heap.size,0,1,(x++y).length,fin.toArray.size⟩,?_⟩
 have hE:=HP (w':=w') (t:=t) (L:=x++y) (e:=1) kI hh ho htp hpp (by rw [Nat.mul_one,hL,List.size_toArray,g2];exact g1) (bO.Ao (fun r hr=>by
  rcases af2.1 hr with h|h
  · exact (m8 Hj).1 r h
  · exact (m8 Xz).1 r h) (fun r hr=>by
  rcases af2.1 hr with h|h
  · exact (m8 Hj).2 r h
  · exact (m8 Xz).2 r h) fun j v hj=>by
  rw [afQ] at hj;simpa using g3 j v hj)
 refine yY kI hE rfl rfl N1 ?_;rw [<- hL];exact .own _ _ 0 _ _ anr ⟨w.heap.size,0,1,(x++y).length,fin.toArray.size⟩ _ G (Loc.eQ _ _ _) rfl (by show 0+(x++y).length<=(x++y).length;rw [an2];exact If _) (If _) (by rw [hL];exact g1) (fun h=>by cases h) (.inr ⟨by show (x++y).length≠0;omega,by simp,by show 0+(0+G)*1<=fin.toArray.size;simp [g2]⟩)
end
end Go.Vm
/- A table of functions as a tree. -/
namespace Go.Vm
inductive TT where
 |nil
 |leaf (k:Nat) (e:Ent)
 |node (m:Nat) (a b:TT)
def TT.get:TT->Nat->Option Ent
 | .nil,_=>anp
 | .leaf k e,f=>bif AC f k then an9 e else anp
 | .node m a b,f=>bif afF f m then a.get f else b.get f
def TT.All (p:Nat->Ent->Prop):TT->Prop
 | .nil=>True
 | .leaf k e=>p k e
 | .node _ a b=>a.All p/\b.All p
theorem TT.Bt {p:Nat->Ent->Prop}: ∀{t:TT} {f:Nat} {e:Ent},t.All p->t.get f=an9 e->p f e
 | .nil,f,e,_,h=>by cases h
 | .leaf k e',f,e,ha,h=>by
  simp only [TT.get] at h;cases hk:AC f k with
  |false=>rw [hk] at h;cases h
  |true=>
   rw [hk] at h
   have:f=k:=by simpa using hk
   subst this;have h:an9 e'=an9 e:=h;injection h with h;subst h;exact ha
 | .node m a b,f,e,ha,h=>by
  simp only [TT.get] at h;cases hk:afF f m with
  |false=>rw [hk] at h;exact TT.Bt ha.2 h
  |true=>rw [hk] at h;exact TT.Bt ha.1 h
def tq (P:Program) (f:Nat):Ent->Prop
 | .code x=>au P (fun _=>anq) x f=anq
 | .kf k p=>k=anr/\I9 P f p
 | .G6 p=>Bk P f p
theorem TT.aoV {P:Program} {t:TT} (h:t.All (tq P)):Lk P (fun _=>anq) t.get:=fun f x hf=>by
 have:=TT.Bt h hf
 exact this
theorem TT.XA {P:Program} {t:TT} (h:t.All (tq P)):yT P t.get:=⟨fun _ _ _ hf=>TT.Bt h hf,fun _ _ hf=>TT.Bt h hf⟩
end Go.Vm
/- The logical machine's code of a function, reckoned from the model's own (what it comes to is looked at by chkFunc; nothing is proved of it here). -/
namespace Go.Vm
structure Hint where
 md:FuncId->CM
 fU:List Nat
 atD:List (Nat×List (Nat×Nat)):=[]
 more:List (Nat×List (Nat×Option Nat)):=[]
 tb:Bool:=anr
section
variable (P : Program)
def R4 (t:TypeId):Nat:=match P.info? t with
 |some i=>i.size
 |none=>0
def N7 (t:TypeId):Option Nat:=match P.underlying t with
 |some (.struct _)|some (.array _ _)=>an9 (R4 P t)
 |_=>anp
def uv:Nat->TypeId->List PV
 |0,_=>[]
 |n+1,t=>match P.underlying t with
  |some (.int k)=>[.int k 0]
  |some .bool=>[.bool anr]
  |some .string=>[.str .empty]
  |some (.slice e)=>[.sl (R4 P e) anq []]
  |some (.struct fs)=>fs.toList.flatMap fun f=>uv n f.type
  |some (.array m e)=>(afm m (uv n e)).flatten
  |some (.func ..)=>[.dR]
  |_=>[.undef]
def afs (t:TypeId):PV:=match uv P 9 t with
 |x::_=>x
 | []=> .sl 0 anq []
def aft (t:TypeId):PV:=match N7 P t with
 |some _=> .agg (uv P 9 t)
 |none=>afs P t
def afu (z:PV):Value->PV
 | .int k n=> .int k n
 | .bool b=> .bool b
 | .string s=> .str s
 | .slice .. =>z
 | .nilFunc=> .dR
 |_=> .undef
def afv:List PV->List Value->List PV
 |z::zs,v::vs=>afu z v::afv zs vs
 |_,_=>[]
def atE (t:TypeId):Value->PV
 | .agg vs=> .agg (afv (uv P 9 t) vs.toList)
 |v=>afu (afs P t) v
def rG (t:TypeId):Operand->fE
 | .tmp n=> .t n
 | .const v=> .c (atE P t v)
 | .func f=> .c (.eI f [] [])
 | .global _=> .c .undef
def Ue:List TypeId->List Operand->List fE
 |t::ts,o::os=>rG P t o::Ue ts os
 |_,_=>[]
def gA:Operand->fE
 | .tmp n=> .t n
 | .const (.int k n)=> .c (.int k n)
 | .const (.bool b)=> .c (.bool b)
 | .const (.string s)=> .c (.str s)
 | .func f=> .c (.eI f [] [])
 |_=> .c .undef
def zN (t:TypeId):TypeId:=match P.underlying t with
 |some (.slice e)=>e
 |some (.array _ e)=>e
 |_=>0
def Uf (place:Nat->Option (Nat×Nat)) (ty:Nat->TypeId):List (Nat×Operand)->List (Nat×Nat×fE)
 | []=>[]
 |(i,o)::r=>match place i with
  |some (a,b)=>(a,b,rG P (ty i) o)::Uf place ty r
  |none=>[]
def Ug (t:TypeId) (i:Nat):TypeId:=match P.underlying t with
 |some (.struct fs)=>match fs[i]? with
  |some f=>f.type
  |none=>0
 |some (.array _ e)=>e
 |_=>0
def aoW (t:TypeId) (i:Nat):Nat:=match P.underlying t with
 |some (.struct fs)=>match fs[i]? with
  |some f=>f.offset
  |none=>0
 |_=>0
def afw:BinOp->Bool
 | .neq=>anq
 |_=>anr
def Uh (b:Builtin) (args:List Operand) (ts:List TypeId):k7:=
 match b,args,ts with
 | .len,x::_,t::_=>match P.underlying t with
  |some (.slice _)|some (.map _ _)=> .len (rG P t x)
  |some (.array m _)=> .NG m
  |some (.pointer e)=>match P.underlying e with
   |some (.array m _)=> .NG m
   |_=> .bad
  |_=> .bad
 | .append,[x,y],[t,u]=>match P.underlying u with
  |some (.slice _)=> .append (R4 P (zN P t)) (rG P t x) (rG P u y)
  |_=> .bad
 | .copy,[x,y],[t,u]=>match P.underlying u with
  |some (.slice _)=> .copy (R4 P (zN P t)) (rG P t x) (rG P u y)
  |_=> .bad
 | .clear,[x],[t]=>match P.underlying t with
  |some (.slice e)=> .clear (R4 P e) (uv P 9 e) (rG P t x)
  |_=> .bad
 | .min,x::xs,_=> .mm anr (gA x) (xs.map gA)
 | .max,x::xs,_=> .mm anq (gA x) (xs.map gA)
 |_,_,_=> .bad
def cOp (tb:Bool) (md:FuncId->CM) (ty:TypeId):Op->k7
 | .move x| .assign x=> .Ti (rG P ty x)
 | .pick c a b=> .pick (gA c) (rG P ty a) (rG P ty b)
 | .binOp op t x y _=>match P.underlying t with
  |some (.int _)=> .bin op (gA x) (gA y)
  |some .bool=> .KC (afw op) (gA x) (gA y)
  |some (.struct _)|some (.array _ _)=> .eqc (R4 P t) (afw op) (rG P t x) (rG P t y)
  |_=> .bad
 | .unOp op _ x=> .un op (gA x)
 | .convert _ t x=>match P.underlying t with
  |some (.int k)=> .conv k (gA x)
  |_=> .bad
 | .box t x=> .box (rG P t x)
 | .alloc t=> .alloc (uv P 9 t)
 | .build t ps=> .build (uv P 9 t) (Uf P (placeOf P t) (Ug P t) ps.toList)
 | .buildSlice t n ps=>match P.underlying (zN P t),n,ps.toList with
  |some (.slice _),2,[(0,a),(1,b)]=> .Di (rG P (zN P t) a) (rG P (zN P t) b)
  |_,_,_=> .A' (R4 P (zN P t)) n (uv P 9 (zN P t)) (ps.toList.map fun p=>(p.1,rG P (zN P t) p.2))
 | .load t a=> .load (N7 P t) (gA a)
 | .store t a v=> .store (R4 P t) (gA a) (rG P t v)
 | .nilCheck x=> .KD (gA x)
 | .fieldAddr t a f=> .KE (aoW P t f) (gA a)
 | .field t a f=> .ie (N7 P (Ug P t f)) (aoW P t f) (gA a)
 | .indexAddr t a j=>match P.underlying t with
  |some (.slice e)=> .KF (R4 P e) (rG P t a) (gA j)
  |some (.array m e)=> .Dj m (R4 P e) (gA a) (gA j)
  |_=> .bad
 | .index t a j=>match P.underlying t with
  |some (.array m e)=> .idx m (R4 P e) (N7 P e) (rG P t a) (gA j)
  |some .string=> .KG (gA a) (gA j)
  |_=> .bad
 | .slice t a b c d=>match P.underlying t with
  |some (.slice e)=> .Ru (R4 P e) (rG P t a) (b.map gA) (c.map gA) (d.map gA)
  |_=> .bad
 | .makeSlice t a b=> .mks (R4 P (zN P t)) (uv P 9 (zN P t)) (gA a) (gA b)
 | .makeFunc (.func g) c d=> .mkf g (c.toList.map gA) (d.toList.map gA)
 | .makeMap t _=> .mkm (bif tb then (match P.underlying t with
  |some (.map _ e)=>an9 (aft P e)
  |_=>anp) else anp)
 | .extract a j=> .ext j (gA a)
 | .lookup t a b ok=>match P.underlying t with
  |some (.map k e)=> .lookup (N7 P k) (aft P e) ok (gA a) (rG P k b)
  |_=> .bad
 | .mapUpdate t a b c| .insert t a b c=>match P.underlying t with
  |some (.map k e)=> .IM (N7 P k) (gA a) (rG P k b) (rG P e c)
  |_=> .bad
 | .call c=>match c.callee with
  | .builtin b=>Uh P b c.args.toList c.argTypes.toList
  | .value (.func f)=> .call (md f) f (Ue P c.argTypes.toList c.args.toList)
  | .value x=> .xb (gA x) (Ue P c.argTypes.toList c.args.toList)
  |_=> .bad
 |_=> .bad
def aoX (tb:Bool) (md:FuncId->CM) (ops:Array Oper) (o:Oper):bU:=
 ⟨o.dst,cOp P tb md o.type o.op,match o.guard with
  |some (i,b)=>match ops[i]? with
   |some q=>match q.dst with
    |some d=>an9 (d,b)
    |none=>anp
   |none=>anp
  |none=>anp⟩
def Ui:List Nat->List Oper->List Nat
 |acc,[]=>acc
 |acc,o::os=>Ui (acc++[(ny acc (an4 acc) o.after.toList).getD 0]) os
def bitsOf:Nat->Nat->Nat->List Nat
 |0,_,_=>[]
 |n+1,i,m=>bif AC m 0 then [] else bif AC (Nat.mod m 2) 1 then i::bitsOf n (i+1) (Nat.div m 2) else bitsOf n (i+1) (Nat.div m 2)
def Uj (l:List (Nat×Nat)) (x:Nat):Nat×Option Nat:=match l with
 | []=>(x,anp)
 |(t,k)::r=>bif AC t x then (x,an9 k) else Uj r x
def Uk {α:Type} (n:Nat):List (Nat×List α)->List α
 | []=>[]
 |(m,l)::r=>bif AC m n then l else Uk n r
def hd (l:List Nat):Nat:=match l with
 |x::_=>x
 | []=>0
structure CSt where
 ks:List Nat
 n:Nat
def Fk (H:Hint):Code->CSt->jY×CSt
 | .region _ ops dr,s=>(.region (match dr with|true=>an9 (Ui [] ops.toList)|false=>anp) (ops.toList.map (aoX P H.tb H.md ops)) (bitsOf 1000 0 (hd s.ks)),⟨s.ks.tail,s.n⟩)
 | .seq a b,s=>match Fk H a s with
  |(x,s1)=>match Fk H b s1 with
   |(y,s2)=>(.seq x y,s2)
 | .cond c a b,s=>match Fk H a s with
  |(x,s1)=>match Fk H b s1 with
   |(y,s2)=>(.cond (gA c) x y,s2)
 | .block id b,s=>match Fk H b s with
  |(x,s1)=>(.block id x,s1)
 | .loop b,s=>match Fk H b ⟨s.ks.tail,s.n+1⟩ with
  |(x,s1)=>(.loop ((bitsOf 1000 0 (hd s.ks)).map (Uj (Uk s.n H.atD))++Uk s.n H.more) x,s1)
 | .exit id,s=>(.exit id,s)
 | .ret,s=>(.ret,s)
 |_,s=>(.skip,s)
def atF:ResultVar->RV
 | .tmp t=> .tmp t
 | .cell t ty=> .cell t (N7 P ty)
def agI (fn:Func) (H:Hint):aJ:=
 ⟨fn.params.size+fn.nfree,match fn.body with
  |some c=>(Fk P H c ⟨H.fU,0⟩).1
  |none=> .skip,fn.results.toList.map (atF P)⟩
def atG (ow sh fp:List Nat) (f:FuncId):CM:=bif has ow f then .own else bif has sh f then .shr else bif has fp f then .fp else .WN
end
end Go.Vm
/- A law's row from what the logical machine answers: the result is anq, nothing that was there has turned. -/
namespace Go.Vm
open Go.ChangeShapes Go.WideShapes Go.ChangeAt Go.RowKit
section
variable {H : Type} {enc : TypeId × Value -> H} {P : Program}
theorem zO (hl:laidOutB P=anq) {W W':World} (hb:Below W.heap.size W W'): ∀{ts:List TypeId} {vs:List Value} {ds:List (DataW H)} {ps:List MemPlace},(∀t∈ts,P.readableRec t=anq/\t<P.types.size)->
 DataW.TrodAll enc P W 0 (fun _=>anq) anq ts vs ds ps->(∀x∈ps,x.block<W.heap.size)->DataW.TrodAll enc P W' 0 (fun b=>decide (b<W.heap.size)) anq ts vs ds ps
 | [],vs,ds,ps,_,h,_=>by
  obtain ⟨rfl,rfl,rfl⟩:=trodAll_nil h;exact trodAll_mk0
 |t::ts,vs,ds,ps,ht,h,dI=>by
  obtain ⟨v,Nz,d,zD,p,q,rfl,rfl,rfl,h1,h2⟩:=trodAll_cons h;obtain ⟨h3,h4⟩:=ht t (by simp)
  exact trodAll_cons_mk (Below.trod hl h3 h4 h1 hb fun x hx=>dI x (by simp [hx])) (zO hl hb (fun t' P4=>ht t' (by simp [P4])) h2 fun x hx=>dI x (by simp [hx]))
theorem Ul (hl:laidOutB P=anq) {f:Func} {s:ChangeSpec} {W W':World} {args:Array Value} {ds:List (DataW H)} {before:List MemPlace} {bt:TypeId} (aoY:s.vars=[]) (Bs:f.resultTypes= #[bt]) (hbt:P.underlying bt=an9 .bool)
 (hp: ∀t∈f.params.toList,P.readableRec t=anq/\t<P.types.size) (hW:DataW.Whole enc P f.params.toList s.vars anr W args.toList ds [] before)
 (hfn:s.fn H (ds++[])={results:=[.lit (.bool anq)],args:=ds}) (hb:Below W.heap.size W W'):s.post enc P f anr anq anr anr W args (.bool anq) W':=by
 have hW':=hW;obtain ⟨p,q,hA,hV,rfl,Tj,G8⟩:=hW;have dI: ∀x∈p++q,x.block<W.heap.size:=fun x hx=>by simpa using hW'.lt x hx
 refine ⟨ds,[],p++q,[],p,[],hW',?_,?_,?_,hb.frame _,fun h=>by cases h⟩
 · rw [hfn,Bs]
   exact trodAll_mk1 (shut_bool hbt anq)
 · rw [hfn]
   exact zO hl hb hp hA fun x hx=>dI x (by simp [hx])
 rw [hfn,aoY]
 rfl
end
def Fl (w:World):Im:=fun b=>w.heap[b]?
theorem R5 {w:World} {b o:Nat} {v:Value} (h:w.cell? ⟨b,o,anp⟩=an9 v):nY (Fl w) b o=an9 v:=by
 unfold amo at h;unfold nY Fl;exact h
theorem R6 {P:Program} {F:mX} {prims:FuncId->Bool} (hT:Lk P prims F) (Bl:yT P F) (qv:P.follows .mixedOrders=anq) {f:FuncId} {args:List PV} {s:cH} {z:List Nat} {n:Nat} {us:List Value} {w:World}
 (h:run F n (.func f args [] [])=an9 (.func (.bool anq) s z)) (xA:eV (Fl w) gf args us):Calls P f ⟨us⟩ w fun e w'=>e= .returned (.bool anq)/\Below w.heap.size w w':=by
 refine (RX hT Bl qv h (im:=Fl w) (fun b o h=>h) xA).mono fun e w' ⟨u,he,⟨eA,bo,oU,_⟩,h1,h2,h3,h4,h5⟩=>?_
 obtain rfl:=oU.jE;exact ⟨he,⟨h1,h2,h3,h4,h5⟩⟩
end Go.Vm
/- Regions of one order, step by step, for contracts. -/
namespace Go.Vm
def CK:k7->Bool
 | .call .. | .xb .. =>anq
 |_=>anr
variable {F : mX}
def WS (F:mX) (ops:List bU) (st:St) (Q:St->Prop):Prop:= ∀tr,WO F ops st tr (fun s _=>Q s)
def Ji (st:St) (o:bU):Option St:=
 match wanted o.guard st.env with
 |some anq=>match bE st.env st.aE st.fz o.op with
  |some x=>if (XR.loc x).ok st.fz then an9 ((XR.loc x).next o.dst st) else anp
  |none=>anp
 |some anr=>an9 {st with env:=iJ o.dst .jB st.env}
 |none=>anp
theorem Jj {rec:Task->Option Out} {e:Env} {aE:cH} {fz:List Nat} {op:k7} (h:CK op=anr):
 xe F rec e aE fz op=(bE e aE fz op).map .loc:=by
 cases op<;>first|rfl|cases h
theorem WS.nil {st:St} {Q:St->Prop} (h:Q st):WS F [] st Q:=fun _=>WO.nil h
theorem WS.cons {o:bU} {r:List bU} {st kO:St} {Q:St->Prop} (h:CK o.op=anr) (hs:Ji st o=an9 kO) (k:WS F r kO Q):WS F (o::r) st Q:=by
 intro tr;unfold Ji at hs;split at hs
 · rename_i hw
   split at hs
   · rename_i x hx
     split at hs
     · rename_i Aj
       injection hs with hs;subst hs;exact WO.op x hw (fun rec=>by rw [Jj h,hx];rfl) Aj (k _)
     cases hs
   cases hs
 · rename_i hw
   injection hs with hs;subst hs;exact WO.skip hw (k _)
 cases hs
theorem WS.one {o:bU} {r:List bU} {st:St} {Q:St->Prop} (x:nU) (hc:CK o.op=anr) (hw:wanted o.guard st.env=an9 anq) (hx:bE st.env st.aE st.fz o.op=an9 x) (Aj:(XR.loc x).ok st.fz=anq)
 (k:WS F r ((XR.loc x).next o.dst st) Q):WS F (o::r) st Q:=fun tr=>
 WO.op x hw (fun rec=>by rw [Jj hc,hx];rfl) Aj (k _)
def El:List bU->St->Option St
 | [],st=>an9 st
 |o::r,st=>match CK o.op with
  |true=>anp
  |false=>match Ji st o with
   |some kO=>El r kO
   |none=>anp
theorem WS.all: ∀{ops:List bU} {st kO:St} {Q:St->Prop},El ops st=an9 kO->Q kO->WS F ops st Q
 | [],st,kO,Q,h,hq=>by simp only [El,ww] at h;subst h;exact WS.nil hq
 |o::r,st,kO,Q,h,hq=>by
  simp only [El] at h;cases hc:CK o.op with
  |true=>rw [hc] at h;cases h
  |false=>
   rw [hc] at h;dsimp only at h;cases hs:Ji st o with
   |none=>rw [hs] at h;cases h
   |some s1=>rw [hs] at h;exact WS.cons hc hs (WS.all h hq)
theorem WS.pure {d:Option Nat} {g:Option (Nat×Bool)} {f:FuncId} {as:List fE} {r:List bU} {st:St} {Q:St->Prop}
 {args:List PV} {v:PV} (h:Pure F f args v) (hw:wanted g st.env=an9 anq) (ha:Cp st.aE (xD st.aE deep) (EE st.env as)=an9 args)
 (k:WS F r {st with env:=iJ d v st.env} Q):WS F (⟨d,.call .WN f as,g⟩::r) st Q:=fun tr=>by
 refine WO.pure h hw ha ?_
 have:=k (XR.tr (an4 st.aE) (.loc {v,rd:=dD (di st.aE deep) (EE st.env as)})::tr)
 simpa [XR.next,rB,gj] using this
theorem WS.shr {d:Option Nat} {g:Option (Nat×Bool)} {f:FuncId} {as:List fE} {r:List bU} {st:St} {Q:St->Prop}
 (hw:wanted g st.env=an9 anq) (h:Ak F f (EE st.env as) st.aE st.fz fun v s z=>(af6 (an4 st.aE) (an4 s)&&st.fz.all (has z))=anq/\WS F r {st with env:=iJ d v st.env,aE:=s,fz:=z} Q):
 WS F (⟨d,.call .shr f as,g⟩::r) st Q:=fun tr=>by
 obtain ⟨n,v,s,z,hr,hc,hk⟩:=h;refine WO.call (.shr v s z) hw ⟨n,?_⟩ rfl (hk _);simp only [xe,fV,hr];rw [pp hc]
end Go.Vm
/- Plain terms for what a function computes: loops, elements of lists, numbers; and the machine's loop over a plain one. -/
namespace Go.Vm
inductive Step (σ ρ:Type) where
 |next (s:σ)
 |done (r:ρ)
section
variable {σ ρ : Type}
def qz (body:σ->Option (Step σ ρ)):Nat->σ->Option ρ
 |0,_=>anp
 |n+1,x=>match body x with
  |some (.next y)=>qz body n y
  |some (.done r)=>an9 r
  |none=>anp
open Classical in
noncomputable def N8 (body:σ->Option (Step σ ρ)) (x:σ):Option ρ:=
 if h: ∃n r,qz body n x=an9 r then qz body h.choose x else anp
theorem Ay {body:σ->Option (Step σ ρ)}: ∀{n:Nat} {x:σ} {r:ρ},qz body n x=an9 r-> ∀k,qz body (n+k) x=an9 r
 |0,x,r,h,_=>by cases h
 |n+1,x,r,h,k=>by
  rw [show n+1+k=(n+k)+1 by omega]
  simp only [qz] at h ⊢;split at h
  · exact Ay h k
  · exact h
  cases h
theorem R7 {body:σ->Option (Step σ ρ)} {n m:Nat} {x:σ} {r s:ρ} (h:qz body n x=an9 r) (k:qz body m x=an9 s):r=s:=by
 have h1:=Ay h m;have h2:=Ay k n;rw [Nat.add_comm m n] at h2;rw [h1] at h2;exact agx h2
theorem Du {body:σ->Option (Step σ ρ)} {x:σ} {r:ρ}:N8 body x=an9 r↔ ∃n,qz body n x=an9 r:=by
 unfold N8;constructor
 · intro h
   split at h
   · exact ⟨_,h⟩
   cases h
 rintro ⟨n,hn⟩
 have hex: ∃n r,qz body n x=an9 r:=⟨n,r,hn⟩;rw [dif_pos hex];obtain ⟨s,hs⟩:=hex.choose_spec;rw [hs,R7 hs hn]
end
noncomputable def Um {σ ρ:Type} (b:Option Nat) (body:σ->Option (Step σ ρ)) (x:σ):Option ρ:=
 match b with
 |none=>N8 body x
 |some N=>qz body N x
theorem Un {σ ρ:Type} {b:Option Nat} {body:σ->Option (Step σ ρ)} {x:σ} {r:ρ} (h:Um b body x=an9 r): ∃n,qz body n x=an9 r:=by
 cases b with
 |none=>exact Du.1 h
 |some N=>exact ⟨_,h⟩
class LP where
 w:Option Nat
abbrev LP.of (n:Nat):LP:=⟨an9 n⟩
noncomputable def az [LP] {σ ρ:Type} (body:σ->Option (Step σ ρ)) (x:σ):Option ρ:=Um LP.w body x
def aB [LP]:Option Nat:=LP.w
theorem ao0 {α β:Type} {x:Option α} {f:α->Option β} {r:β} (h:x.bind f=an9 r): ∃a,x=an9 a/\f a=an9 r:=by
 cases x with
 |none=>cases h
 |some a=>exact ⟨a,rfl,h⟩
def afx {α ρ:Type} (x:Option α) (f:α->Option ρ):Option ρ:=x.bind f
def afy {ρ:Type} (c:Bool) (a b:Option ρ):Option ρ:=cond c a b
theorem N9 {α ρ:Type} {x:Option α} {f:α->Option ρ} {y:ρ} (h:afx x f=an9 y): ∃a,x=an9 a/\f a=an9 y:=ao0 h
theorem Oa {ρ:Type} {c:Bool} {a b:Option ρ} {y:ρ} (h:afy c a b=an9 y):(c=anq/\a=an9 y)\/(c=anr/\b=an9 y):=by
 cases c
 · exact .inr ⟨rfl,h⟩
 exact .inl ⟨rfl,h⟩
def aI {α:Type} (l:List α) (i:Int):Option α:=
 match i with
 | .ofNat n=>l[n]?
 | .negSucc _=>anp
def bZ {α:Type} (l:List α) (i:Int) (a:α):List α:=l.set i.toNat a
theorem nA {α:Type} {l:List α} {i:Int} {a:α} (h:aI l i=an9 a): ∃n:Nat,i=aks n/\l[n]? =an9 a:=by
 unfold aI at h;split at h
 · exact ⟨_,rfl,h⟩
 cases h
@[simp] theorem xW {α:Type} (l:List α) (i:Int) (a:α):(bZ l i a).length=(an4 l):=by simp [bZ]
def bq {α:Type} (l:List α) (m:List α):Option (List α):=if (an4 l)+an4 m<=1048576 then an9 (l++m) else anp
def xj {α:Type} (n:Int) (z:α):Option (List α):=if 0<=n/\n<=1048576 then an9 (afm n.toNat z) else anp
def fW {α:Type} (l:List α) (lo hi:Int):Option (List α):=if 0<=lo/\lo<=hi/\hi<=(an4 l) then an9 ((l.drop lo.toNat).take (hi.toNat-lo.toNat)) else anp
def bP {α:Type} (l:List α):Option (List α):=if (an4 l)<=1048576 then an9 l else anp
def R8 {α:Type} (l m:List α):Option (List α):=if 1<=an4 l+an4 m/\an4 l+an4 m<=1048576 then an9 (l++m) else anp
def yZ {α:Type} (l:List α) (i:Int) (m:List α):Option (List α):=if 0<=i/\i.toNat<=an4 l/\an4 m=1/\an4 l+1<=1048576 then an9 (l.take i.toNat++m++l.drop i.toNat) else anp
def Dv {α:Type} (f:List α->Option (List α)) (l:List α):Option (List α):=
 if (an4 l)<=1048576 then (match f l with
 |some m=>if (an4 m)=(an4 l) then an9 m else anp
 |none=>anp) else anp
def y4 {α:Type} (f:List α->Option (List α)) (n:Nat) (l:List α):Option (List α):=if n<=(an4 l) then (Dv f (l.take n)).map (· ++l.drop n) else anp
def Ob (a:Int):List Int->List Int
 | []=>[a]
 |b::r=>bif ans (a<=b) then a::b::r else b::Ob a r
def lD:List Int->List Int
 | []=>[]
 |a::r=>Ob a (lD r)
def Jk (l:List Int):Option (List Int):=an9 (lD l)
def Az (k:IntKind) (a b:Int):Int:=k.wrap (BitVec.ofInt k.bits a&&&BitVec.ofInt k.bits b).toNat
def bOr (k:IntKind) (a b:Int):Int:=k.wrap (BitVec.ofInt k.bits a|||BitVec.ofInt k.bits b).toNat
def atH (k:IntKind) (a b:Int):Int:=k.wrap (BitVec.ofInt k.bits a^^^BitVec.ofInt k.bits b).toNat
def XB (k:IntKind) (a b:Int):Int:=k.wrap (BitVec.ofInt k.bits a&&& ~~~ BitVec.ofInt k.bits b).toNat
def atI (k:IntKind) (a b:Int):Int:=k.wrap (a*2^(min b.toNat k.bits))
def nR (k:IntKind) (a b:Int):Int:=a.fdiv (2^(min b.toNat k.bits))
def afz (s:ByteArray) (i:Int):Option Int:=
 match i with
 | .ofNat n=>s[n]?.map fun b=>(b.toNat:Int)
 | .negSucc _=>anp
def D3 (l:List (List Int)) (k:List Int):Bool:=l.any fun m=>k==m
def Od (l:List (List Int)) (k:List Int):List (List Int):=bif D3 l k then l else l++[k]
def oh (a:List Int) (l:List (List Int)):Bool:=l.all fun b=>AC (an4 b) (an4 a)
def Lq (l:List (List Int)) (k:List Int):Option Bool:=bif oh k l then an9 (D3 l k) else anp
def Lr (l:List (List Int)) (k:List Int):Option (List (List Int)):=bif oh k l then an9 (Od l k) else anp
def qA {α:Type} (z:α):List (Int×α)->Int->α
 | [],_=>z
 |p::r,k=>bif k==p.1 then p.2 else qA z r k
def o3 {α:Type}:List (Int×α)->Int->α->List (Int×α)
 | [],k,a=>[(k,a)]
 |p::r,k,a=>bif k==p.1 then (k,a)::r else p::o3 r k a
section
variable {F : mX}
end
end Go.Vm
/- A logical machine over typed values: it turns a function's code into a plain term. What it computes is tied to the logical machine in SvRun. -/
namespace Go.Vm
inductive PT where
 |i (k:IntKind)
 |b
@[reducible] def PT.T : PT -> Type
  | .i _ => Int
  | .b => Bool
@[reducible] def RT : List PT -> Type
  | [] => Unit
  | [p] => p.T
  | p :: q :: r => p.T × RT (q :: r)
inductive SV where
 |iS
 |undef
 |jB
 |dR
 |int (k:IntKind) (n:Int)
 |bool (b:Bool)
 |str (s:ByteArray)
 |agg (cs:List SV)
 |cq (cs:List SV)
 |sl (r:List PT) (l:List (RT r))
 |nil (e:Nat) (c:Bool)
 |own (t:Nat) (ex:Bool)
 |pre (t len cap:Nat) (ex:Bool)
 |part (t off len cap:Nat) (ex:Bool)
 |pa (t:Nat) (r:List PT) (i:Int) (a:RT r) (off:Nat)
 |pb (t:Nat) (i:Int) (off:Nat)
 |bp (t n off:Nat)
 |bH (cs:List SV) (off:Nat)
 |eI (f:FuncId) (a b:List SV)
 |mp (t:Nat)
inductive SB where
 |arr (r:List PT) (l:List (RT r))
 |box (cs:List SV)
 |set (l:List (List Int))
 |aO (p:PT) (l:List (RT [.i .i64,p]))
 |dead
abbrev SE:=List (Nat×SV)
structure qB where
 env:SE
 aE:List SB
 fz:List Nat
 kn:Nat
structure Rows where
 r:List PT
 l:List (RT r)
def PT.same:PT->PT->Bool
 | .i k,.i l=>fA k l
 | .b,.b=>anq
 |_,_=>anr
def Bu:List PT->List PT->Bool
 | [],[]=>anq
 |p::r,q::s=>p.same q&&Bu r s
 |_,_=>anr
theorem PT.P8: ∀{p q:PT},p.same q=anq->p=q
 | .i k,.i l,h=>by rw [fj.1 h]
 | .b,.b,_=>rfl
 | .i _,.b,h=>by cases h
 | .b,.i _,h=>by cases h
theorem vn: ∀{r s:List PT},Bu r s=anq->r=s
 | [],[],_=>rfl
 |p::r,q::s,h=>by
  simp only [Bu,ut] at h;rw [PT.P8 h.1,vn h.2]
 | [],_::_,h=>by cases h
 |_::_,[],h=>by cases h
def sA (r q:List PT) (l:List (RT r)):Option (List (RT q)):=if h:Bu r q=anq then an9 (vn h▸l) else anp
def PT.pv:(p:PT)->p.T->PV
 | .i k,n=> .int k n
 | .b,x=> .bool x
def RT.pv:(r:List PT)->RT r->List PV
 | [],_=>[]
 | [p],a=>[p.pv a]
 |p::q::r,a=>p.pv a.1::RT.pv (q::r) a.2
def PT.sv:(p:PT)->p.T->SV
 | .i k,n=> .int k n
 | .b,x=> .bool x
def RT.sv:(r:List PT)->RT r->List SV
 | [],_=>[]
 | [p],a=>[p.sv a]
 |p::q::r,a=>p.sv a.1::RT.sv (q::r) a.2
def PT.of:(p:PT)->SV->Option p.T
 | .i k,.int l n=>bif fA l k then an9 n else anp
 | .b,.bool x=>an9 x
 |_,_=>anp
def RT.of:(r:List PT)->List SV->Option (RT r)
 | [],[]=>an9 ()
 | [p],[v]=>p.of v
 |p::q::r,v::vs=>match p.of v,RT.of (q::r) vs with
  |some a,an9 b=>an9 (a,b)
  |_,_=>anp
 |_,_=>anp
def PT.zero:(p:PT)->p.T
 | .i _=>(0:Int)
 | .b=>anr
def RT.zero:(r:List PT)->RT r
 | []=>()
 | [p]=>p.zero
 |p::q::r=>(p.zero,RT.zero (q::r))
def fX:PV->Option PT
 | .int k n=>match n with
  | .ofNat 0=>an9 (.i k)
  |_=>anp
 | .bool b=>match b with
  |false=>an9 .b
  |true=>anp
 |_=>anp
def Fm:List PV->Option (List PT)
 | []=>an9 []
 |v::vs=>match fX v,Fm vs with
  |some p,an9 r=>an9 (p::r)
  |_,_=>anp
def nth {α:Type}:List α->Nat->Option α
 | [],_=>anp
 |x::_,0=>an9 x
 |_::r,n+1=>nth r n
theorem cw {α:Type}: ∀(l:List α) (n:Nat),nth l n=l[n]?
 | [],n=>by simp [nth]
 |x::r,0=>by simp [nth]
 |x::r,n+1=>by simp [nth,cw r n]
def G9 (t:Nat):SE->SV
 | []=> .undef
 |(s,v)::r=>bif AC s t then v else G9 t r
def AA (t:Nat) (v:SV):SE->SE
 | []=>[]
 |(s,x)::r=>bif AC s t then (s,v)::r else (s,x)::AA t v r
mutual
def XC:PV->SV
 | .undef=> .undef
 | .jB=> .jB
 | .dR=> .dR
 | .int k n=> .int k n
 | .bool b=> .bool b
 | .str s=> .str s
 | .agg cs=> .agg (Bv cs)
 | .cq cs=> .cq (Bv cs)
 | .sl e c rows=>match rows with
  | []=> .nil e c
  |_=> .iS
 | .eI f a b=> .eI f (Bv a) (Bv b)
 |_=> .iS
def Bv:List PV->List SV
 | []=>[]
 |x::xs=>XC x::Bv xs
end
def bW (e:SE):fE->SV
 | .t n=>G9 n e
 | .c v=>XC v
def jG (e:SE):List fE->List SV
 | []=>[]
 |x::xs=>bW e x::jG e xs
def SV.qj:SV->Bool
 | .iS| .undef| .jB| .agg _| .cq _=>anr
 |_=>anq
def xX:List SV->Bool
 | []=>anq
 |x::xs=>x.qj&&xX xs
def SV.cells:SV->List SV
 | .agg cs=>cs
 |v=>[v]
def SV.stored (v:SV):Option (List SV):=bif xX v.cells then an9 v.cells else anp
def zP (agg:Option Nat) (off:Nat) (cs:List SV):Option SV:=
 match agg with
 |some s=>bif af6 (off+s) (an4 cs) then an9 (.agg ((cs.drop off).take s)) else anp
 |none=>nth cs off
def pQ (off:Nat) (new old:List SV):List SV:=old.take off++new++old.drop (off+an4 new)
def zQ (s:List SB):SV->Option Rows
 | .sl r l=>an9 ⟨r,l⟩
 | .own t _=>match nth s t with
  |some (.arr r l)=>an9 ⟨r,l⟩
  |_=>anp
 | .pre t len _ _=>match nth s t with
  |some (.arr r l)=>an9 ⟨r,l.take len⟩
  |_=>anp
 | .part t off len _ _=>match nth s t with
  |some (.arr r l)=>an9 ⟨r,(l.drop off).take len⟩
  |_=>anp
 |_=>anp
def vT:SV->List Nat
 | .own t _=>[t]
 | .pre t _ _ _=>[t]
 | .part t _ _ _ _=>[t]
 |_=>[]
structure fY where
 v:SV
 news:List SB:=[]
 wr:List (Nat×SB):=[]
 rd:List Nat:=[]
 fr:List Nat:=[]
def gu (R:Type):= ∀ρ:Type,(R->ρ)->Option ρ
section
variable {R : Type}
def HS (b:R):gu R:=fun _ w=>an9 (w b)
def aN:gu R:=fun _ _=>anp
def lh {α:Type} (x:Option α) (f:α->gu R):gu R:=fun ρ w=>afx x fun a=>f a ρ w
def gB (c:Bool) (a b:gu R):gu R:=fun ρ w=>afy c (a ρ w) (b ρ w)
def XD (v:SV) (k:SV->gu R):gu R:=
 match v with
 | .iS=>k .iS
 | .undef=>k .undef
 | .jB=>k .jB
 | .dR=>k .dR
 | .int a b=>k (.int a b)
 | .bool a=>k (.bool a)
 | .str a=>k (.str a)
 | .agg a=>k (.agg a)
 | .cq a=>k (.cq a)
 | .sl a b=>k (.sl a b)
 | .nil a b=>k (.nil a b)
 | .own a b=>k (.own a b)
 | .pre a b c d=>k (.pre a b c d)
 | .part a b c d x=>k (.part a b c d x)
 | .pa a b c d e=>k (.pa a b c d e)
 | .pb a b c=>k (.pb a b c)
 | .bp a b c=>k (.bp a b c)
 | .bH a b=>k (.bH a b)
 | .eI a b c=>k (.eI a b c)
 | .mp a=>k (.mp a)
theorem Jl (v:SV) (k:SV->gu R):XD v k=k v:=by cases v<;>rfl
def Oe (op:BinOp) (k:IntKind) (a b:Int) (c:SV->gu R):gu R:=
 match op with
 | .add=>c (.int k (aa k (a+b)))
 | .sub=>c (.int k (aa k (a-b)))
 | .mul=>c (.int k (aa k (a*b)))
 | .quo=>gB (b==0) aN (c (.int k (aa k (Int.tdiv a b))))
 | .rem=>gB (b==0) aN (c (.int k (Int.tmod a b)))
 | .and=>c (.int k (Az k a b))
 | .or=>c (.int k (bOr k a b))
 | .xor=>c (.int k (atH k a b))
 | .andNot=>c (.int k (XB k a b))
 | .eql=>c (.bool (a==b))
 | .neq=>c (.bool (a !=b))
 | .lss=>c (.bool (ans (a<b)))
 | .leq=>c (.bool (ans (a<=b)))
 | .gtr=>c (.bool (ans (b<a)))
 | .geq=>c (.bool (ans (b<=a)))
 | .shl| .shr=>aN
def eqS:List SV->List SV->Option Bool
 | [],[]=>an9 anq
 |x::xs,y::ys=>match x,y with
  | .int k a,.int l b=>bif fA k l then (match xs with
   | []=>(match ys with| []=>an9 (a==b)|_=>anp)
   |_::_=>match eqS xs ys with
    |some r=>an9 (a==b&&r)
    |none=>anp) else anp
  |_,_=>anp
 |_,_=>anp
def vU:List (Nat×Nat×SV)->List SV->Option (List SV)
 | [],cs=>an9 cs
 |(off,sz,v)::r,cs=>match v.stored with
  |some w=>bif AC (an4 w) sz&&af6 (off+sz) (an4 cs) then vU r (pQ off w cs) else anp
  |none=>anp
def xY (e:SE):List (Nat×Nat×fE)->List (Nat×Nat×SV)
 | []=>[]
 |p::r=>(p.1,p.2.1,bW e p.2.2)::xY e r
def P9 (r:List PT) (e:SE) (n:Nat):List (Nat×fE)->Option (List (Nat×RT r))
 | []=>an9 []
 |p::ps=>match RT.of r (bW e p.2).cells,P9 r e n ps with
  |some a,an9 l=>bif afF p.1 n then an9 ((p.1,a)::l) else anp
  |_,_=>anp
def rowAt {α:Type} (i:Nat):α->List (Nat×α)->α
 |z,[]=>z
 |z,(j,a)::r=>rowAt i (bif AC j i then a else z) r
def Jm {α:Type} (f:Nat->α):Nat->Nat->List α
 |_,0=>[]
 |i,n+1=>f i::Jm f (i+1) n
def CL (e:SE) (d:Int):Option fE->Option Int
 |none=>an9 d
 |some x=>match bW e x with
  | .int _ n=>an9 n
  |_=>anp
def mmS (isMax:Bool) (k:IntKind):Int->List SV->Option SV
 |a,[]=>an9 (.int k a)
 |a,x::r=>match x with
  | .int l b=>bif fA k l then mmS isMax k (bif isMax then (if b>a then b else a) else (if b<a then b else a)) r else anp
  |_=>anp
def P':List SV->Option (List Int)
 | []=>an9 []
 |x::xs=>match x,P' xs with
  | .int .i64 n,an9 l=>an9 (n::l)
  |_,_=>anp
def XE (n:Option Nat) (v:SV):Option (List Int):=
 match n,v with
 |none,.int .i64 a=>an9 [a]
 |some n,.agg cs=>bif AC (an4 cs) n&&!Nat.beq n 1 then P' cs else anp
 |_,_=>anp
def Ls (n:Nat) (i:Int) (j:Nat) (f:Nat->gu R):gu R:=
 match n with
 |0=>aN
 |n+1=>gB (i==aks j) (f j) (Ls n i (j+1) f)
def lE {α:Type} (x:Option α) (k:α->gu R):gu R:=
 match x with
 |some a=>k a
 |none=>aN
def ofV (k:fY->gu R) (v:SV):gu R:=k {v}
def afA (s:List SB) (esz:Nat) (x:SV) (i:Int) (k:fY->gu R):gu R:=
 match x with
 | .sl r l=>bif AC (an4 r) esz then lh (aI l i) fun a=>k {v:= .bH (RT.sv r a) 0} else aN
 | .own t _=>match nth s t with
  |some (.arr r l)=>bif AC (an4 r) esz then lh (aI l i) fun a=>k {v:= .pa t r i a 0} else aN
  |_=>aN
 | .pre t len _ _=>match nth s t with
  |some (.arr r l)=>bif AC (an4 r) esz then lh (aI (l.take len) i) fun a=>k {v:= .pa t r i a 0} else aN
  |_=>aN
 | .part t off len _ _=>match nth s t with
  |some (.arr r l)=>bif AC (an4 r) esz then lh (aI ((l.drop off).take len) i) fun a=>k {v:= .pa t r (.ofNat (off+i.toNat)) a 0} else aN
  |_=>aN
 |_=>aN
def afB (s:List SB) (agg:Option Nat) (p:SV) (k:fY->gu R):gu R:=
 match p with
 | .bp t _ off=>match nth s t with
  |some (.box cs)=>lE (zP agg off cs) fun v=>k {v,rd:=[t]}
  |_=>aN
 | .pa t r _ a off=>match nth s t with
  |some (.arr _ _)=>lE (zP agg off (RT.sv r a)) fun v=>k {v,rd:=[t]}
  |_=>aN
 | .pb t i off=>match nth s t with
  |some (.arr r l)=>lh (aI l i) fun a=>lE (zP agg off (RT.sv r a)) fun v=>k {v,rd:=[t]}
  |_=>aN
 | .bH cs off=>lE (zP agg off cs) fun v=>k {v}
 |_=>aN
def Uo (s:List SB) (z:List Nat) (sz:Nat) (p v:SV) (k:fY->gu R):gu R:=
 match p with
 | .bp t _ off=>match nth s t with
  |some (.box cs)=>lE v.stored fun w=>bif AC (an4 w) sz&&af6 (off+sz) (an4 cs)&&!has z t then k {v:= .undef,wr:=[(t,.box (pQ off w cs))]} else aN
  |_=>aN
 | .pa t r i a off=>match nth s t with
  |some (.arr q l)=>bif AC (an4 v.cells) sz&&af6 (off+sz) (an4 r)&&!has z t then
   lE (RT.of q (pQ off v.cells (RT.sv r a))) fun b=>k {v:= .undef,wr:=[(t,.arr q (bZ l i b))]} else aN
  |_=>aN
 | .pb t i off=>match nth s t with
  |some (.arr q l)=>bif AC (an4 v.cells) sz&&af6 (off+sz) (an4 q)&&!has z t then
   (bif AC sz (an4 q) then lE (RT.of q v.cells) fun b=>k {v:= .undef,wr:=[(t,.arr q (bZ l i b))]}
   else lh (aI l i) fun a=>lE (RT.of q (pQ off v.cells (RT.sv q a))) fun b=>k {v:= .undef,wr:=[(t,.arr q (bZ l i b))]}) else aN
  |_=>aN
 |_=>aN
def Of (e:SE) (t off len cap:Nat) (ex:Bool) (lo hi mx:Option fE) (k:fY->gu R):gu R:=
 lE (CL e 0 lo) fun a=>lE (CL e (.ofNat len) hi) fun b=>match mx with
  |none=>gB (ans (0<=a)&&ans (a<=b)&&ans (b<= .ofNat cap)) (k {v:= .part t (off+a.toNat) (b.toNat-a.toNat) (cap-a.toNat) ex}) aN
  |some m=>match bW e m with
   | .int _ c=>gB (ans (0<=a)&&ans (a<=b)&&ans (b<=c)&&ans (c<= .ofNat cap)) (k {v:= .part t (off+a.toNat) (b.toNat-a.toNat) (c.toNat-a.toNat) anq}) aN
   |_=>aN
def ao1 (e:SE) (s:List SB) (esz:Nat) (x:SV) (lo hi mx:Option fE) (k:fY->gu R):gu R:=
 match x with
 | .sl r l=>match mx with
  |none=>bif AC (an4 r) esz then lE (CL e 0 lo) fun a=>lE (CL e (aks (an4 l)) hi) fun b=>lh (fW l a b) fun m=>k {v:= .sl r m} else aN
  |some _=>aN
 | .own t ex=>match nth s t with
  |some (.arr r l)=>bif AC (an4 r) esz then (match lo,hi,mx with
   |none,anp,anp=>k {v:= .own t ex}
   |none,an9 h,anp=>match bW e h with
    | .int _ b=>lh (fW l 0 b) fun _=>k {v:= .pre t b.toNat (an4 l) ex}
    |_=>aN
   |lo,hi,mx=>Of e t 0 (an4 l) (an4 l) ex lo hi mx k) else aN
  |_=>aN
 | .pre t len cap ex=>match nth s t with
  |some (.arr r _)=>bif AC (an4 r) esz then (match lo,hi,mx with
   |none,anp,anp=>gB (af6 len cap) (k {v:= .pre t len cap ex}) aN
   |none,an9 h,anp=>match bW e h with
    | .int _ b=>gB (ans (0<=b)&&ans (b<= .ofNat cap)) (k {v:= .pre t b.toNat cap ex}) aN
    |_=>aN
   |lo,hi,mx=>Of e t 0 len cap ex lo hi mx k) else aN
  |_=>aN
 | .part t off len cap ex=>match nth s t with
  |some (.arr r _)=>bif AC (an4 r) esz then Of e t off len cap ex lo hi mx k else aN
  |_=>aN
 |_=>aN
def eX {α:Type} (l:List α) (n:Nat) (m:List α):List α:=l.take n++m++l.drop (n+an4 m)
def SV.agK:SV->Bool
 | .part .. =>anq
 |_=>anr
def Qa (s:List SB) (z:List Nat) (esz:Nat) (x y:SV) (k:fY->gu R):gu R:=
 match zQ s y with
 |none=>aN
 |some ⟨q,m⟩=>bif AC (an4 q) esz then (match x with
  | .nil _ c=>bif c then lh (bP m) fun m'=>k {v:= .own (an4 s) anr,news:=[.arr q m'],rd:=vT y} else aN
  | .own t ex=>match nth s t with
   |some (.arr r l)=>match sA q r m with
    |none=>aN
    |some m=>match ex with
     |true=>gB l.isEmpty (lh (bP m) fun m'=>k {v:= .own (an4 s) anr,news:=[.arr r m'],rd:=t::vT y})
      (gB m.isEmpty (k {v:= .own t anq,rd:=vT y}) (lh (bq l m) fun l'=>k {v:= .own (an4 s) anr,news:=[.arr r l'],rd:=t::vT y}))
     |false=>gB m.isEmpty (k {v:= .own t anr,rd:=vT y})
      (bif has z t then aN else lh (bq l m) fun l'=>k {v:= .own (an4 s) anr,news:=[.arr r l'],wr:=[(t,.dead)],rd:=vT y})
   |_=>aN
  | .pre t len cap ex=>match nth s t with
   |some (.arr r l)=>match sA q r m with
    |none=>aN
    |some m=>bif ex then aN else gB m.isEmpty (k {v:= .pre t len cap anr,rd:=vT y})
     (gB (af6 (len+an4 m) cap) (gB (af6 (len+an4 m) (an4 l)&&!has z t) (k {v:= .pre t (len+an4 m) cap anr,wr:=[(t,.arr r (eX l len m))],rd:=vT y}) aN)
      (bif has z t||y.agK then aN else lh (bq (l.take len) m) fun l'=>gB (af6 len (an4 l)) (k {v:= .own (an4 s) anr,news:=[.arr r l'],wr:=[(t,.dead)],rd:=vT y}) aN))
   |_=>aN
  |_=>aN) else aN
def Uq (s:List SB) (z:List Nat) (esz:Nat) (zero:Row) (x:SV) (k:fY->gu R):gu R:=
 match x with
 | .part t off len _ _=>match nth s t with
  |some (.arr r l)=>match Fm zero with
   |some q=>bif Bu q r&&AC (an4 r) esz then gB (AC len 0) (k {v:= .undef})
    (gB (af6 (off+len) (an4 l)&&!has z t) (k {v:= .undef,wr:=[(t,.arr r (eX l off (afm len (RT.zero r))))]}) aN) else aN
   |none=>aN
  |_=>aN
 |_=>aN
def Qb (n:Option Nat) (zero:PV) (ok:Bool) (t:Nat) (l:List (List Int)) (q:SV) (k:fY->gu R):gu R:=
 match zero,ok with
 | .bool anr,anr=>lE (XE n q) fun a=>lh (Lq l a) fun b=>k {v:= .bool b,rd:=[t]}
 |_,_=>aN
def Ur (n:Option Nat) (t:Nat) (l:List (List Int)) (q x:SV) (k:fY->gu R):gu R:=
 match x with
 | .bool anq=>lE (XE n q) fun a=>lh (Lr l a) fun m=>k {v:= .undef,wr:=[(t,.set m)]}
 |_=>aN
def PT.get:(p:PT)->p.T->List (RT [.i .i64,p])->Int->p.T
 | .i _,z,l,k=>qA (α:=Int) z l k
 | .b,z,l,k=>qA (α:=Bool) z l k
def PT.put:(p:PT)->List (RT [.i .i64,p])->Int->p.T->List (RT [.i .i64,p])
 | .i _,l,k,a=>o3 (α:=Int) l k a
 | .b,l,k,a=>o3 (α:=Bool) l k a
def Qc (n:Option Nat) (zero:PV) (ok:Bool) (t:Nat) (p:PT) (l:List (RT [.i .i64,p])) (q:SV) (k:fY->gu R):gu R:=
 match n with
 |none=>match ok with
  |false=>match q with
   | .int .i64 a=>lE (p.of (XC zero)) fun z=>k {v:=p.sv (p.get z l a),rd:=[t]}
   |_=>aN
  |true=>aN
 |some _=>aN
def Us (n:Option Nat) (t:Nat) (p:PT) (l:List (RT [.i .i64,p])) (q x:SV) (k:fY->gu R):gu R:=
 match n with
 |none=>match q with
  | .int .i64 a=>lE (p.of x) fun v=>k {v:= .undef,wr:=[(t,.aO p (p.put l a v))]}
  |_=>aN
 |some _=>aN
def Fo (s:List SB) (z:List Nat) (t:Nat) (r:List PT) (l:List (RT r)) (off len:Nat) (y:SV) (k:fY->gu R):gu R:=
 match zQ s y with
 |none=>aN
 |some ⟨q,m⟩=>match sA q r m with
  |none=>aN
  |some m=>gB (m.take len).isEmpty (k {v:= .int .i64 0,rd:=vT y})
   (gB (af6 (off+(m.take len).length) (an4 l)&&!has z t) (k {v:= .int .i64 (.ofNat (m.take len).length),wr:=[(t,.arr r (eX l off (m.take len)))],rd:=vT y}) aN)
def afC (s:List SB) (z:List Nat) (esz:Nat) (x y:SV) (k:fY->gu R):gu R:=
 match x with
 | .own t _=>match nth s t with
  |some (.arr r l)=>bif AC (an4 r) esz then Fo s z t r l 0 (an4 l) y k else aN
  |_=>aN
 | .pre t len _ _=>match nth s t with
  |some (.arr r l)=>bif AC (an4 r) esz then Fo s z t r l 0 len y k else aN
  |_=>aN
 | .part t off len _ _=>match nth s t with
  |some (.arr r l)=>bif AC (an4 r) esz then Fo s z t r l off len y k else aN
  |_=>aN
 |_=>aN
def my (e:SE) (s:List SB) (z:List Nat) (op:k7) (k:fY->gu R):gu R:=
 match op with
 | .Ti x=>k {v:=bW e x}
 | .pick c a b=>match bW e c with
  | .bool c=>gB c (k {v:=bW e a}) (k {v:=bW e b})
  |_=>aN
 | .bin op x y=>match bW e x with
  | .int ka a=>match bW e y with
   | .int kb b=>match op with
    | .shl=>gB (ans (b<0)) aN (k {v:= .int ka (atI ka a b)})
    | .shr=>gB (ans (b<0)) aN (k {v:= .int ka (nR ka a b)})
    |op=>bif fA ka kb then Oe op ka a b (ofV k) else aN
   |_=>aN
  |_=>aN
 | .KC neg x y=>match bW e x with
  | .bool a=>match bW e y with
   | .bool b=>k {v:= .bool (bif neg then !(a==b) else a==b)}
   |_=>aN
  |_=>aN
 | .eqc n neg x y=>match bW e x with
  | .agg xs=>match bW e y with
   | .agg ys=>bif AC (an4 xs) n&&AC (an4 ys) n then lE (eqS xs ys) fun b=>k {v:= .bool (bif neg then !b else b)} else aN
   |_=>aN
  |_=>aN
 | .un op x=>match op with
  | .neg=>match bW e x with
   | .int a n=>k {v:= .int a (aa a (0-n))}
   |_=>aN
  | .not=>match bW e x with
   | .bool b=>k {v:= .bool !b}
   |_=>aN
  |_=>aN
 | .conv a x=>match bW e x with
  | .int _ n=>k {v:= .int a (aa a n)}
  |_=>aN
 | .len x=>match bW e x with
  | .nil _ _=>k {v:= .int .i64 0}
  | .pre _ len _ _=>k {v:= .int .i64 (.ofNat len)}
  | .part _ _ len _ _=>k {v:= .int .i64 (.ofNat len)}
  |v=>lE (zQ s v) fun c=>k {v:= .int .i64 (.ofNat (an4 c.l))}
 | .NG n=>k {v:= .int .i64 (.ofNat n)}
 | .box x=>lE (bW e x).stored fun cs=>k {v:= .bp (an4 s) (an4 cs) 0,news:=[.box cs]}
 | .alloc cells=>k {v:= .bp (an4 s) (an4 cells) 0,news:=[.box (Bv cells)]}
 | .build zero parts=>lE (vU (xY e parts) (Bv zero)) fun cs=>k {v:= .agg cs}
 | .A' esz n zero parts=>lE (Fm zero) fun r=>bif AC (an4 r) esz then lE (P9 r e n parts) fun ps=>
  k {v:= .own (an4 s) anq,news:=[.arr r (Jm (fun i=>rowAt i (RT.zero r) ps) 0 n)]} else aN
 | .Di x y=>match bW e x with
  | .sl r l=>match bW e y with
   | .sl q m=>k {v:= .part (an4 s) 0 2 2 anq,news:=[.box [.sl r l,.sl q m]]}
   |_=>aN
  |_=>aN
 | .load agg p=>afB s agg (bW e p) k
 | .store sz p v=>Uo s z sz (bW e p) (bW e v) k
 | .KD x=>match bW e x with
  | .pa t r i a o=>k {v:= .pa t r i a o}
  | .pb t i o=>k {v:= .pb t i o}
  | .bp t n o=>k {v:= .bp t n o}
  | .bH c o=>k {v:= .bH c o}
  | .eI f a b=>k {v:= .eI f a b}
  |_=>aN
 | .KE off p=>match bW e p with
  | .pa t r i a o=>k {v:= .pa t r i a (o+off)}
  | .pb t i o=>k {v:= .pb t i (o+off)}
  | .bp t n o=>k {v:= .bp t n (o+off)}
  | .bH c o=>k {v:= .bH c (o+off)}
  |_=>aN
 | .ie agg off x=>match bW e x with
  | .agg cs=>lE (zP agg off cs) (ofV k)
  |_=>aN
 | .KF esz x i=>match bW e i with
  | .int _ n=>afA s esz (bW e x) n k
  |_=>aN
 | .Dj n esz p i=>match bW e i with
  | .int _ j=>match bW e p with
   | .bp t m o=>Ls n j 0 fun j=>k {v:= .bp t m (o+j*esz)}
   | .bH c o=>Ls n j 0 fun j=>k {v:= .bH c (o+j*esz)}
   |_=>aN
  |_=>aN
 | .idx n esz agg x i=>match bW e i with
  | .int _ j=>match bW e x with
   | .agg cs=>Ls n j 0 fun j=>lE (zP agg (j*esz) cs) (ofV k)
   |_=>aN
  |_=>aN
 | .KG x i=>match bW e i with
  | .int _ j=>match bW e x with
   | .str t=>lh (afz t j) fun b=>k {v:= .int .u8 b}
   |_=>aN
  |_=>aN
 | .Ru esz x lo hi mx=>ao1 e s esz (bW e x) lo hi mx k
 | .clear esz zero x=>Uq s z esz zero (bW e x) k
 | .copy esz x y=>afC s z esz (bW e x) (bW e y) k
 | .mks esz zero l c=>match bW e l with
  | .int _ n=>match bW e c with
   | .int _ m=>gB (n==m) (lE (Fm zero) fun r=>bif AC (an4 r) esz then lh (xj n (RT.zero r)) fun x=>k {v:= .own (an4 s) anq,news:=[.arr r x]} else aN) aN
   |_=>aN
  |_=>aN
 | .mkf fn a b=>k {v:= .eI fn (jG e a) (jG e b)}
 | .mkm z=>match z with
  |none=>k {v:= .mp (an4 s),news:=[.set []]}
  |some z=>lE (fX z) fun p=>k {v:= .mp (an4 s),news:=[.aO p []]}
 | .lookup n zero ok m q=>match bW e m with
  | .mp t=>match nth s t with
   |some (.set l)=>Qb n zero ok t l (bW e q) k
   |some (.aO p l)=>Qc n zero ok t p l (bW e q) k
   |_=>aN
  |_=>aN
 | .IM n m q x=>match bW e m with
  | .mp t=>match nth s t with
   |some (.set l)=>bif has z t then aN else Ur n t l (bW e q) (bW e x) k
   |some (.aO p l)=>bif has z t then aN else Us n t p l (bW e q) (bW e x) k
   |_=>aN
  |_=>aN
 | .ext i x=>match bW e x with
  | .cq vs=>lE (nth vs i) (ofV k)
  |_=>aN
 | .append esz x y=>Qa s z esz (bW e x) (bW e y) k
 | .mm isMax x xs=>match bW e x with
  | .int a n=>lE (mmS isMax a n (jG e xs)) (ofV k)
  |_=>aN
 |_=>aN
end
mutual
def HT (s:List SB) (bx:Nat->Option (List SV)):SV->Option SV
 | .int k n=>an9 (.int k n)
 | .bool b=>an9 (.bool b)
 | .str x=>an9 (.str x)
 | .dR=>an9 .dR
 | .agg cs=>match sB s bx cs with|some l=>an9 (.agg l)|none=>anp
 | .cq cs=>match sB s bx cs with|some l=>an9 (.cq l)|none=>anp
 | .sl r l=>an9 (.sl r l)
 | .nil e _=>an9 (.nil e anr)
 | .own t _=>match nth s t with
  |some (.arr r l)=>an9 (.sl r l)
  |_=>anp
 | .pre t len _ _=>match nth s t with
  |some (.arr r l)=>an9 (.sl r (l.take len))
  |_=>anp
 | .part t off len _ _=>match nth s t with
  |some (.arr r l)=>an9 (.sl r ((l.drop off).take len))
  |_=>anp
 | .pa t r _ a off=>match nth s t with
  |some (.arr _ _)=>an9 (.bH (RT.sv r a) off)
  |_=>anp
 | .bp t _ off=>match nth s t with
  |some (.box _)=>match bx t with|some l=>an9 (.bH l off)|none=>anp
  |_=>anp
 | .bH cs off=>match sB s bx cs with|some l=>an9 (.bH l off)|none=>anp
 | .eI f a b=>match sB s bx a,sB s bx b with
  |some x,an9 y=>an9 (.eI f x y)
  |_,_=>anp
 |_=>anp
def sB (s:List SB) (bx:Nat->Option (List SV)):List SV->Option (List SV)
 | []=>an9 []
 |x::xs=>match HT s bx x,sB s bx xs with
  |some y,an9 ys=>an9 (y::ys)
  |_,_=>anp
end
def Og (s:List SB) (bx:Nat->Option (List SV)):List SV->Bool
 | []=>anq
 |x::xs=>match x with
  | .mp _=>Og s bx xs
  |x=>match HT s bx x with
   |some _=>Og s bx xs
   |none=>anr
def kK (s:List SB):Nat->Nat->Option (List SV)
 |0,_=>anp
 |n+1,t=>match nth s t with
  |some (.box cs)=>sB s (kK s n) cs
  |_=>anp
mutual
def Oh (bx:Nat->List Nat):SV->List Nat
 | .agg cs=>rH bx cs
 | .cq cs=>rH bx cs
 | .own t _=>[t]
 | .pre t _ _ _=>[t]
 | .part t _ _ _ _=>[t]
 | .pa t _ _ _ _=>t::bx t
 | .pb t _ _=>t::bx t
 | .bp t _ _=>t::bx t
 | .bH cs _=>rH bx cs
 | .mp t=>[t]
 | .eI _ a b=>rH bx a++rH bx b
 |_=>[]
def rH (bx:Nat->List Nat):List SV->List Nat
 | []=>[]
 |x::xs=>Oh bx x++rH bx xs
end
def xx (s:List SB):Nat->Nat->List Nat
 |0,_=>[]
 |n+1,t=>match nth s t with
  |some (.box cs)=>rH (xx s n) cs
  |_=>[]
mutual
def SV.sure:SV->Bool
 | .iS=>anr
 | .agg cs=>mw cs
 | .cq cs=>mw cs
 | .bH cs _=>mw cs
 | .eI _ a b=>mw a&&mw b
 |_=>anq
def mw:List SV->Bool
 | []=>anq
 |x::xs=>x.sure&&mw xs
end
mutual
def AB:SV->Bool
 | .int _ _| .bool _| .str _=>anq
 | .agg cs=>rI cs
 | .cq cs=>rI cs
 |_=>anr
def rI:List SV->Bool
 | []=>anq
 |x::xs=>AB x&&rI xs
end
mutual
def Ut (s:List SB):SV->Option SV
 | .int k n=>an9 (.int k n)
 | .bool b=>an9 (.bool b)
 | .str x=>an9 (.str x)
 | .agg cs=>match Oi s cs with|some l=>an9 (.agg l)|none=>anp
 | .cq cs=>match Oi s cs with|some l=>an9 (.cq l)|none=>anp
 | .sl r l=>an9 (.sl r l)
 | .nil e _=>an9 (.nil e anr)
 | .own t _=>match nth s t with
  |some (.arr r l)=>an9 (.sl r l)
  |_=>anp
 | .pre t len _ _=>match nth s t with
  |some (.arr r l)=>an9 (.sl r (l.take len))
  |_=>anp
 | .part t off len _ _=>match nth s t with
  |some (.arr r l)=>an9 (.sl r ((l.drop off).take len))
  |_=>anp
 |_=>anp
def Oi (s:List SB):List SV->Option (List SV)
 | []=>an9 []
 |x::xs=>match Ut s x,Oi s xs with
  |some y,an9 ys=>an9 (y::ys)
  |_,_=>anp
end
mutual
def R9 (s:List SB) (z:List Nat):List Nat->SV->Option (SV×List Nat)
 |seen,.int k n=>an9 (.int k n,seen)
 |seen,.bool b=>an9 (.bool b,seen)
 |seen,.agg cs=>match Lt s z seen cs with|some p=>an9 (.agg p.1,p.2)|none=>anp
 |seen,.cq cs=>match Lt s z seen cs with|some p=>an9 (.cq p.1,p.2)|none=>anp
 |seen,.nil e c=>bif c then an9 (.nil e anr,seen) else anp
 |seen,.own t _=>match nth s t with
  |some (.arr r l)=>bif has seen t||has z t then anp else an9 (.sl r l,t::seen)
  |_=>anp
 |_,_=>anp
def Lt (s:List SB) (z:List Nat):List Nat->List SV->Option (List SV×List Nat)
 |seen,[]=>an9 ([],seen)
 |seen,x::xs=>match R9 s z seen x with
  |some p=>match Lt s z p.2 xs with
   |some q=>an9 (p.1::q.1,q.2)
   |none=>anp
  |none=>anp
end
mutual
def xZ:Nat->SV->SV×List SB
 |nx,.sl r l=>(.own nx anr,[.arr r l])
 |nx,.nil e _=>(.own nx anr,[.arr (afm e (.i .i64)) []])
 |nx,.agg cs=>(.agg (uw nx cs).1,(uw nx cs).2)
 |nx,.cq cs=>(.cq (uw nx cs).1,(uw nx cs).2)
 |_,v=>(v,[])
def uw:Nat->List SV->List SV×List SB
 |_,[]=>([],[])
 |nx,x::xs=>((xZ nx x).1::(uw (nx+(xZ nx x).2.length) xs).1,(xZ nx x).2++(uw (nx+(xZ nx x).2.length) xs).2)
end
def Fp:SB->List Nat
 | .box cs=>rH s6 cs
 |_=>[]
def y5:SB->Bool
 | .box cs=>mw cs
 |_=>anq
def CN (s:List SB):Nat->List Nat->List Nat->Option (List Nat)
 |_,[],seen=>an9 seen
 |0,_::_,_=>anp
 |n+1,t::ts,seen=>
  bif has seen t then CN s n ts seen
  else match nth s t with
   |some b=>bif y5 b then CN s n (Fp b++ts) (seen++[t]) else anp
   |none=>anp
mutual
def qC (m:List Nat):SV->Option SV
 | .agg cs=>match tu m cs with|some l=>an9 (.agg l)|none=>anp
 | .cq cs=>match tu m cs with|some l=>an9 (.cq l)|none=>anp
 | .own t ex=>match idxOf t m with|some u=>an9 (.own u ex)|none=>anp
 | .pre t len cap ex=>match idxOf t m with|some u=>an9 (.pre u len cap ex)|none=>anp
 | .part t off len cap ex=>match idxOf t m with|some u=>an9 (.part u off len cap ex)|none=>anp
 | .pa t _ i _ off=>match idxOf t m with|some u=>an9 (.pb u i off)|none=>anp
 | .pb t i off=>match idxOf t m with|some u=>an9 (.pb u i off)|none=>anp
 | .bp t n off=>match idxOf t m with|some u=>an9 (.bp u n off)|none=>anp
 | .bH cs off=>match tu m cs with|some l=>an9 (.bH l off)|none=>anp
 | .mp t=>match idxOf t m with|some u=>an9 (.mp u)|none=>anp
 | .eI f a b=>match tu m a,tu m b with
  |some x,an9 y=>an9 (.eI f x y)
  |_,_=>anp
 | .iS=>anp
 |v=>an9 v
def tu (m:List Nat):List SV->Option (List SV)
 | []=>an9 []
 |x::xs=>match qC m x,tu m xs with
  |some y,an9 ys=>an9 (y::ys)
  |_,_=>anp
end
def Oj (m:List Nat):SB->Option SB
 | .box cs=>match tu m cs with|some l=>an9 (.box l)|none=>anp
 |b=>an9 b
def Hm (s:List SB) (m:List Nat):List Nat->Option (List SB)
 | []=>an9 []
 |t::ts=>match nth s t with
  |some b=>match Oj m b,Hm s m ts with
   |some b',an9 r=>an9 (b'::r)
   |_,_=>anp
  |none=>anp
def rowOf (rk:List (Nat×List PT)) (esz:Nat):List PT:=
 match rk with
 | []=>afm esz (.i .i64)
 |(n,r)::q=>bif AC n esz&&AC (an4 r) esz then r else rowOf q esz
def Jn:Option Nat->SV->SV
 |some _,.own t _=> .own t anr
 |some _,.pre t l c _=> .pre t l c anr
 |some _,.part t o l c _=> .part t o l c anr
 |_,v=>v
def xk (rk:List (Nat×List PT)) (e:SE) (m:List Nat):Nat->List (Nat×Option Nat)->Option (SE×List SB)
 |_,[]=>an9 ([],[])
 |nx,(s,k)::r=>
  match k,G9 s e with
  |some esz,.nil _ anq=>match xk rk e m (nx+1) r with
   |some p=>an9 ((s,.own nx anr)::p.1,.arr (rowOf rk esz) []::p.2)
   |none=>anp
  |_,v=>match qC m v,xk rk e m nx r with
   |some v',an9 p=>an9 ((s,Jn k v')::p.1,p.2)
   |_,_=>anp
def Fq (rk:List (Nat×List PT)) (st:qB) (t c esz:Nat):qB:=
 match nth st.aE t with
 |some (.box cs)=>match nth cs c with
  |some (.nil _ anq)=>{st with aE:=st.aE.set t (.box (cs.set c (.own (an4 st.aE) anr)))++[.arr (rowOf rk esz) []]}
  |_=>st
 |_=>st
def Uu:SV->Option Nat
 | .bp t _ 0=>an9 t
 |_=>anp
def XF:SV->Option Nat
 | .eI _ _ (x::_)=>Uu x
 |x=>Uu x
def ma (rk:List (Nat×List PT)):List (Nat×Option Nat)->qB->qB
 | [],st=>st
 |(s,k)::r,st=>match k with
  |some n=>bif af6 1000 n then (match XF (G9 s st.env) with
   |some t=>ma rk r (Fq rk st t (n / 1000-1) (n%1000))
   |none=>ma rk r st) else ma rk r st
  |none=>ma rk r st
def HU (s:List SB) (v:SV):SV:=
 match v with
 | .own t ex=>match nth s t with
  |some (.arr _ l)=> .pre t (an4 l) (an4 l) ex
  |_=>v
 |_=>v
def Qd (s:List SB) (c:Nat):SE->SE
 | []=>[]
 |(t,v)::r=>bif AC t c then (t,HU s v)::r else (t,v)::Qd s c r
def Bw:List (Nat×Option Nat)->qB->qB
 | [],st=>st
 |(t,_)::r,st=>bif af6 1000000 t then Bw r {st with env:=Qd st.aE (t-1000000) st.env} else Bw r st
def Bx (e:SE):List (Nat×Option Nat)->Bool
 | []=>anq
 |(s,_)::r=>(G9 s e).sure&&Bx e r
def Fs (e:SE):List (Nat×Option Nat)->List Nat
 | []=>[]
 |(s,_)::r=>Oh s6 (G9 s e)++Fs e r
def Ol:List SB->Nat->List Nat
 |b::r,n+1=>Fp b++Ol r n
 |_,_=>[]
def Ft:List SB->Nat->Bool
 |b::r,n+1=>y5 b&&Ft r n
 |_,_=>anq
def Fu (rk:List (Nat×List PT)) (live:List (Nat×Option Nat)) (st:qB):Option qB:=
 bif Bx st.env live&&Ft st.aE st.kn then
  match CN st.aE 4096 (Ol st.aE st.kn++Fs st.env live) (uQ st.kn) with
  |none=>anp
  |some m=>match Hm st.aE m m,xk rk st.env m (an4 m) live with
   |some s1,an9 (e1,s2)=>an9 (Bw live (ma rk live {env:=e1,aE:=s1++s2,fz:=xF st.fz 0 m,kn:=st.kn}))
   |_,_=>anp
 else anp
def Fv (rk:List (Nat×List PT)) (live:List (Nat×Option Nat)) (st:qB):Option qB:=
 match Fu rk live st with
 |some s=>bif live.any fun p=>p.2.isSome then Fu rk live s else an9 s
 |none=>anp
inductive AK where
 |i
 |b
 |n
 |l (r:List PT)
 |s
@[reducible] def AK.T : AK -> Type
  | .i => Int
  | .b => Bool
  | .n => Nat
  | .l r => List (RT r)
  | .s => List (List Int)
@[reducible] def j7 : List AK -> Type
  | [] => Unit
  | [a] => a.T
  | a :: q :: r => a.T × j7 (q :: r)
inductive xB where
 |i (n:Int)
 |b (x:Bool)
 |n (x:Nat)
 |l (r:List PT) (x:List (RT r))
 |s (x:List (List Int))
def xB.k:xB->AK
 | .i _=> .i
 | .b _=> .b
 | .n _=> .n
 | .l r _=> .l r
 | .s _=> .s
def AK.at:(a:AK)->a.T->xB
 | .i,x=> .i x
 | .b,x=> .b x
 | .n,x=> .n x
 | .l r,x=> .l r x
 | .s,x=> .s x
def AK.of:(a:AK)->xB->Option a.T
 | .i,.i x=>an9 x
 | .b,.b x=>an9 x
 | .n,.n x=>an9 x
 | .l r,.l q x=>sA q r x
 | .s,.s x=>an9 x
 |_,_=>anp
def mC:(ks:List AK)->j7 ks->List xB
 | [],_=>[]
 | [a],x=>[a.at x]
 |a::q::r,x=>a.at x.1::mC (q::r) x.2
def qY:(ks:List AK)->List xB->Option (j7 ks)
 | [],[]=>an9 ()
 | [a],[x]=>a.of x
 |a::q::r,x::xs=>match a.of x,qY (q::r) xs with
  |some y,an9 ys=>an9 (y,ys)
  |_,_=>anp
 |_,_=>anp
mutual
def CO:SV->List xB
 | .int _ n=>[.i n]
 | .bool b=>[.b b]
 | .agg cs=>CP cs
 | .cq cs=>CP cs
 | .sl r l=>[.l r l]
 | .pre _ len cap _=>[.n len,.n cap]
 | .part _ off len cap _=>[.n off,.n len,.n cap]
 | .pb _ i _=>[.i i]
 | .bH cs _=>CP cs
 | .eI _ a b=>CP a++CP b
 |_=>[]
def CP:List SV->List xB
 | []=>[]
 |x::xs=>CO x++CP xs
end
def Uv:SB->List xB
 | .arr r l=>[.l r l]
 | .box cs=>CP cs
 | .set l=>[.s l]
 | .aO p l=>[.l [.i .i64,p] l]
 | .dead=>[]
def Jo:List SB->List xB
 | []=>[]
 |b::r=>Uv b++Jo r
def Sa:SE->List xB
 | []=>[]
 |(_,v)::r=>CO v++Sa r
def xl (st:qB):List xB:=Sa st.env++Jo st.aE
mutual
def xm:SV->SV->Bool
 | .undef,.undef=>anq
 | .jB,.jB=>anq
 | .dR,.dR=>anq
 | .int k _,.int l _=>fA k l
 | .bool _,.bool _=>anq
 | .agg a,.agg b=>x3 a b
 | .cq a,.cq b=>x3 a b
 | .sl r _,.sl q _=>Bu r q
 | .nil e c,.nil f d=>AC e f&&c==d
 | .own t x,.own u y=>AC t u&&x==y
 | .pre t _ _ x,.pre u _ _ y=>AC t u&&x==y
 | .part t _ _ _ x,.part u _ _ _ y=>AC t u&&x==y
 | .pb t _ o,.pb u _ p=>AC t u&&AC o p
 | .bp t n o,.bp u m p=>AC t u&&AC n m&&AC o p
 | .bH a o,.bH b p=>x3 a b&&AC o p
 | .eI f a b,.eI g c d=>AC f g&&x3 a c&&x3 b d
 | .mp t,.mp u=>AC t u
 |_,_=>anr
def x3:List SV->List SV->Bool
 | [],[]=>anq
 |x::xs,y::ys=>xm x y&&x3 xs ys
 |_,_=>anr
end
def afD:SB->SB->Bool
 | .arr r _,.arr q _=>Bu r q
 | .box a,.box b=>x3 a b
 | .set _,.set _=>anq
 | .aO p _,.aO q _=>p.same q
 | .dead,.dead=>anq
 |_,_=>anr
def Fw:List SB->List SB->Bool
 | [],[]=>anq
 |x::xs,y::ys=>afD x y&&Fw xs ys
 |_,_=>anr
def Qe:SE->SE->Bool
 | [],[]=>anq
 |(t,x)::xs,(u,y)::ys=>AC t u&&xm x y&&Qe xs ys
 |_,_=>anr
def Qf:List Nat->List Nat->Bool
 | [],[]=>anq
 |x::xs,y::ys=>AC x y&&Qf xs ys
 |_,_=>anr
def Fx (a b:qB):Bool:=Qe a.env b.env&&Fw a.aE b.aE&&Qf a.fz b.fz&&AC a.kn b.kn
mutual
def s9:SV->List xB->SV×List xB
 | .int k _,.i n::q=>(.int k n,q)
 | .bool _,.b x::q=>(.bool x,q)
 | .agg cs,q=>(.agg (rJ cs q).1,(rJ cs q).2)
 | .cq cs,q=>(.cq (rJ cs q).1,(rJ cs q).2)
 | .sl _ _,.l r l::q=>(.sl r l,q)
 | .pre t _ _ x,.n len:: .n cap::q=>(.pre t len cap x,q)
 | .part t _ _ _ x,.n off:: .n len:: .n cap::q=>(.part t off len cap x,q)
 | .pb t _ o,.i i::q=>(.pb t i o,q)
 | .bH cs o,q=>(.bH (rJ cs q).1 o,(rJ cs q).2)
 | .eI f a b,q=>(.eI f (rJ a q).1 (rJ b (rJ a q).2).1,(rJ b (rJ a q).2).2)
 |v,q=>(v,q)
def rJ:List SV->List xB->List SV×List xB
 | [],q=>([],q)
 |x::xs,q=>((s9 x q).1::(rJ xs (s9 x q).2).1,(rJ xs (s9 x q).2).2)
end
def Om:SB->List xB->SB×List xB
 | .arr _ _,.l r l::q=>(.arr r l,q)
 | .box cs,q=>(.box (rJ cs q).1,(rJ cs q).2)
 | .set _,.s l::q=>(.set l,q)
 | .aO _ _,.l [.i .i64,p] l::q=>(.aO p l,q)
 |b,q=>(b,q)
def AD:List SB->List xB->List SB×List xB
 | [],q=>([],q)
 |b::r,q=>((Om b q).1::(AD r (Om b q).2).1,(AD r (Om b q).2).2)
def Lu:SE->List xB->SE×List xB
 | [],q=>([],q)
 |(t,v)::r,q=>((t,(s9 v q).1)::(Lu r (s9 v q).2).1,(Lu r (s9 v q).2).2)
def zR (st:qB) (q:List xB):qB:={st with env:=(Lu st.env q).1,aE:=(AD st.aE (Lu st.env q).2).1}
def agL:List xB->List AK
 | []=>[]
 |a::r=>a.k::agL r
def ptK {β:Type 1} (p:PT) (c:PT->β):β:=
 match p with
 | .i k=>c (.i k)
 | .b=>c .b
def rK {β:Type 1}:List PT->(List PT->β)->β
 | [],c=>c []
 |p::r,c=>ptK p fun p=>rK r fun r=>c (p::r)
def ksK {β:Type 1}:List AK->(List AK->β)->β
 | [],c=>c []
 | .i::r,c=>ksK r fun r=>c (.i::r)
 | .b::r,c=>ksK r fun r=>c (.b::r)
 | .n::r,c=>ksK r fun r=>c (.n::r)
 | .l q::r,c=>rK q fun q=>ksK r fun r=>c (.l q::r)
 | .s::r,c=>ksK r fun r=>c (.s::r)
mutual
def sC:SV->Option PV
 | .int k n=>an9 (.int k n)
 | .bool b=>an9 (.bool b)
 | .str x=>an9 (.str x)
 | .dR=>an9 .dR
 | .agg cs=>match qZ cs with|some l=>an9 (.agg l)|none=>anp
 | .cq cs=>match qZ cs with|some l=>an9 (.cq l)|none=>anp
 | .sl r l=>an9 (.sl (an4 r) anr (l.map (RT.pv r)))
 | .nil e c=>an9 (.sl e c [])
 | .bH cs off=>match qZ cs with|some l=>an9 (.bH l off)|none=>anp
 | .eI f a b=>match qZ a,qZ b with
  |some x,an9 y=>an9 (.eI f x y)
  |_,_=>anp
 |_=>anp
def qZ:List SV->Option (List PV)
 | []=>an9 []
 |x::xs=>match sC x,qZ xs with
  |some y,an9 ys=>an9 (y::ys)
  |_,_=>anp
end
structure cA (α:Type) where
 enc:α->List SV
 dec:List SV->Option (α×List SV)
 law: ∀{vs:List SV} {a:α} {rest:List SV} {ps:List PV},dec vs=an9 (a,rest)->qZ vs=an9 ps-> ∃p q,ps=p++q/\qZ (enc a)=an9 p/\qZ rest=an9 q
structure Arg (α:Type) where
 enc:α->SV
 dec:SV->Option α
 law: ∀{v:SV} {a:α} {p:PV},dec v=an9 a->sC v=an9 p->sC (enc a)=an9 p
structure ax (α:Type) where
 enc:α->List SV
 dec:List SV->Option α
 law: ∀{vs:List SV} {a:α} {ps:List PV},dec vs=an9 a->qZ vs=an9 ps->qZ (enc a)=an9 ps
inductive Kd where
 |pure
 |mO
 |own
structure bz where
 {α β:Type}
 args:ax α
 res:Arg β
 fn:α->Option β
 kd:Kd
 ow:Bool
structure dN where
 ka:List AK
 ta:List SV
 tb:List SB
 ko:List AK
 tv:SV
 to:List SB
 fn:j7 ka->Option (j7 ko)
def By:(p:PT)->PV->Option p.T
 | .i k,.int l n=>bif fA l k then an9 n else anp
 | .b,.bool x=>an9 x
 |_,_=>anp
def Hn:(r:List PT)->List PV->Option (RT r)
 | [],[]=>an9 ()
 | [p],[v]=>By p v
 |p::q::r,v::vs=>match By p v,Hn (q::r) vs with
  |some a,an9 b=>an9 (a,b)
  |_,_=>anp
 |_,_=>anp
def Dw (r:List PT):List (List PV)->Option (List (RT r))
 | []=>an9 []
 |x::xs=>match Hn r x,Dw r xs with
  |some a,an9 l=>an9 (a::l)
  |_,_=>anp
structure Srt where
 r:List PT
 g:Option FuncId
 fn:List (RT r)->Option (List (RT r))
def On:Srt:=⟨[.i .i64],anp,Jk⟩
def XG:Option FuncId->List PV->Bool
 |none,[]=>anq
 |some g,[.eI h [] []]=>AC h g
 |_,_=>anr
def Jp (q:Srt) (args:List PV) (aE:cH) (fz:List Nat):Option (PV×cH×List Nat):=
 match args with
 | .own t e off len _ _::r=>match aE[t]? with
  |some (.arr e1 rows)=>if AC e (an4 q.r)&&AC off 0&&af6 len (an4 rows)&&af6 len eN&&!has fz t&&XG q.g r then
   (match Dw q.r (rows.take len) with
   |some l=>match q.fn l with
    |some m=>if AC (an4 m) (an4 l) then an9 (.cq [],aE.set t (.arr e1 (m.map (RT.pv q.r)++rows.drop len)),fz) else anp
    |none=>anp
   |none=>anp) else anp
  |_=>anp
 |_=>anp
inductive Cd where
 |code (x:aJ)
 |ins (esz:Nat)
 |srt (q:Srt)
 |cat
instance:Coe aJ Cd:=⟨.code⟩
def Cd.ent:Cd->Ent
 | .code x=> .code x
 | .ins n=> .G6 (IT n)
 | .srt q=> .G6 (Jp q)
 | .cat=> .G6 IQ
structure Ctx where
 lp:Option Nat
 con:FuncId->List bz
 fpc:FuncId->List dN
 code:FuncId->Option Cd
 rk:List (Nat×List PT)
inductive XRS where
 |loc (r:fY)
 |shr (v:SV) (s:List SB) (z:List Nat)
def SV.agN:SV->Bool
 | .own .. | .pre .. | .part .. | .pa .. | .pb .. | .bp .. | .mp .. =>anq
 |_=>anr
def AE:List SV->Bool
 | []=>anr
 |x::xs=>x.agN||AE xs
mutual
def WY (ts:List Nat):SV->SV
 | .pa t r i a off=>bif has ts t then .pb t i off else .pa t r i a off
 | .agg cs=> .agg (Uw ts cs)
 | .cq cs=> .cq (Uw ts cs)
 | .bH cs off=> .bH (Uw ts cs) off
 | .eI f a b=> .eI f (Uw ts a) (Uw ts b)
 |v=>v
def Uw (ts:List Nat):List SV->List SV
 | []=>[]
 |x::xs=>WY ts x::Uw ts xs
end
def dgE (ts:List Nat):SE->SE
 | []=>[]
 |(t,v)::r=>(t,WY ts v)::dgE ts r
def XH (ts:List Nat):SB->SB
 | .box cs=> .box (Uw ts cs)
 |b=>b
def Cm (ts:List Nat):List SB->List SB
 | []=>[]
 |b::r=>XH ts b::Cm ts r
def Ux:List SB->Nat->SB->List SB
 | [],_,_=>[]
 |_::r,0,b=>b::r
 |x::r,n+1,b=>x::Ux r n b
def q8:List (Nat×SB)->List SB->List SB
 | [],s=>s
 |(t,b)::r,s=>q8 r (Ux s t b)
def x4:List (Nat×SB)->List Nat
 | []=>[]
 |(t,_)::r=>t::x4 r
def Jq (d:Option Nat) (v:SV) (e:SE):SE:=
 match d with
 |some t=>(t,v)::e
 |none=>e
def apS:List SB->List SB->List SB
 | [],l=>l
 |b::r,l=>b::apS r l
def fY.next (d:Option Nat) (st:qB) (r:fY):qB:=
 match r.wr with
 | []=>{env:=Jq d r.v st.env,aE:=apS st.aE r.news,fz:=r.fr++st.fz,kn:=st.kn}
 |w=>{env:=Jq d r.v (dgE (x4 w) st.env),aE:=apS (Cm (x4 w) (q8 w st.aE)) r.news,fz:=r.fr++st.fz,kn:=st.kn}
def fY.ok (z:List Nat) (r:fY):Bool:=(x4 r.wr).all fun t=>!has z t
def fY.tr (nx:Nat) (r:fY):Tr:=
 ⟨r.rd++r.fr,x4 r.wr,!r.news.isEmpty,anr,(r.rd++r.fr).all (afF · nx)&&(x4 r.wr).all (afF · nx),nx,nx+an4 r.news⟩
def Uy:Tr:=⟨[],[],anq,anq,anq,0,0⟩
def pR {R:Type}:List SB->List SB->gu R->gu R
 | [],_,k=>k
 |x::xs,y::ys,k=>match x with
  | .arr r l=>match y with
   | .arr q m=>bif Bu r q then gB (an4 m==an4 l) (pR xs ys k) aN else aN
   | .dead=>pR xs ys k
   |_=>aN
  | .dead=>match y with
   | .dead=>pR xs ys k
   |_=>aN
  | .box _=>match y with
   | .box _=>pR xs ys k
   | .dead=>pR xs ys k
   |_=>aN
  |_=>pR xs ys k
 |_,_,_=>aN
abbrev XI:=FuncId->List SV->List SB->List Nat-> ∀R:Type,(SV->List SB->List Nat->gu R)->gu R
section
variable {R : Type}
def ao2 (_:FuncId) (_:List SV):gu R:=aN
def atK (_:FuncId) (_:List SV) (_:List SB):gu R:=aN
def Oo (f:FuncId) (m:Bool) (s:List SB) (tk:List Nat) (vs:List SV) (k:XRS->gu R):List bz->gu R
 | []=>ao2 f vs
 |c::r=>match c.args.dec vs with
  |some a=>bif m==c.ow then lh (c.fn a) fun b=>match c.kd with
   | .pure=>k (.loc {v:=c.res.enc b,rd:=tk})
   | .mO=>k (.loc {v:=c.res.enc b,rd:=tk,fr:=tk})
   | .own=>k (.loc {v:=(xZ (an4 s) (c.res.enc b)).1,news:=(xZ (an4 s) (c.res.enc b)).2,rd:=tk}) else Oo f m s tk vs k r
  |none=>Oo f m s tk vs k r
mutual
def Lv (g:Nat->Nat):SV->SV
 | .agg cs=> .agg (Dx g cs)
 | .cq cs=> .cq (Dx g cs)
 | .own t ex=> .own (g t) ex
 | .pre t len cap ex=> .pre (g t) len cap ex
 | .part t off len cap ex=> .part (g t) off len cap ex
 | .pa t _ i _ off=> .pb (g t) i off
 | .pb t i off=> .pb (g t) i off
 | .bp t n off=> .bp (g t) n off
 | .bH cs off=> .bH (Dx g cs) off
 | .mp t=> .mp (g t)
 | .eI f a b=> .eI f (Dx g a) (Dx g b)
 |v=>v
def Dx (g:Nat->Nat):List SV->List SV
 | []=>[]
 |x::xs=>Lv g x::Dx g xs
end
def Uz (g:Nat->Nat):SB->SB
 | .box cs=> .box (Dx g cs)
 |b=>b
def zS (g:Nat->Nat):List Nat->List SB->List (Nat×SB)
 |t::r,b::s=>(t,Uz g b)::zS g r s
 |_,_=>[]
def afG (k:Nat) (v:SV) (s:List SB):Bool:=(Oh s6 v++s.flatMap Fp).all fun t=>afF t k
def fpS (f : FuncId) (n : Nat) (tk : List Nat) (vs : List SV) (s0 : List SB) (k : XRS -> gu R) : List dN -> gu R
  | [] => atK f vs s0
  | c :: r => bif x3 c.ta vs && Fw c.tb s0 then (match qY c.ka (CP vs ++ Jo s0) with
      | some a => lh (c.fn a) fun b =>
          k (.loc { v := Lv (kg tk n) (s9 c.tv (mC c.ko b)).1, wr := zS (kg tk n) tk (AD c.to (s9 c.tv (mC c.ko b)).2).1 })
      | none => fpS f n tk vs s0 k r) else fpS f n tk vs s0 k r
def HV (cx:Ctx) (inl:XI) (e:SE) (s:List SB) (z:List Nat) (op:k7) (k:XRS->gu R):gu R:=
 match op with
 | .call m f args=>match m with
  | .WN=>match sB s (kK s deep) (jG e args) with
   |some vs=>Oo f anr s (rH (xx s deep) (jG e args)) vs k (cx.con f)
   |none=>aN
  | .own=>match sB s (kK s deep) (jG e args) with
   |some vs=>Oo f anq s (rH (xx s deep) (jG e args)) vs k (cx.con f)
   |none=>aN
  | .shr=>inl f (jG e args) s z R fun v s' z'=>k (.shr v s' z')
  | .fp=>match Og s (kK s deep) (jG e args) with
   |false=>aN
   |true=>let tk:=oZ (rH (xx s deep) (jG e args))
    bif tk.all (fun t=>!has z t) then (match tu tk (jG e args),Hm s tk tk with
     |some vs,an9 s0=>fpS f (an4 s) tk vs s0 k (cx.fpc f)
     |_,_=>aN) else aN
 | .xb x args=>match bW e x with
  | .eI f a b=>bif AE (jG e args++b) then inl f (a++jG e args++b) s z R fun v s' z'=>k (.shr v s' z')
   else match sB s (kK s deep) (a++jG e args++b) with
   |some vs=>Oo f anr s (rH (xx s deep) (a++jG e args++b)) vs k (cx.con f)
   |none=>aN
  |_=>aN
 |op=>my e s z op fun r=>k (.loc r)
def Qg (d:Option Nat) (st:qB) (tr:List Tr) (k:qB->List Tr->gu R) (x:XRS):gu R:=
 match x with
 | .loc r=>bif r.ok st.fz then XD r.v fun v=>k ({r with v}.next d st) (r.tr (an4 st.aE)::tr) else aN
 | .shr v s z=>XD v fun v=>pR st.aE s (bif st.fz.all (has z) then k {env:=Jq d v (dgE (uQ (an4 st.aE)) st.env),aE:=s,fz:=z,kn:=st.kn} (Uy::tr) else aN)
def o9 (cx:Ctx) (inl:XI):List bU->qB->List Tr->(qB->List Tr->gu R)->gu R
 | [],st,tr,k=>k st tr
 |o::r,st,tr,k=>
  let run:=fun st:qB=>match o.op with
   | .pick (.t c) a b=>match G9 c st.env with
    | .bool x=>gB x (Qg o.dst {st with env:=AA c (.bool anq) st.env} tr (o9 cx inl r · · k) (.loc {v:=bW st.env a}))
     (Qg o.dst {st with env:=AA c (.bool anr) st.env} tr (o9 cx inl r · · k) (.loc {v:=bW st.env b}))
    |_=>aN
   |op=>HV cx inl st.env st.aE st.fz op (Qg o.dst st tr (o9 cx inl r · · k))
  let skip:=fun st:qB=>o9 cx inl r {st with env:=Jq o.dst .jB st.env} (Tr.idle::tr) k
  match o.guard with
  |none=>run st
  |some (s,want)=>match G9 s st.env with
   | .bool x=>bif want then gB x (run {st with env:=AA s (.bool anq) st.env}) (skip {st with env:=AA s (.bool anr) st.env})
    else gB x (skip {st with env:=AA s (.bool anq) st.env}) (run {st with env:=AA s (.bool anr) st.env})
   | .jB=>skip st
   |_=>aN
def Lw (e:SE):List Nat->(SE->gu R)->gu R
 | [],k=>k []
 |s::r,k=>XD (G9 s e) fun v=>Lw e r fun e'=>k ((s,v)::e')
noncomputable def Bz (cx:Ctx) (inl:XI):(c:jY)->(R:Type)->qB->(hJ->qB->gu R)->gu R
 | .skip,_,st,k=>k .normal st
 | .region d ops fU,_,st,k=>o9 cx inl ops st [] fun kO tr=>
  let fin:=Lw kO.env fU fun e=>k .normal {kO with env:=e}
  match d with
  |none=>fin
  |some bf=>match rC 0 (tr.reverse.zip bf) with
   |true=>fin
   |false=>aN
 | .seq a b,R,st,k=>Bz cx inl a R st fun e kO=>match e with
  | .normal=>Bz cx inl b R kO k
  |e=>k e kO
 | .cond c a b,R,st,k=>match bW st.env c with
  | .bool x=>gB x (Bz cx inl a R st k) (Bz cx inl b R st k)
  |_=>aN
 | .block id b,R,st,k=>Bz cx inl b R st fun e kO=>match e with
  | .exit j=>bif AC j id then k .normal kO else k (.exit j) kO
  |e=>k e kO
 | .loop live b,_,st,k=>match Fv cx.rk live st with
  |none=>aN
  |some nX=>ksK (agL (xl nX)) fun ks=>match qY ks (xl nX) with
   |none=>aN
   |some y0=>fun ρ w=>Um cx.lp (fun y:j7 ks=>Bz cx inl b (Step (j7 ks) ρ) (zR nX (mC ks y)) (fun e DZ=>match e with
    | .normal=>match Fv cx.rk live DZ with
     |some Oq=>bif Fx nX Oq then (match qY ks (xl Oq) with
      |some y'=>HS (.next y')
      |none=>aN) else aN
     |none=>aN
    |e=>fun BA w'=>k e DZ BA fun r=>w' (.done (w r))) (Step (j7 ks) ρ) fun z=>z) y0
 | .exit id,_,st,k=>k (.exit id) st
 | .ret,_,st,k=>k .ret st
def Ot (st:qB):RV->Option SV
 | .tmp t=>an9 (G9 t st.env)
 | .cell t agg=>match G9 t st.env with
  | .bp t _ off=>match nth st.aE t with
   |some (.box cs)=>zP agg off cs
   |_=>anp
  | .bH cs off=>zP agg off cs
  |_=>anp
def y6 (st:qB):List RV->Option (List SV)
 | []=>an9 []
 |r::rs=>match Ot st r,y6 st rs with
  |some v,an9 vs=>an9 (v::vs)
  |_,_=>anp
def CQ:List SV->SV
 | [v]=>v
 |vs=> .cq vs
def Ou:Nat->List SV->SE
 |_,[]=>[]
 |i,v::r=>(i,v)::Ou (i+1) r
noncomputable def Lx (cx:Ctx) (inl:XI) (x:aJ) (R:Type) (args:List SV) (s:List SB) (z:List Nat) (k:SV->List SB->List Nat->gu R):gu R:=
 bif AC (an4 args) x.Dk then Bz cx inl x.code R {env:=Ou 0 args,aE:=s,fz:=z,kn:=an4 s} fun e st=>match e with
  | .exit _=>aN
  |_=>match y6 st x.res with
   |some vs=>k (CQ vs) st.aE st.fz
   |none=>aN
 else aN
def fY.nB (s:List SB) (r:fY):List SB:=
 match r.wr with
 | []=>apS s r.news
 |w=>apS (Cm (x4 w) (q8 w s)) r.news
def Dy:Option FuncId->List SV->Bool
 |none,[]=>anq
 |some g,[.eI h [] []]=>AC h g
 |_,_=>anr
structure ao3 where
 t:Nat
 r:List PT
 l:List (RT r)
 i:Int
 m:List (RT r)
def XJ (esz:Nat) (args:List SV) (s:List SB) (z:List Nat):Option ao3:=
 match args with
 | [.own t _,.int .i64 i,.own u _]=>match nth s t with
  |some (.arr r l)=>match nth s u with
   |some (.arr q m)=>match sA q r m with
    |some m=>bif AC (an4 r) esz&&!Nat.beq t u&&!has z t then an9 ⟨t,r,l,i,m⟩ else anp
    |none=>anp
   |_=>anp
  |_=>anp
 |_=>anp
def agP (esz:Nat) (args:List SV) (s:List SB) (z:List Nat) (k:SV->List SB->List Nat->gu R):gu R:=
 match XJ esz args s z with
 |some a=>lh (yZ a.l a.i a.m) fun l'=>k (.own (an4 s) anr) (fY.nB s {v:= .own (an4 s) anr,news:=[.arr a.r l'],wr:=[(a.t,.dead)]}) z
 |none=>aN
structure ao4 where
 t:Nat
 r:List PT
 l:List (RT r)
 m:List (RT r)
def XK (args:List SV) (s:List SB) (z:List Nat):Option ao4:=
 match args with
 | [.part t off len _ _]=>match nth s t with
  |some (.box [.sl r l,.sl q m])=>match sA q r m with
   |some m=>bif AC (an4 r) 1&&AC off 0&&AC len 2&&!has z t then an9 ⟨t,r,l,m⟩ else anp
   |none=>anp
  |_=>anp
 |_=>anp
def agQ (args:List SV) (s:List SB) (z:List Nat) (k:SV->List SB->List Nat->gu R):gu R:=
 match XK args s z with
 |some a=>lh (R8 a.l a.m) fun l'=>k (.own (an4 s) anr) (fY.nB s {v:= .own (an4 s) anr,news:=[.arr a.r l'],wr:=[(a.t,.dead)]}) z
 |none=>aN
def XL (r:List PT) (g:Option FuncId) (args:List SV) (s:List SB) (z:List Nat):Option (Nat×Option Nat×List (RT r)):=
 match args with
 | .own t _::a=>match nth s t with
  |some (.arr q l)=>match sA q r l with
   |some l=>bif !has z t&&Dy g a then an9 (t,anp,l) else anp
   |none=>anp
  |_=>anp
 | .pre t len _ _::a=>match nth s t with
  |some (.arr q l)=>match sA q r l with
   |some l=>bif !has z t&&Dy g a then an9 (t,an9 len,l) else anp
   |none=>anp
  |_=>anp
 |_=>anp
def agR (q:Srt) (args:List SV) (s:List SB) (z:List Nat) (k:SV->List SB->List Nat->gu R):gu R:=
 match XL q.r q.g args s z with
 |some (t,anp,l)=>lh (Dv q.fn l) fun m=>k (.cq []) (fY.nB s {v:= .cq [],wr:=[(t,.arr q.r m)]}) z
 |some (t,an9 len,l)=>lh (y4 q.fn len l) fun m=>k (.cq []) (fY.nB s {v:= .cq [],wr:=[(t,.arr q.r m)]}) z
 |none=>aN
noncomputable def UA (cx:Ctx):Nat->XI
 |0=>fun _ _ _ _ _ _=>aN
 |n+1=>fun f args s z R k=>match cx.code f with
  |some (.code x)=>Lx cx (UA cx n) x R args s z k
  |some (.ins e)=>agP e args s z k
  |some (.srt q)=>agR q args s z k
  |some .cat=>agQ args s z k
  |none=>aN
def UB (kd:Kd) {β:Type} (res:Arg β) (v:SV) (s:List SB) (z:List Nat):gu β:=
 match kd with
 | .pure=>bif AB v then lE (res.dec v) HS else aN
 | .mO=>bif AB v then aN else lE (Ut s v) fun u=>lE (res.dec u) HS
 | .own=>lE (R9 s z [] v) fun u=>lE (res.dec u.1) HS
noncomputable def afH (cx:Ctx) (x:aJ) {α β:Type} (args:ax α) (res:Arg β) (kd:Kd) (a:α):Option β:=
 Lx cx (UA cx 8) x β (args.enc a) [] [] (UB kd res) β fun b=>b
def Fy:List SB->Bool
 | []=>anq
 |b::r=>y5 b&&Fy r
def BB {R:Type}:List SB->List SB->gu R->gu R
 | [],[],k=>k
 |x::xs,y::ys,k=>match x with
  | .arr r l=>match y with
   | .arr q m=>bif Bu r q then gB (an4 m==an4 l) (BB xs ys k) aN else aN
   |_=>aN
  | .dead=>match y with
   | .dead=>BB xs ys k
   |_=>aN
  | .box _=>match y with
   | .box _=>BB xs ys k
   |_=>aN
  | .set _=>match y with
   | .set _=>BB xs ys k
   |_=>aN
  | .aO _ _=>match y with
   | .aO _ _=>BB xs ys k
   |_=>aN
 |_,_,_=>aN
noncomputable def atL (wd:Bool) (cx:Ctx) (x:aJ) (ka:List AK) (ta:List SV) (tb:List SB) (ko:List AK) (tv:SV) (to:List SB) (a:j7 ka):Option (j7 ko):=
 Lx cx (UA cx 8) x (j7 ko) (rJ ta (mC ka a)).1 (AD tb (rJ ta (mC ka a)).2).1 [] (fun v s z=>match z with
  | []=>let u:=bif wd then HU s v else v
   let s1:=s.take (an4 tb)
   bif xm tv u&&Fw to s1&&afG (an4 tb) u s1&&u.sure&&Fy s1 then BB (AD tb (rJ ta (mC ka a)).2).1 s1 (lE (qY ko (CO u++Jo s1)) HS) else aN
  |_=>aN) (j7 ko) fun b=>b
end
end Go.Vm
