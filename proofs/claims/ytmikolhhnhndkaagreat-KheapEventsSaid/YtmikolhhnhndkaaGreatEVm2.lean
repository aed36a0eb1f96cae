/- The logical machine, part 2: VmCall3, VmFp, VmRun, VmInv, VmStep, VmShr, VmOp, VmReg, VmReg2, VmNorm, VmNorm2, VmCode, VmSound, VmPrim, VmIns, VmTab, VmComp, VmLaw, VmSym, SvBase, SvDef. -/
import Derived.Test.YtmikolhhnhndkaaGreatEVm1
import Derived.Orders
import Derived.Laws.Sem
import Derived.Laws.Externs
import Derived.Lib.SliceRun
import Derived.Laws.CopyRow
import Derived.ProofKit
import Derived.Carry
import Derived.OpenShut
import Derived.Deep.Slices
import Derived.Deep.Grids
open List renaming getElem?_eq_getElem->ut,getElem?_eq_some_iff->EQ,getElem?_append_left->M2,getElem?_append_right->acl,mem_append->ad6,all_eq_true->ad7,mem_singleton->ad9,take_of_length_le->adc,length_append->adA,replicate->adB,mem_cons->adD,mem_cons_of_mem->adU,getD_eq_getElem?_getD->adZ,pairwise_iff_getElem->ae6,flatMap_cons->aeb,drop_of_length_le->aec,mem_append_right->aef,getElem?_set_ne->aeg,mem_append_left->aeh,mem_of_mem_take->aen,mem_of_mem_drop->aeo,flatMap_append->aew,nodup_append->aeB,getElem?_set->aeC,any_eq_true->aeE,length_set->aeH,drop_zero->aeJ,length->aeR
open Bool renaming and_eq_true->v6,false_eq_true->PP,not_eq_true'->UV,or_eq_true->aee,true->aeU,false->aeV
open Option.some renaming injEq->ww,inj->aed
open Nat renaming beq->AC,le_refl->If,lt_trichotomy->ac6,le_trans->ad0,ble->ad2,lt_or_ge->ad4,zero_le->ad5,eq_or_lt_of_le->ad8,lt_of_lt_of_le->adz,blt->adG,le_of_lt->adW,ble_eq->adY,add_mul->aem,mul_le_mul_right->aes,lt_or_gt_of_ne->aez,le_total->aeA
open Option renaming map_eq_some_iff->Do,some->aeS,none->aeT
open Prod.mk renaming injEq->IR
open Array renaming getElem?_eq_some_iff->NE,getElem?_setIfInBounds->ad1,getD_eq_getD_getElem?->ad3,getElem?_setIfInBounds_self_of_lt->ads,replicate->adu,getElem?_eq_getElem->ae9,size_replicate->ael,size_append->aeD,ext'->aeI
open Int renaming ofNat_eq_natCast->adV,ofNat->aev
open Go.Sem renaming run_bind->adX,run_pure->aeK
open Go.Result renaming andThen_ok->aea
open Go.World renaming cell?->aeG
open Decidable renaming decide->aeW
/- A pure call, whole. -/
namespace Go.Vm
structure rJ (im:Im) (loc:Loc) (az:bS) (w:World) (v:PV) (tX:bS) (HN:List Nat) (dK:Im) (ba:Loc) (w':World) (u:Value):Prop where
 fD:mF im dK
 dp:kT loc ba
 vr:VR dK ba v u
 sr:SR dK ba tX HN w'
 os:w'.os=w.os
 tape:Tape w w'
 output:w'.output=w.output
 size:w.heap.size<=w'.heap.size
 frame: ∀b,b<w.heap.size->(∀t li k,loc t=aeS li->az[t]? =aeS k->k.bA=aeU->li.cX≠b)->w'.heap[b]? =w.heap[b]?
 dy: ∀b o,dK b=aeS o->im b=aeS o\/w.heap.size<=b\/ ∃t li k,loc t=aeS li/\az[t]? =aeS k/\k.bA=aeU/\li.cX=b
 lH: ∀t li,ba t=aeS li->loc t=aeS li\/aeR az<=t
 own: ∀t li k,ba t=aeS li->tX[t]? =aeS k->k.bA=aeU->(w.heap.size<=li.cX\/ ∃u lu ku,loc u=aeS lu/\az[u]? =aeS ku/\ku.bA=aeU/\lu.cX=li.cX)
def sA (P:Program) (f:FuncId) (us:Array Value) (w:World) (R:Value->World->Prop):Prop:=
 (∃v w',(callFunc f us).run P w= .ok (.value v) w'/\R v w')\/
 ((callFunc f us).run P w= .ok (.enter f us) w/\Calls P f us w fun e w'=> ∃v,e= .returned v/\R v w')
theorem sA.mono {P:Program} {f:FuncId} {us:Array Value} {w:World} {R R':Value->World->Prop} (h:sA P f us w R) (hr: ∀v w',R v w'->R' v w'):sA P f us w R':=by
 rcases h with ⟨v,w',h1,h2⟩|⟨h1,h2⟩
 · exact .inl ⟨v,w',h1,hr _ _ h2⟩
 exact .inr ⟨h1,h2.mono fun e w' ⟨v,he,hv⟩=>⟨v,he,hr _ _ hv⟩⟩
def A4 (P : Program) (rec : Task -> Option Out) : Prop :=
  ∀ (f : FuncId) (args : List PV) (az : bS) (fz : List Nat) (v : PV) (tX : bS) (HN : List Nat), rec (.func f args az fz) = aeS (.func v tX HN) ->
    ∀ (im : Im) (loc : Loc) (w : World) (us : List Value), SR im loc az fz w -> eo im loc args us ->
      sA P f ⟨us⟩ w fun u w' => ∃ dK ba, rJ im loc az w v tX HN dK ba w' u
def yI (P : Program) (f : FuncId) (p : List PV -> Option (PV × bS)) : Prop :=
  ∀ (args : List PV) (v : PV) (news : bS), p args = aeS (v, news) -> ∀ (im : Im) (w : World) (us : List Value), SR im eZ [] [] w -> eo im eZ args us ->
    sA P f ⟨us⟩ w fun u w' => ∃ dK ba, rJ im eZ [] w v news [] dK ba w' u
def NG (P : Program) (f : FuncId) (p : List PV -> bS -> List Nat -> Option (PV × bS × List Nat)) : Prop :=
  ∃ fn c, P.funcs[f]? = aeS fn /\ (fn.name == "runtime.NumGoroutine") = aeV /\ fn.body = aeS c /\
    ∀ (args : List PV) (az : bS) (fz : List Nat) (v : PV) (tX : bS) (HN : List Nat), p args az fz = aeS (v, tX, HN) ->
      ∀ (im : Im) (loc : Loc) (w : World) (us : List Value), SR im loc az fz w -> eo im loc args us ->
        sA P f ⟨us⟩ w fun u w' => ∃ dK ba, rJ im loc az w v tX HN dK ba w' u
def rL (P:Program) (F:jM):Prop:=(∀f k p,F f=aeS (.ir k p)->k=aeV/\yI P f p)/\ ∀f p,F f=aeS (.Nl p)->NG P f p
section
variable {P : Program} {F : jM} {rec : Task -> Option Out} {im : Im} {loc : Loc} {az : bS} {w : World}
theorem SR.empty (h: ∀b o,im b=aeS o->w.heap[b]? =aeS o):SR im eZ [] [] w where
 bu:=h
 cX:=fun t li h=>by cases h
 gQ:=fun t u li lj k k' h=>by cases h
 free:=fun t li k h=>by cases h
theorem NH {r:mC} {v:PV} {u:Value} {mJ:bS} {E6:List Nat} {im0 CI:Im} {cL:Loc} {w1:World} (hk:iG im loc az w r) (hr:r.v=v) (hn:r.news=[]) (hw:r.wr=[]) (hno:v.iQ=aeU)
 (hp:rJ im0 eZ [] w v mJ E6 CI cL w1 u): ∃dK ba,VR dK ba r.v u/\rD im loc az w r dK ba w1:=by
 refine ⟨im,loc,by rw [hr];exact Il hno hp.vr,?_⟩;have pG: ∀b,b<w.heap.size->w1.heap[b]? =w.heap[b]?:=fun b hb=>hp.frame b hb fun t li k h=>by cases h
 exact {
  fD:= .refl _,dp:= .refl _
  bu:=fun b o h=>by have h1:=hk.bu b o h;have cY:b<w.heap.size:=(NE.1 h1).1;rw [pG b cY];exact h1
  dy:=fun _ _ h=> .inl h
  os:=hp.os,tape:=hp.tape,output:=hp.output,size:=hp.size
  frame:=fun b hb _=>pG b hb
  No:=fun t k h=>by rw [hw] at h;cases h
  wr:=fun t k li h=>by rw [hw] at h;cases h
  jO:=fun _ _ h=> .inl h
  news:=fun j k li h=>by rw [hn] at h;simp at h
  distinct:=fun i j ki kj li lj h=>by rw [hn] at h;simp at h}
theorem Pz {r:mC} {v v':PV} {u:Value} {mJ:bS} {E6 tk:List Nat} {CI:Im} {cL:Loc} {w1:World} (hr:r.v=v') (hn:r.news=[]) (hw:r.wr=[]) (hf:r.fr=tk)
 (hp:rJ (grow im w (yG loc az tk)) eZ [] w v mJ E6 CI cL w1 u) (hi:vB mJ v=aeS v'): ∃dK ba,VR dK ba r.v u/\rD im loc az w r dK ba w1:=by
 have pG: ∀b,b<w.heap.size->w1.heap[b]? =w.heap[b]?:=fun b hb=>hp.frame b hb fun t li k h=>by cases h
 let CJ:Im:=fun b=>match CI b with
  |some o=>aeS o
  |none=>if (yG cL mJ (iu rh v)).contains b&&ad2 w.heap.size b then w1.heap[b]? else aeT
 have jZ:mF CI CJ:=fun b o h=>by simp only [CJ,h]
 have yw: ∀b o,CJ b=aeS o->w1.heap[b]? =aeS o:=by
  intro b o h;simp only [CJ] at h;split at h
  · rename_i o' ho;injection h with h;subst h;exact hp.sr.bu b _ ho
  split at h
  · exact h
  cases h
 have aeF: ∀t,t∈iu rh v->Over CI CJ cL mJ w1 t:=by
  intro t ht li hl;obtain ⟨k,gR,rj⟩:=hp.sr.cX t li hl;refine ⟨k,gR,rj,fun hs=>?_⟩;have Xo:w.heap.size<=li.cX:=by
   rcases hp.own t li k hl gR hs with h|⟨u,lu,ku,h,_⟩
   · exact h
   cases h
  simp only [CJ];split
  · rename_i o ho;exact (hp.sr.bu _ _ ho).symm
  rw [rc]
  simp only [v6,adY];exact ⟨by simpa using yH.2 ⟨t,li,k,ht,hl,gR,hs,rfl⟩,Xo⟩
 refine ⟨CJ,loc,by rw [hr];exact Pw jZ aeF hp.vr hi,?_⟩;exact {
  fD:=(GH im w _).trans (hp.fD.trans jZ),dp:= .refl _
  bu:=yw
  dy:=fun b o h=>by
   simp only [CJ] at h;split at h
   · rename_i o' ho
     injection h with h;subst h;rcases hp.dy b _ ho with h1|h1|⟨t,li,k,h1,_⟩
     · rcases Pv h1 with h2|h2
       · exact .inl h2
       obtain ⟨t,li,k,ht,hl,vd,hs,hb⟩:=yH.1 h2
       exact .inr (.inr ⟨t,li,k,by rw [hf];exact ox.2 ht,hl,vd,hs,hb⟩)
     · exact .inr (.inl h1)
     cases h1
   split at h
   · rename_i hc
     simp only [v6,adY] at hc;exact .inr (.inl hc.2)
   cases h
  os:=hp.os,tape:=hp.tape,output:=hp.output,size:=hp.size
  frame:=fun b hb _=>pG b hb
  No:=fun t k h=>by rw [hw] at h;cases h
  wr:=fun t k li h=>by rw [hw] at h;cases h
  jO:=fun _ _ h=> .inl h
  news:=fun j k li h=>by rw [hn] at h;simp at h
  distinct:=fun i j ki kj li lj h=>by rw [hn] at h;simp at h}
theorem Me {r:mC} {v v':PV} {u:Value} {mJ:bS} {E6 seen':List Nat} {im0 CI:Im} {cL:Loc} {w1:World} {news:bS} (hk:iG im loc az w r) (hr:r.v=v') (hn:r.news=news) (hw:r.wr=[])
 (hp:rJ im0 eZ [] w v mJ E6 CI cL w1 u) (hi:xO mJ E6 (aeR az) [] v=aeS (v',news,seen')): ∃dK ba,VR dK ba r.v u/\rD im loc az w r dK ba w1:=by
 have pG: ∀b,b<w.heap.size->w1.heap[b]? =w.heap[b]?:=fun b hb=>hp.frame b hb fun t li k h=>by cases h
 obtain ⟨Io,ts,h1,h2⟩:=Py (fun t li hl=>hp.sr.cX t li hl) hp.vr hi
 let pI:Loc:=fun t=>if t<(aeR az) then loc t else match Io[t-(aeR az)]? with
  |some li=>aeS li
  |none=>loc t
 have zC: ∀(j:Nat) (li:LI),Io[j]? =aeS li->pI (aeR az+j)=aeS li:=by intro j li hj;simp only [pI];rw [sp (by omega),show (aeR az)+j-(aeR az)=j by omega,hj]
 have jZ:kT loc pI:=by
  intro t li hl;simp only [pI];split
  · exact hl
  rename_i cY
  split
  · rename_i l2 Fy
    have hj:=(EQ.1 Fy).1;have:=hk.fresh (t-(aeR az)) (by rw [hn,<- h1.GJ];exact hj);rw [show (aeR az)+(t-(aeR az))=t by omega,hl] at this;cases this
  exact hl
 have hli: ∀(j:Nat) (k:jc),news[j]? =aeS k-> ∃li,Io[j]? =aeS li:=by intro j k hj;have:=(EQ.1 hj).1;exact ⟨_,ut (by rw [h1.GJ];exact this)⟩
 have hts: ∀(j:Nat) (k:jc),news[j]? =aeS k->k.bA=aeU-> ∃t,ts[j]? =aeS (aeS t):=by
  intro j k hj hs;have cY:=(EQ.1 hj).1;cases hg:ts[j]? with
  |none=>have:=List.getElem?_eq_none_iff.1 hg;have:=h1.HX;omega
  |some x=>
   cases x with
   |some t=>exact ⟨t,rfl⟩
   |none=>rw [h1.dum j k hj hg] at hs;cases hs
 refine ⟨im,pI,by rw [hr];exact h2 im pI zC,?_⟩;exact {
  fD:= .refl _,dp:=jZ
  bu:=fun b o h=>by have h1:=hk.bu b o h;have cY:b<w.heap.size:=(NE.1 h1).1;rw [pG b cY];exact h1
  dy:=fun _ _ h=> .inl h
  os:=hp.os,tape:=hp.tape,output:=hp.output,size:=hp.size
  frame:=fun b hb _=>pG b hb
  No:=fun t k h=>by rw [hw] at h;cases h
  wr:=fun t k li h=>by rw [hw] at h;cases h
  jO:=fun t li h=>by
   simp only [pI] at h;split at h
   · exact .inl h
   rename_i cY
   split at h
   · rename_i l2 Fy
     have hj:=(EQ.1 Fy).1;exact .inr ⟨by omega,by rw [hn,<- h1.GJ];omega⟩
   exact .inl h
  news:=AX fun j k hj=>by
   rw [hn] at hj;obtain ⟨li,hl⟩:=hli j k hj;obtain ⟨⟨e,rows,rfl⟩,rj⟩:=h1.br j k li hj hl;refine ⟨li,zC j li hl,rj,fun hs=>?_⟩;obtain ⟨t,ht⟩:=hts j _ hj hs;obtain ⟨a1,a2,a3,_,_⟩:=h1.own j _ li t hj hl ht;have Xo:w.heap.size<=li.cX:=by
    rcases hp.own t li _ a1 a2 hs with h|⟨u,lu,ku,h,_⟩
    · exact h
    cases h
   refine ⟨?_,.inl Xo⟩;cases hb:im li.cX with
   |none=>rfl
   |some o=>have:=(NE.1 (hk.bu _ _ hb)).1;omega
  distinct:=fun i j ki kj li lj qG hj' S0 NI aih aii Ij=>by rw [hn] at qG hj';obtain ⟨l1,L6⟩:=hli i ki qG;obtain ⟨l2,Fy⟩:=hli j kj hj';have e1:=zC i l1 L6;have e2:=zC j l2 Fy;rw [aih] at e1;rw [aii] at e2;injection e1 with e1;injection e2 with e2;subst e1 e2;obtain ⟨t1,ht1⟩:=hts i ki qG S0;obtain ⟨t2,ht2⟩:=hts j kj hj' NI;obtain ⟨a1,a2,_⟩:=h1.own i ki li t1 qG L6 ht1;obtain ⟨b1,b2,_⟩:=h1.own j kj lj t2 hj' Fy ht2;have:=hp.sr.gQ t1 t2 li lj ki kj a1 b1 a2 b2 S0 NI Ij;subst this;exact h1.inj i j t1 ht1 ht2}
theorem yJ {own:Bool} {f:FuncId} {lT:List PV} {tk:List Nat} {r:mC}
 (h:(match rec (.func f lT [] []) with
  |some (.func v s1 z1)=>
   if own then match xO s1 z1 (aeR az) [] v with
    |some (v',n2,_)=>aeS {v:=v',news:=n2,rd:=tk}
    |none=>aeT
   else if v.iQ then aeS {v,rd:=tk}
   else match vB s1 v with
    |some v'=>aeS {v:=v',rd:=tk,fr:=tk}
    |none=>aeT
  |_=>aeT)=aeS r):r.rd=tk:=by
 split at h
 · split at h
   · split at h
     · injection h with h;subst h;rfl
     cases h
   split at h
   · injection h with h;subst h;rfl
   split at h
   · injection h with h;subst h;rfl
   cases h
 cases h
theorem vX (tT:A4 P rec) {own:Bool} {f:FuncId} {lT:List PV} {tk:List Nat} {r:mC} {us:List Value}
 (h:(match rec (.func f lT [] []) with
  |some (.func v s1 z1)=>
   if own then match xO s1 z1 (aeR az) [] v with
    |some (v',n2,_)=>aeS {v:=v',news:=n2,rd:=tk}
    |none=>aeT
   else if v.iQ then aeS {v,rd:=tk}
   else match vB s1 v with
    |some v'=>aeS {v:=v',rd:=tk,fr:=tk}
    |none=>aeT
  |_=>aeT)=aeS r) (ha:eo (grow im w (yG loc az tk)) eZ lT us) (hk:iG im loc az w r):
 sA P f ⟨us⟩ w fun u w'=> ∃dK ba,VR dK ba r.v u/\rD im loc az w r dK ba w':=by
 cases hr:rec (.func f lT [] []) with
 |none=>rw [hr] at h;cases h
 |some o=>
  rw [hr] at h;cases o with
  |code e st=>cases h
  |func v s1 z1=>
   dsimp only at h;refine (tT f lT [] [] v s1 z1 hr _ eZ w us (SR.empty (Mb hk.bu)) ha).mono fun u w' hq=>?_
   obtain ⟨CI,cL,hp⟩:=hq;split at h
   · cases Yo:xO s1 z1 (aeR az) [] v with
     |none=>rw [Yo] at h;cases h
     |some q2=>obtain ⟨v',n2,s2⟩:=q2;rw [Yo] at h;simp only [ww] at h;subst h;exact Me hk rfl rfl rfl hp Yo
   split at h
   · rename_i hno
     simp only [ww] at h;subst h;exact NH hk rfl rfl rfl hno hp
   cases hif:vB s1 v with
   |none=>rw [hif] at h;cases h
   |some v'=>rw [hif] at h;simp only [ww] at h;subst h;exact Pz rfl rfl rfl rfl hp hif
theorem GL (tT:A4 P rec) (vY:rL P F) {own:Bool} {f:FuncId} {args:List PV} {fz:List Nat} {r:mC} {us:List Value}
 (h:cu F rec own f args az fz=aeS r) (ha:eo im loc args us) (hk:iG im loc az w r):
 sA P f ⟨us⟩ w fun u w'=> ∃dK ba,VR dK ba r.v u/\rD im loc az w r dK ba w':=by
 have aik: ∀(rd:List Nat),(∀b o,im b=aeS o->w.heap[b]? =aeS o)-> ∀b o,grow im w (yG loc az rd) b=aeS o->w.heap[b]? =aeS o:=fun rd h=>Mb h
 have Kv: ∀(lT:List PV),AL az (vt az deep) args=aeS lT->(∀t,t∈cQ (cD az deep) args-> ∀li,loc t=aeS li-> ∃k,az[t]? =aeS k/\BR im loc w li k)->(∀b o,im b=aeS o->w.heap[b]? =aeS o)->
  eo (grow im w (yG loc az (cQ (cD az deep) args))) eZ lT us:=by
  intro lT hx ail yw;refine vW (w:=w) (GH _ _ _) (fun t=>Mc (GH _ _ _) deep t) (fun t ht li hl=>?_) ha hx;obtain ⟨k,gR,rj⟩:=ail t ht li hl;exact ⟨k,gR,rj,fun hs=>SY yw (yH.2 ⟨t,li,k,ht,hl,gR,hs,rfl⟩)⟩
 unfold cu at h;cases hx:AL az (vt az deep) args with
 |none=>rw [hx] at h;cases h
 |some lT=>
  rw [hx] at h;dsimp only at h;cases hF:F f with
  |none=>rw [hF] at h;dsimp only at h;have Fb:r.rd=cQ (cD az deep) args:=yJ h;exact vX tT h (Kv lT hx (fun t ht=>hk.tok t (.inl (by rw [Fb];exact ht))) hk.bu) hk
  |some en=>
   rw [hF] at h;cases en with
   |ir L0 p=>
    dsimp only at h;obtain ⟨rfl,hpo⟩:=vY.1 f L0 p hF;cases Kz:p lT with
    |none=>rw [Kz] at h;cases h
    |some q=>
     obtain ⟨v,news⟩:=q;rw [Kz] at h;dsimp only at h;cases Yo:xO news [] (aeR az) [] v with
     |none=>rw [Yo] at h;cases h
     |some q2=>
      obtain ⟨v',n2,s2⟩:=q2;rw [Yo] at h;simp only [PP,if_false,ww] at h;subst h;refine (hpo lT v news Kz _ w us (SR.empty (aik _ hk.bu)) (Kv lT hx (fun t ht=>hk.tok t (.inl ht)) hk.bu)).mono fun u w' hq=>?_
      obtain ⟨CI,cL,hp⟩:=hq;exact Me hk rfl rfl rfl hp Yo
   |code x=>dsimp only at h;have Fb:r.rd=cQ (cD az deep) args:=yJ h;exact vX tT h (Kv lT hx (fun t ht=>hk.tok t (.inl (by rw [Fb];exact ht))) hk.bu) hk
   |Nl x=>dsimp only at h;have Fb:r.rd=cQ (cD az deep) args:=yJ h;exact vX tT h (Kv lT hx (fun t ht=>hk.tok t (.inl (by rw [Fb];exact ht))) hk.bu) hk
end
end Go.Vm
/- A call that works on the blocks that its arguments lead to, numbered anew: what it does to the memory. -/
namespace Go.Vm
theorem fM {α:Type} {l:List α} {i:Nat} {x:α} (h:l[i]? =aeS x):i<(aeR l):=(EQ.1 h).1
theorem A5: ∀{l:List Nat} {t:Nat},t∈nI l↔t∈l
 | [],t=>by simp [nI]
 |a::r,t=>by
  rw [nI];split
  · rename_i h
    rw [A5];have:=ox.1 h;constructor
    · exact fun h=>by simp [h]
    intro h
    rcases adD.1 h with h|h
    · subst h;exact this
    exact h
  simp [A5]
theorem rM: ∀{l:List Nat},(nI l).Nodup
 | []=>by simp [nI]
 |a::r=>by
  rw [nI];split
  · exact rM
  rename_i h
  rw [List.nodup_cons];exact ⟨fun hm=>h (ox.2 (A5.1 hm)),rM⟩
theorem Dm: ∀{a b:bS},tL a b=aeU-> ∀(i:Nat) (x:jc),a[i]? =aeS x-> ∃y,b[i]? =aeS y/\x.bA=y.bA
 | [],_,_,i,x,h=>by simp at h
 |c::r,d::q,hf,i,x,h=>by
  simp only [tL,v6] at hf;cases i with
  |zero=>simp at h;subst h;refine ⟨d,rfl,?_⟩;have:=hf.1;split at this<;>first|(rename_i h1 h2;rw [h1,h2])|cases this
  |succ i=>simpa using Dm hf.2 i x (by simpa using h)
 |_::_,[],hf,_,_,_=>by cases hf
theorem Dn {g:Nat->Nat}: ∀{tk:List Nat} {s:bS} {t:Nat} {k:jc},(t,k)∈nK g tk s↔ ∃(i:Nat) (b:jc),tk[i]? =aeS t/\s[i]? =aeS b/\k=xW g b
 | [],s,t,k=>by simp [nK]
 |a::r,[],t,k=>by simp [nK]
 |a::r,b::s,t,k=>by
  simp only [nK,adD,IR,Dn];constructor
  · rintro (⟨rfl,rfl⟩|⟨i,c,h1,h2,h3⟩)
    · exact ⟨0,b,rfl,rfl,rfl⟩
    exact ⟨i+1,c,by simpa using h1,by simpa using h2,h3⟩
  rintro ⟨i,c,h1,h2,h3⟩
  cases i with
  |zero=>simp at h1 h2;subst h1;subst h2;exact .inl ⟨rfl,h3⟩
  |succ i=>exact .inr ⟨i,c,by simpa using h1,by simpa using h2,h3⟩
theorem FB {g:Nat->Nat}: ∀(s:bS) (i:Nat),(zw g s)[i]? =(s[i]?).map (xW g)
 | [],i=>by simp [zw]
 |b::r,0=>by simp [zw]
 |b::r,i+1=>by simpa [zw] using FB r i
theorem zI {g:Nat->Nat}: ∀(s:bS),(zw g s).length=aeR s
 | []=>rfl
 |b::r=>by simp [zw,zI r]
section
variable {P : Program} {F : jM} {rec : Task -> Option Out} {im : Im} {loc : Loc} {az : bS} {w : World} {tk : List Nat} {g : Nat -> Nat} {l1 l2 : Loc}
mutual
theorem VR.ya: ∀{x:PV} {v:Value},VR im l1 x v->(∀u,u∈iu rh x-> ∀li,l1 u=aeS li->l2 (g u)=aeS li)->VR im l2 (AS g x) v
 |_,_,.undef v,_=> .undef v
 |_,_,.iI,_=> .iI
 |_,_,.int k n,_=> .int k n
 |_,_,.bool b,_=> .bool b
 |_,_,.str s,_=> .str s
 |_,_,.agg cs vs h,hg=> .agg _ vs (eo.ya h (fun u hu=>hg u (by simpa [iu] using hu)))
 |_,_,.bT cs vs h,hg=> .bT _ vs (eo.ya h (fun u hu=>hg u (by simpa [iu] using hu)))
 |_,_,.sl esz pD rows a cap hc hk h,_=> .sl esz pD rows a cap hc hk h
 |_,_,.own t esz off len cap ex li a cw h1 h2 h3 h4 h5 h6 h7,hg=> .own _ esz off len cap ex li a cw (hg _ (by simp [iu]) _ h1) h2 h3 h4 h5 h6 h7
 |_,_,.ptr t esz row off li h1 h2 h3,hg=> .ptr _ esz row off li (hg _ (by simp [iu]) _ h1) h2 h3
 |_,_,.bw cs off b o vs h hv,hg=> .bw _ off b o vs (eo.ya h (fun u hu=>hg u (by simpa [iu] using hu))) hv
 |_,_,.mp t li h,hg=> .mp _ li (hg _ (by simp [iu]) _ h)
 |_,_,.ed fn a b as bs ha hb,hg=> .ed fn _ _ as bs (eo.ya ha (fun u hu=>hg u (by simp [iu,hu]))) (eo.ya hb (fun u hu=>hg u (by simp [iu,hu])))
 |_,_,.dv,_=> .dv
theorem eo.ya: ∀{x:List PV} {v:List Value},eo im l1 x v->(∀u,u∈cQ rh x-> ∀li,l1 u=aeS li->l2 (g u)=aeS li)->eo im l2 (u5 g x) v
 |_,_,.nil,_=> .nil
 |_,_,.cons x v xs vs h hs,hg=> .cons _ v _ vs (VR.ya h (fun u hu=>hg u (by simp [cQ,hu]))) (eo.ya hs (fun u hu=>hg u (by simp [cQ,hu])))
end
theorem VR.AS {x:PV} {v:Value} (hg: ∀u,u∈iu rh x-> ∀li,l1 u=aeS li->l2 (g u)=aeS li) (h:VR im l1 x v):VR im l2 (Vm.AS g x) v:=h.ya hg
theorem eo.AS {x:List PV} {v:List Value} (hg: ∀u,u∈cQ rh x-> ∀li,l1 u=aeS li->l2 (g u)=aeS li) (h:eo im l1 x v):eo im l2 (u5 g x) v:=h.ya hg
theorem zJ: ∀(x:List PV),(u5 g x).length=aeR x
 | []=>rfl
 |x::xs=>by simp [u5,zJ xs]
theorem BR.AS {li:LI} {k:jc} (hg: ∀u,u∈pU k-> ∀li,l1 u=aeS li->l2 (g u)=aeS li) (h:BR im l1 w li k):BR im l2 w li (xW g k):=by
 cases k with
 |arr e rows=>exact h
 |box cs=>obtain ⟨a1,a2,a3,vs,el,a4,a5,a6⟩:=h;exact ⟨by rw [zJ];exact a1,a2,a3,vs,el,a4,a5,a6.AS hg⟩
 |map es=>exact h
 |dead=>trivial
theorem vZ (k:jc):(xW g k).bA=k.bA:=by cases k<;>rfl
theorem KA (tT:A4 P rec) {f:FuncId} {args:List PV} {fz:List Nat} {r:mC} {us:List Value}
 (h:su rec f args az fz=aeS r) (ha:eo im loc args us) (hk:iG im loc az w r):
 sA P f ⟨us⟩ w fun u w'=> ∃dK ba,VR dK ba r.v u/\rD im loc az w r dK ba w':=by
 unfold su at h;have E7:(nI (cQ (cD az deep) args)).Nodup:=rM;generalize zp:nI (cQ (cD az deep) args)=tk at h E7;split at h
 · cases h
 rename_i a s0 Dp;unfold SD at Dp;split at Dp
 case isFalse=>cases Dp
 rename_i aim;simp only [ad7,UV] at aim;split at Dp
 case h_2=>cases Dp
 rename_i a' s0' hra SM;simp only [ww,IR] at Dp;obtain ⟨rfl,rfl⟩:=Dp;split at h
 case h_2=>cases h
 rename_i v s hr;unfold C8 at h;split at h
 case isFalse=>cases h
 rename_i PA;injection h with h;obtain ⟨HM,Cq⟩:=AU SM;have hf0:=Dm PA;have jZ:(aeR tk)<=(aeR s):=by
  rcases Nat.eq_zero_or_pos (aeR tk) with h0|h0
  · omega
  obtain ⟨y,hy,_⟩:=hf0 (aeR tk-1) (s0'[aeR tk-1]'(by omega)) (ut _)
  have:=fM hy;omega
 let KB:Loc:=fun u=>match tk[u]? with|some t=>loc t|none=>aeT
 have Dq:Ren tk loc KB:=fun u t hu=>by simp only [KB,hu]
 have hC: ∀u li,KB u=aeS li-> ∃t,tk[u]? =aeS t/\loc t=aeS li:=by
  intro u li hl;simp only [KB] at hl;split at hl
  · rename_i t ht;exact ⟨t,ht,hl⟩
  cases hl
 have PB: ∀t k,(t,k)∈r.wr↔ ∃(i:Nat) (b:jc),tk[i]? =aeS t/\s[i]? =aeS b/\k=xW (ji tk (aeR az)) b:=fun t k=>by rw [<- h];exact Dn
 have Yp: ∀u t,tk[u]? =aeS t->(t∈r.rd\/ ∃b,(t,b)∈r.wr):=fun u t ht=>by have:=fM ht;exact .inr ⟨_,(PB t _).2 ⟨u,_,ht,ut (by omega),rfl⟩⟩
 have yB: ∀(u t:Nat) (k:jc),tk[u]? =aeS t->s0'[u]? =aeS k-> ∃k0:jc,az[t]? =aeS k0/\k.bA=k0.bA:=fun u t k ht hs=>by obtain ⟨k0,k',g1,g2,g3⟩:=Cq u t ht;rw [hs] at g3;injection g3 with g3;subst g3;exact ⟨k0,g1,zz g2⟩
 have hSR:SR im KB s0' [] w:={
  bu:=hk.bu
  cX:=fun u li hl=>by obtain ⟨t,h1,h2⟩:=hC u li hl;obtain ⟨k,gR,rj⟩:=hk.tok t (Yp u t h1) li h2;obtain ⟨k0,k',g1,g2,g3⟩:=Cq u t h1;rw [gR] at g1;injection g1 with g1;subst g1;exact ⟨k',g3,Fv Dq g2 rj⟩
  gQ:=fun t u li lj k k' hl jU hs s6 Cr aio hb=>by
   obtain ⟨a1,h1,h2⟩:=hC t li hl;obtain ⟨a2,h3,h4⟩:=hC u lj jU;obtain ⟨k0,g1,g2⟩:=yB t a1 k h1 hs;obtain ⟨k0',g1',Xq⟩:=yB u a2 k' h3 s6;have:=hk.gQ a1 a2 li lj k0 k0' (Yp t a1 h1) (Yp u a2 h3) h2 h4 g1 g1' (by rw [<- g2];exact Cr) (by rw [<- Xq];exact aio) hb;subst this;have pw:=ae6.1 E7;obtain ⟨l1,e1⟩:=EQ.1 h1;obtain ⟨l2,e2⟩:=EQ.1 h3;rcases ac6 t u with h|h|h
   · exact absurd (e1.trans e2.symm) (pw t u l1 l2 h)
   · exact h
   exact absurd (e2.trans e1.symm) (pw u t l2 l1 h)
  free:=fun t li k hl hs Cr _=>by obtain ⟨a1,h1,h2⟩:=hC t li hl;obtain ⟨k0,g1,g2⟩:=yB t a1 k h1 hs;have cY:=fM h1;exact hk.free a1 _ ((PB a1 _).2 ⟨t,_,h1,ut (by omega),rfl⟩) li k0 h2 g1 (by rw [<- g2];exact Cr)}
 refine (tT f a' s0' [] v s [] hr im KB w us hSR (rC Dq ha hra)).mono fun u w' ⟨dK,Ip,hf⟩=>?_
 let ba:Loc:=fun t=>match loc t with
  |some li=>aeS li
  |none=>if (aeR az)<=t/\t-(aeR az)<(aeR r.news) then Ip (t-(aeR az)+aeR tk) else aeT
 have aeL:kT loc ba:=fun t li hl=>by simp only [ba,hl]
 have Fc:(gA (aeR tk) v s=aeU/\r.news=[])\/(gA (aeR tk) v s=aeV/\r.news=zw (ji tk (aeR az)) (s.drop (aeR tk))):=by
  rw [<- h];cases NA:gA (aeR tk) v s with
  |true=>exact .inl ⟨rfl,by simp⟩
  |false=>exact .inr ⟨rfl,by simp⟩
 have aeM:gA (aeR tk) v s=aeV->aeR r.news=aeR s-(aeR tk):=fun h1=>by
  rcases Fc with ⟨h2,_⟩|⟨_,h2⟩
  · rw [h1] at h2;cases h2
  rw [h2];simp [zI]
 have aip: ∀u li,Ip u=aeS li->u<(aeR s):=fun u li hl=>let ⟨k,gR,_⟩:=hf.sr.cX u li hl;fM gR
 have PC: ∀j li,ba (aeR az+j)=aeS li->j<aeR r.news->Ip (aeR tk+j)=aeS li:=fun j li hl hj=>by simp only [ba,hk.fresh j hj] at hl;rw [rc ⟨by omega,by omega⟩] at hl;rw [show (aeR az)+j-(aeR az)+aeR tk=aeR tk+j by omega] at hl;exact hl
 have hg: ∀u,(u<aeR tk\/gA (aeR tk) v s=aeV)-> ∀li,Ip u=aeS li->ba (ji tk (aeR az) u)=aeS li:=by
  intro u S1 li hl;unfold ji;split
  · rename_i t ht
    rcases hf.lH u li hl with h1|h1
    · obtain ⟨t',h2,h3⟩:=hC u li h1
      rw [ht] at h2;injection h2 with h2;subst h2;exact aeL _ _ h3
    have:=fM ht;omega
  rename_i hn
  have hu:(aeR tk)<=u:=by simpa using hn
  rcases S1 with S1|S1
  · omega
  have cY:=aip u li hl;have Fc:=aeM S1;simp only [ba,hk.fresh (u-(aeR tk)) (by omega)];rw [rc ⟨by omega,by omega⟩,show (aeR az)+(u-(aeR tk)) -(aeR az)+aeR tk=u by omega];exact hl
 have NA: ∀u,gA (aeR tk) v s=aeU->(u∈iu rh v\/ ∃i b,i<aeR tk/\s[i]? =aeS b/\u∈pU b)->u<(aeR tk):=fun u h1 h2=>by
  unfold gA at h1;have h3:=ad7.1 h1 u (by
   rcases h2 with h2|⟨i,b,g1,g2,g3⟩
   · simp [h2]
   refine ad6.2 (.inr (List.mem_flatMap.2 ⟨b,?_,g3⟩))
   exact List.mem_of_getElem? (i:=i) (by rw [List.getElem?_take];simp [g1,g2]))
  simpa using h3
 have hgv: ∀u,u∈iu rh v-> ∀li,Ip u=aeS li->ba (ji tk (aeR az) u)=aeS li:=fun u hu=>hg u (by
  cases hq:gA (aeR tk) v s with
  |true=>exact .inl (NA u hq (.inl hu))
  |false=>exact .inr rfl)
 have hgb: ∀i b,i<aeR tk->s[i]? =aeS b-> ∀u,u∈pU b-> ∀li,Ip u=aeS li->ba (ji tk (aeR az) u)=aeS li:=fun i b hi hb u hu=>hg u (by
  cases hq:gA (aeR tk) v s with
  |true=>exact .inl (NA u hq (.inr ⟨i,b,hi,hb,hu⟩))
  |false=>exact .inr rfl)
 have hMC: ∀u t li,tk[u]? =aeS t->loc t=aeS li->Ip u=aeS li:=fun u t li ht hl=>hf.dp u li (by simp only [KB,ht];exact hl)
 refine ⟨dK,ba,by rw [<- h];exact hf.vr.AS hgv,?_⟩;have PD: ∀(j:Nat) (k:jc),r.news[j]? =aeS k-> ∃b,s[aeR tk+j]? =aeS b/\k=xW (ji tk (aeR az)) b:=fun j k hj=>by
  rcases Fc with ⟨_,h0⟩|⟨_,h0⟩
  · rw [h0] at hj;simp at hj
  rw [h0] at hj;simp only [FB,List.getElem?_drop,Do] at hj;obtain ⟨b,h1,h2⟩:=hj;exact ⟨b,h1,h2.symm⟩
 have S2: ∀t li,Ip t=aeS li->aeR tk<=t-> ∀k,s[t]? =aeS k->k.bA=aeU->w.heap.size<=li.cX:=by
  intro t li hl ht k hs Cr;rcases hf.own t li k hl hs Cr with h1|⟨u,lu,ku,h1,h2,h3,h4⟩
  · exact h1
  exfalso
  obtain ⟨a1,g1,g2⟩:=hC u lu h1;obtain ⟨y,y1,y2⟩:=hf0 u ku h2;have:=hf.sr.gQ u t lu li y k (hMC u a1 lu g1 g2) hl y1 hs (by rw [<- y2];exact h3) Cr h4;subst this;have:=fM g1;omega
 exact {
  fD:=hf.fD,dp:=aeL
  bu:=hf.sr.bu
  dy:=fun b o hb=>by
   rcases hf.dy b o hb with h1|h1|⟨t,li,k,h1,h2,h3,h4⟩
   · exact .inl h1
   · exact .inr (.inl h1)
   exfalso
   obtain ⟨a1,g1,g2⟩:=hC t li h1;obtain ⟨y,y1,y2⟩:=hf0 t k h2;have:=hf.sr.free t li y (hMC t a1 li g1 g2) y1 (by rw [<- y2];exact h3) rfl;rw [h4,hb] at this;cases this
  os:=hf.os,tape:=hf.tape,output:=hf.output,size:=hf.size
  frame:=fun b hb hh=>hf.frame b hb fun t li k hl hs Cr=>by obtain ⟨a1,g1,g2⟩:=hC t li hl;obtain ⟨k0,e1,e2⟩:=yB t a1 k g1 hs;have cY:=fM g1;exact hh a1 _ li k0 ((PB a1 _).2 ⟨t,_,g1,ut (by omega),rfl⟩) g2 e1 (by rw [<- e2];exact Cr)
  No:=fun t k hm Cr=>by obtain ⟨i,b,g1,g2,rfl⟩:=(PB t k).1 hm;rw [vZ] at Cr;have cY:=fM g1;have e:=ut (l:=s0') (i:=i) (by omega);obtain ⟨y,y1,y2⟩:=hf0 i _ e;rw [g2] at y1;injection y1 with y1;subst y1;obtain ⟨k0,e1,e2⟩:=yB i t _ g1 e;exact ⟨k0,e1,by rw [<- e2,y2];exact Cr⟩
  wr:=fun t k li hm hl=>by obtain ⟨i,b,g1,g2,rfl⟩:=(PB t k).1 hm;obtain ⟨k',gR,rj⟩:=hf.sr.cX i li (hMC i t li g1 hl);rw [g2] at gR;injection gR with gR;subst gR;exact rj.AS (hgb i b (fM g1) g2)
  jO:=fun t li hl=>by
   simp only [ba] at hl;cases HM:loc t with
   |some lj=>rw [HM] at hl;exact .inl hl
   |none=>
    rw [HM] at hl;dsimp only at hl;split at hl
    · rename_i hn
      exact .inr ⟨hn.1,by omega⟩
    cases hl
  news:=fun j k li hj hl=>by
   have Kr:j<(aeR r.news):=fM hj;obtain ⟨b,hb,rfl⟩:=PD j k hj;have HM:=PC j li hl Kr;obtain ⟨k',gR,rj⟩:=hf.sr.cX _ li HM;rw [hb] at gR;injection gR with gR;subst gR;have hq:gA (aeR tk) v s=aeV:=by
    rcases Fc with ⟨_,h0⟩|⟨h0,_⟩
    · rw [h0] at Kr;simp at Kr
    exact h0
   refine ⟨rj.AS (fun u _=>hg u (.inr hq)),fun Cr=>?_⟩;rw [vZ] at Cr;exact ⟨hf.sr.free _ li b HM hb Cr rfl,.inl (S2 _ li HM (by omega) b hb Cr)⟩
  distinct:=fun i j ki kj li lj hi hj S0 NI hli hlj hb=>by obtain ⟨b1,e1,rfl⟩:=PD i ki hi;obtain ⟨b2,e2,rfl⟩:=PD j kj hj;rw [vZ] at S0 NI;have h1:=PC i li hli (fM hi);have h2:=PC j lj hlj (fM hj);have:=hf.sr.gQ _ _ li lj b1 b2 h1 h2 e1 e2 S0 NI hb;omega}
end
end Go.Vm
/- A region's run in the order of the text, step by step; what a block holds when aeS of its operations are done. -/
namespace Go.Vm
structure v7 (F:jM) (rec:Task->Option Out) (ops:List bD) (S:Nat->St) (X:Nat->Option XR):Prop where
 steps: ∀(i:Nat) (o:bD),ops[i]? =aeS o->
  (wanted o.guard (S i).env=aeS aeU/\ ∃x,u6 F rec (S i).env (S i).az (S i).fz o.op=aeS x/\x.ok (S i).fz=aeU/\X i=aeS x/\S (i+1)=x.next o.dst (S i))\/
  (wanted o.guard (S i).env=aeS aeV/\X i=aeT/\S (i+1)={S i with env:=gW o.dst .iI (S i).env})
def xT (x:Option XR) (s:St):Tr:=
 match x with
 |some x=>x.tr (aeR s.az)
 |none=>Tr.idle
def yb (S:Nat->St) (X:Nat->Option XR) (n:Nat):List Tr:=(List.range n).map fun i=>xT (X i) (S i)
theorem KC (S:Nat->St) (X:Nat->Option XR) (n:Nat):yb S X (n+1)=xT (X 0) (S 0)::yb (fun i=>S (i+1)) (fun i=>X (i+1)) n:=by unfold yb;rw [List.range_succ_eq_map];simp [List.map_map,Function.comp_def]
theorem A6 {F:jM} {rec:Task->Option Out}: ∀(ops:List bD) (st:St) (tr:List Tr) (jE:St) (NJ:List Tr),k7 F rec ops st tr=aeS (jE,NJ)->
 ∃S X,S 0=st/\S (aeR ops)=jE/\v7 F rec ops S X/\NJ=(yb S X (aeR ops)).reverse++tr
 | [],st,tr,jE,NJ,h=>by simp only [k7,ww,IR] at h;obtain ⟨rfl,rfl⟩:=h;exact ⟨fun _=>st,fun _=>aeT,rfl,rfl,⟨fun i o h=>by simp at h⟩,by simp [yb]⟩
 |o::l,st,tr,jE,NJ,h=>by
  simp only [k7] at h;have mk: ∀(s1:St) (x:Option XR) (t1:Tr),xT x st=t1->k7 F rec l s1 (t1::tr)=aeS (jE,NJ)->
   ((wanted o.guard st.env=aeS aeU/\ ∃y,u6 F rec st.env st.az st.fz o.op=aeS y/\y.ok st.fz=aeU/\x=aeS y/\s1=y.next o.dst st)\/
    (wanted o.guard st.env=aeS aeV/\x=aeT/\s1={st with env:=gW o.dst .iI st.env}))->
   ∃S X,S 0=st/\S (o::l).length=jE/\v7 F rec (o::l) S X/\NJ=(yb S X (o::l).length).reverse++tr:=by
   intro s1 x t1 ht he hs;obtain ⟨S,X,h0,hn,bG,htr⟩:=A6 l s1 (t1::tr) jE NJ he;refine ⟨fun i=>match i with|0=>st|i+1=>S i,fun i=>match i with|0=>x|i+1=>X i,rfl,hn,⟨fun i o' ho=>?_⟩,?_⟩
   · cases i with
     |zero=>
      simp at ho;subst ho;rcases hs with ⟨a,y,b,c,d,e⟩|⟨a,b,c⟩
      · exact .inl ⟨a,y,b,c,d,by rw [<- e];exact h0⟩
      exact .inr ⟨a,b,by rw [<- c];exact h0⟩
     |succ i=>exact bG.steps i o' (by simpa using ho)
   rw [List.length_cons,KC,htr]
   simp [ht]
  cases hw:wanted o.guard st.env with
  |none=>rw [hw] at h;cases h
  |some b=>
   rw [hw] at h;cases b with
   |false=>exact mk _ aeT _ rfl h (.inr ⟨hw,rfl,rfl⟩)
   |true=>
    dsimp only at h;cases hx:u6 F rec st.env st.az st.fz o.op with
    |none=>rw [hx] at h;cases h
    |some x=>
     rw [hx] at h;dsimp only at h;split at h
     · rename_i yw
       exact mk _ (aeS x) _ rfl h (.inl ⟨hw,x,hx,yw,rfl,rfl⟩)
     cases h
theorem eS: ∀(wr:List (Nat×jc)) (s:bS),(fv wr s).length=aeR s
 | [],s=>rfl
 |(t,b)::r,s=>by rw [fv,eS r];simp
theorem sB: ∀(wr:List (Nat×jc)) (s:bS) (t:Nat),(∀k,(t,k)∉wr)->(fv wr s)[t]? =s[t]?
 | [],s,t,_=>rfl
 |(u,b)::r,s,t,h=>by
  rw [fv,sB r _ t (fun k hk=>h k (by simp [hk]))];have:u≠t:=fun e=>h b (by rw [e];simp)
  rw [aeg this]
theorem Dr: ∀(wr:List (Nat×jc)) (s:bS),tM wr=aeU-> ∀{t:Nat} {k:jc},(t,k)∈wr->t<aeR s->(fv wr s)[t]? =aeS k
 |(u,b)::r,s,hn,t,k,hm,cY=>by
  simp only [tM,v6,ad7,UV] at hn;rw [fv];rcases adD.1 hm with h|h
  · injection h with h1 h2
    subst h1 h2;rw [sB r _ t fun k' hk=>by simpa using hn.1 (t,k') hk];simp [cY]
  exact Dr r _ hn.2 h (by simpa using cY)
section
variable {F : jM} {rec : Task -> Option Out} {ops : List bD} {S : Nat -> St} {X : Nat -> Option XR}
def W (X:Nat->Option XR) (i t:Nat):Prop:=
 match X i with
 |some (.loc r)=> ∃k,(t,k)∈r.wr
 |some (.shr ..)=>True
 |none=>False
def FR (X:Nat->Option XR) (i t:Nat):Prop:=
 match X i with
 |some (.loc r)=>t∈r.fr
 |some (.shr _ _ z)=>t∈z
 |none=>False
def zK (S:Nat->St) (X:Nat->Option XR) (n:Nat) (done:Nat->Prop) (t:Nat) (k:jc):Prop:=
 ∃m,m<=n/\(∀i,i<n->W X i t->(done i↔i<m))/\(∀c,c<n->(S c).az.length<=t->t<(S (c+1)).az.length->c<m)/\(S m).az[t]? =aeS k
theorem Mf {e:Env} {az:bS} {fz:List Nat} {op:jL} {v:PV} {s:bS} {z:List Nat} (h:u6 F rec e az fz op=aeS (.shr v s z)):(aeR az)<=aeR s/\ ∀t,t∈fz->t∈z:=by
 have key: ∀{f:FuncId} {args:List PV},ff rec f args az fz=aeS (.shr v s z)->aeR az<=aeR s/\ ∀t,t∈fz->t∈z:=by
  intro f args h;unfold ff at h;split at h
  · split at h
    · rename_i hc
      simp only [v6,adY,ad7] at hc;simp only [ww,XR.shr.injEq] at h;obtain ⟨rfl,rfl,rfl⟩:=h;exact ⟨hc.1,fun t ht=>ox.1 (hc.2 t ht)⟩
    cases h
  cases h
 cases op with
 |call m f args=>
  cases m with
  |Sq=>simp [u6] at h
  |own=>simp [u6] at h
  |shr=>exact key h
  |fp=>simp [u6] at h
 |u4 x args=>
  simp only [u6] at h;split at h
  · split at h
    · exact key h
    simp at h
  cases h
 |_=>simp [u6] at h
theorem v7.Yq (hr:v7 F rec ops S X) {i:Nat} (hi:i<aeR ops):(S i).az.length<=(S (i+1)).az.length:=by
 rcases hr.steps i _ (ut hi) with ⟨_,x,hx,_,_,hn⟩|⟨_,_,hn⟩
 · rw [hn]
   cases x with
   |loc r=>simp [XR.next,pX,eS]
   |shr v s z=>exact (Mf hx).1
 rw [hn];exact If _
theorem v7.gC (hr : v7 F rec ops S X) {i j : Nat} (kH : i <= j) (hj : j <= (aeR ops)) : (S i).az.length <= (S j).az.length := by
  induction j with
  | zero => have : i = 0 := by omega
            subst this; exact If _
  | succ j ih =>
    rcases ad8 kH with h | h
    · subst h; exact If _
    exact ad0 (ih (by omega) (by omega)) (hr.Yq (by omega))
theorem v7.same (hr:v7 F rec ops S X) {i t:Nat} (hi:i<aeR ops) (hw: ¬W X i t) (ht:t<(S i).az.length):(S (i+1)).az[t]? =(S i).az[t]?:=by
 rcases hr.steps i _ (ut hi) with ⟨_,x,hx,_,hX,hn⟩|⟨_,_,hn⟩
 · rw [hn]
   cases x with
   |loc r=>simp only [XR.next,pX];rw [M2 (by rw [eS];exact ht)];exact sB _ _ _ fun k hk=>hw (by unfold W;rw [hX];exact ⟨k,hk⟩)
   |shr v s z=>exact absurd (by unfold W;rw [hX];trivial) hw
 rw [hn]
theorem v7.xj (hr : v7 F rec ops S X) {m m' t : Nat} (hm : m <= m') (zq : m' <= (aeR ops)) (hw : ∀ i, m <= i -> i < m' -> ¬ W X i t) (ht : t < (S m).az.length) : (S m').az[t]? = (S m).az[t]? := by
  induction m' with
  | zero => have : m = 0 := by omega
            subst this; rfl
  | succ j ih =>
    rcases ad8 hm with h | h
    · subst h; rfl
    rw [hr.same (by omega) (hw j (by omega) (by omega)) (adz ht (hr.gC (by omega) (by omega)))]
    exact ih (by omega) (by omega) fun i h1 h2 => hw i h1 (by omega)
theorem bY {α:Type} {l:List α} {i:Nat} {x:α} (h:l[i]? =aeS x):i<(aeR l):=(EQ.1 h).1
theorem zK.unique (hr:v7 F rec ops S X) {done:Nat->Prop} {t:Nat} {k k':jc} (h:zK S X (aeR ops) done t k) (h':zK S X (aeR ops) done t k'):k=k':=by
 obtain ⟨m,hm,hw,hc,hs⟩:=h;obtain ⟨m',zq,Sy,zD,s6⟩:=h';rcases aeA m m' with h|h
 · have:=hr.xj h zq (fun i h1 h2 hW=>by
    have a:=hw i (by omega) hW;have b:=Sy i (by omega) hW;have:=a.1 (b.2 h2);omega) (bY hs)
   rw [hs,s6] at this;exact (aed this).symm
 have:=hr.xj h hm (fun i h1 h2 hW=>by
  have a:=hw i (by omega) hW;have b:=Sy i (by omega) hW;have:=b.1 (a.2 h2);omega) (bY s6)
 rw [hs,s6] at this;exact aed this
theorem v7.PE (hr:v7 F rec ops S X) {i t:Nat} (hi:i<aeR ops) (hd:(ops[i]).dst≠aeS t):lk t (S (i+1)).env=lk t (S i).env:=by
 have key: ∀(d:Option Nat) (v:PV) (e:Env),d≠aeS t->lk t (gW d v e)=lk t e:=by
  intro d v e h;cases d with
  |none=>rfl
  |some s=>simp only [gW];rw [pZ,sp (fun e=>h (by rw [e]))]
 rcases hr.steps i _ (ut hi) with ⟨_,x,hx,_,hX,hn⟩|⟨_,_,hn⟩
 · rw [hn]
   cases x with
   |loc r=>exact key _ _ _ hd
   |shr v s z=>exact key _ _ _ hd
 rw [hn];exact key _ _ _ hd
theorem v7.KD (hr : v7 F rec ops S X) {m m' t : Nat} (hm : m <= m') (zq : m' <= (aeR ops)) (hd : ∀ i (hi : i < (aeR ops)), m <= i -> i < m' -> (ops[i]).dst ≠ aeS t) : lk t (S m').env = lk t (S m).env := by
  induction m' with
  | zero => have : m = 0 := by omega
            subst this; rfl
  | succ j ih =>
    rcases ad8 hm with h | h
    · subst h; rfl
    rw [hr.PE (by omega) (hd j (by omega) (by omega) (by omega))]
    exact ih (by omega) (by omega) fun i hi h1 h2 => hd i hi h1 (by omega)
end
end Go.Vm
/- A region: what holds while aeS of its operations are done, and that one more keeps it. -/
namespace Go.Vm
def aq (x:bD):List Nat:=(x.op.eB.filterMap fun| .t n=>aeS n| .c _=>aeT)++(match x.guard with|some (s,_)=>[s]|none=>[])
def s9 (ops:Array Oper):Option (Nat×Bool)->Option (Nat×Bool)->Bool
 |none,aeT=>aeU
 |some (s,b),aeS (j,c)=>b==c&&((ops[j]?).bind (·.dst))==aeS s
 |_,_=>aeV
def p5 (P:Program) (prims:FuncId->Bool) (nt:Nat) (ops:Array Oper) (x:bD) (o:Oper):Bool:=
 x.dst==o.dst&&(match x.dst with|some d=>adG d nt|none=>aeU)&&s9 ops x.guard o.guard&&u9 P prims o.type x.op o.op
def pR (X:Nat->Option XR) (i:Nat):Prop:= ∃v s z,X i=aeS (.shr v s z)
def fY (X:Nat->Option XR) (i:Nat):Prop:=
 match X i with
 |some (.loc r)=>r.rd≠[]\/r.fr≠[]\/r.wr≠[]\/r.news≠[]
 |some (.shr ..)=>True
 |none=>False
def A (X:Nat->Option XR) (i t:Nat):Prop:=
 match X i with
 |some (.loc r)=>t∈r.rd\/t∈r.fr
 |_=>False
structure Ord (ops:List bD) (S:Nat->St) (X:Nat->Option XR) (vv:Nat->Nat->Prop):Prop where
 Ds: ∀(i j t:Nat) (x y:bD),i<j->ops[i]? =aeS x->ops[j]? =aeS y->x.dst=aeS t->(t∈aq y\/y.dst=aeS t)->vv i j
 PF: ∀(i j t:Nat) (x y:bD),i<j->ops[i]? =aeS x->ops[j]? =aeS y->y.dst=aeS t->t∈aq x->vv i j
 KE: ∀i j t,i<j->j<aeR ops->W X i t->(A X j t\/W X j t)->vv i j
 Yr: ∀i j t,i<j->j<aeR ops->A X i t->W X j t->vv i j
 Ys: ∀i j t,i<j->j<aeR ops-> ¬pR X i->(S i).az.length<=t->t<(S (i+1)).az.length-> ¬pR X j->W X j t->vv i j
 HV: ∀i j,i<j->j<aeR ops->(pR X i/\fY X j\/fY X i/\pR X j)->vv i j
 cl: ∀i t,i<aeR ops-> ¬pR X i->(A X i t\/W X i t)->t<(S i).az.length\/ ∀c,i<c->c<aeR ops->vv i c
structure Inv (ops:List bD) (S:Nat->St) (X:Nat->Option XR) (im0:Im) (loc0:Loc) (w0:World) (nt:Nat) (done:Nat->Prop) (im:Im) (loc:Loc) (a:Act) (w:World):Prop where
 tm: ∀t,∃m,m<=aeR ops/\(∀i x,ops[i]? =aeS x->x.dst=aeS t->(done i↔i<m))/\VR im loc (lk t (S m).env) (a.tmps.getD t Go.undef)
 bu: ∀b o,im b=aeS o->w.heap[b]? =aeS o
 tok: ∀t li,loc t=aeS li-> ∃k,zK S X (aeR ops) done t k/\BR im loc w li k
 gQ: ∀t u li lj k k',loc t=aeS li->loc u=aeS lj->zK S X (aeR ops) done t k->zK S X (aeR ops) done u k'->k.bA=aeU->k'.bA=aeU->li.cX=lj.cX->t=u
 free: ∀t li k,loc t=aeS li->zK S X (aeR ops) done t k->k.bA=aeU->t∉(S 0).fz->(∀i,i<aeR ops->done i-> ¬FR X i t)->im li.cX=aeT
 fresh: ∀i,i<aeR ops-> ¬done i-> ∀t,(S i).az.length<=t->t<(S (i+1)).az.length->loc t=aeT
 fD:mF im0 im
 dp:kT loc0 loc
 os:w.os=w0.os
 tape:Tape w0 w
 output:w.output=w0.output
 size:w0.heap.size<=w.heap.size
 frame: ∀b,b<w0.heap.size->(∀t li k,loc0 t=aeS li->(S 0).az[t]? =aeS k->k.bA=aeU->li.cX≠b)->w.heap[b]? =w0.heap[b]?
 dy: ∀b o,im b=aeS o->im0 b=aeS o\/w0.heap.size<=b\/ ∃t li k,loc0 t=aeS li/\(S 0).az[t]? =aeS k/\k.bA=aeU/\li.cX=b
 lH: ∀t li,loc t=aeS li->loc0 t=aeS li\/(S 0).az.length<=t
 own: ∀t li k,loc t=aeS li->zK S X (aeR ops) done t k->k.bA=aeU->(w0.heap.size<=li.cX\/ ∃u lu ku,loc0 u=aeS lu/\(S 0).az[u]? =aeS ku/\ku.bA=aeU/\lu.cX=li.cX)
 defers:a.defers=[]
 Kj:a.tmps.size=nt
def plus (done:Nat->Prop) (i:Nat):Nat->Prop:=fun j=>done j\/j=i
section
variable {F : jM} {rec : Task -> Option Out} {ops : List bD} {S : Nat -> St} {X : Nat -> Option XR} {vv : Nat -> Nat -> Prop} {im0 : Im} {loc0 : Loc} {w0 : World} {nt : Nat}
  {done : Nat -> Prop} {im : Im} {loc : Loc} {a : Act} {w : World} {i : Nat}
structure Place (ops:List bD) (vv:Nat->Nat->Prop) (done:Nat->Prop) (i:Nat):Prop where
 lt:i<aeR ops
 nd: ¬done i
 pre: ∀j,j<aeR ops->vv j i->done j
 ed: ∀k,k<aeR ops->done k-> ∀j,j<aeR ops->vv j k->done j
theorem Place.later (hp:Place ops vv done i) {k:Nat} (hk:k<aeR ops) (h:vv i k): ¬done k:=fun hd=>hp.nd (hp.ed k hk hd i hp.lt h)
theorem Inv.slot (hr:v7 F rec ops S X) (ho:Ord ops S X vv) (hv:Inv ops S X im0 loc0 w0 nt done im loc a w) (hp:Place ops vv done i) {x:bD} (hx:ops[i]? =aeS x) {t:Nat} (ht:t∈aq x):
 VR im loc (lk t (S i).env) (a.tmps.getD t Go.undef):=by
 obtain ⟨m,hm,hd,nE⟩:=hv.tm t;have Yk: ∀j y,ops[j]? =aeS y->y.dst=aeS t->(done j↔j<i):=by
  intro j y hy Mg;rcases ac6 j i with h|h|h
  · exact ⟨fun _=>h,fun _=>hp.pre j (bY hy) (ho.Ds j i t y x h hy hx Mg (.inl ht))⟩
  · subst h;exact ⟨fun hd=>absurd hd hp.nd,fun h=>by omega⟩
  exact ⟨fun Iq=>absurd Iq (hp.later (bY hy) (ho.PF i j t x y h hx hy Mg ht)),fun h'=>by omega⟩
 have same:lk t (S i).env=lk t (S m).env:=by
  rcases aeA m i with h|h
  · refine hr.KD h (adW hp.lt) fun j hj h1 h2 rq=>?_
    have a1:=hd j _ (ut hj) rq;have a2:=Yk j _ (ut hj) rq;have:=a1.1 (a2.2 h2);omega
  refine (hr.KD h hm fun j hj h1 h2 rq=>?_).symm
  have a1:=hd j _ (ut hj) rq;have a2:=Yk j _ (ut hj) rq;have:=a2.1 (a1.2 h2);omega
 rw [same];exact nE
theorem Inv.cur (hr:v7 F rec ops S X) (ho:Ord ops S X vv) (hv:Inv ops S X im0 loc0 w0 nt done im loc a w) (hp:Place ops vv done i) {t:Nat} {li:LI} (hl:loc t=aeS li)
 (ht:(A X i t\/W X i t)) {k:jc} (hc:zK S X (aeR ops) done t k):(S i).az[t]? =aeS k:=by
 obtain ⟨m,hm,hw,hcr,hs⟩:=hc;have bU:t<(S i).az.length:=by
  rcases ad4 t (S i).az.length with h|h
  · exact h
  exfalso
  have hmi:i<m:=by
   rcases ad4 i m with h'|h'
   · exact h'
   have:=hr.gC h' (adW hp.lt);have:=bY hs;omega
  have: ∃c,i<=c/\c<m/\(S c).az.length<=t/\t<(S (c+1)).az.length:=by
   have hex: ∀d,i+d<=m->t<(S (i+d)).az.length-> ∃c,i<=c/\c<i+d/\(S c).az.length<=t/\t<(S (c+1)).az.length:=by
    intro d
    induction d with
    |zero=>intro _ h2;exact absurd h2 (by simpa using h)
    |succ d ih=>
     intro h1 h2;rcases ad4 t (S (i+d)).az.length with h3|h3
     · obtain ⟨c,c1,c2,c3,c4⟩:=ih (by omega) h3
       exact ⟨c,c1,by omega,c3,c4⟩
     exact ⟨i+d,by omega,by omega,h3,h2⟩
   obtain ⟨c,c1,c2,c3,c4⟩:=hex (m-i) (by omega) (by rw [show i+(m-i)=m by omega];exact bY hs);exact ⟨c,c1,by omega,c3,c4⟩
  obtain ⟨c,c1,c2,c3,c4⟩:=this;have Xu:c<(aeR ops):=by omega
  have aiu: ¬done c:=by
   intro hdc;rcases ad8 c1 with e|e
   · subst e;exact hp.nd hdc
   by_cases hsh:pR X i
   · refine hp.later Xu (ho.HV i c e Xu (.inl ⟨hsh,?_⟩)) hdc
     rcases hr.steps c _ (ut Xu) with ⟨_,x,hx,_,hX,hn⟩|⟨_,_,hn⟩
     · unfold fY;rw [hX]
       cases x with
       |loc r=>refine .inr (.inr (.inr fun vV=>?_));rw [hn] at c4;simp [XR.next,pX,eS,vV] at c4;omega
       |shr v s z=>trivial
     rw [hn] at c4;simp at c4;omega
   rcases ho.cl i t hp.lt hsh ht with h'|h'
   · omega
   exact hp.later Xu (h' c e Xu) hdc
  have:=hv.fresh c Xu aiu t c3 c4;rw [hl] at this;cases this
 have Yk: ∀j,j<aeR ops->W X j t->(done j↔j<i):=by
  intro j hj hW;rcases ac6 j i with h|h|h
  · exact ⟨fun _=>h,fun _=>hp.pre j hj (ho.KE j i t h hp.lt hW ht)⟩
  · subst h;exact ⟨fun hd=>absurd hd hp.nd,fun h=>by omega⟩
  refine ⟨fun Iq=>absurd Iq (hp.later hj ?_),fun h'=>by omega⟩
  rcases ht with ht|ht
  · exact ho.Yr i j t h hj ht hW
  exact ho.KE i j t h hj ht (.inr hW)
 rcases aeA m i with h|h
 · rw [hr.xj h (adW hp.lt) (fun j h1 h2 hW=>by
    have a1:=hw j (by have:=hp.lt;omega) hW;have a2:=Yk j (by have:=hp.lt;omega) hW;have:=a1.1 (a2.2 h2);omega) (bY hs)]
   exact hs
 rw [<- hr.xj h hm (fun j h1 h2 hW=>by
  have a1:=hw j (by omega) hW;have a2:=Yk j (by omega) hW;have:=a2.1 (a1.2 h2);omega) bU]
 exact hs
end
end Go.Vm
/- A region: one more operation keeps what holds. -/
namespace Go.Vm
theorem BR.aeN {im dK:Im} {loc ba:Loc} {w w':World} {li:LI} {k:jc} (h:BR im loc w li k) (hi:mF im dK) (hl:kT loc ba)
 (hw:k.bA=aeU->w'.heap[li.cX]? =w.heap[li.cX]?):BR dK ba w' li k:=by
 cases hs:k.bA with
 |true=>exact h.mono hi hl (hw hs)
 |false=>
  cases k with
  |arr e rows=>
   cases rows with
   |nil=>exact ⟨h.1,h.2.1,fun dC=>absurd rfl dC⟩
   |cons _ _=>cases hs
  |box _=>cases hs
  |map _=>cases hs
  |dead=>trivial
section
variable {F : jM} {rec : Task -> Option Out} {ops : List bD} {S : Nat -> St} {X : Nat -> Option XR} {vv : Nat -> Nat -> Prop} {im0 : Im} {loc0 : Loc} {w0 : World} {nt : Nat}
  {done : Nat -> Prop} {im : Im} {loc : Loc} {a : Act} {w : World} {i : Nat}
theorem v7.aeO (hr:v7 F rec ops S X) {j:Nat} (hj:j<aeR ops): ∀t,t∈(S j).fz->t∈(S (j+1)).fz:=by
 intro t ht;rcases hr.steps j _ (ut hj) with ⟨_,x,hx,_,_,hn⟩|⟨_,_,hn⟩
 · rw [hn]
   cases x with
   |loc r=>simp only [XR.next];exact aef _ ht
   |shr v s z=>exact (Mf hx).2 t ht
 rw [hn];exact ht
theorem v7.CK (hr : v7 F rec ops S X) {m m' : Nat} (h : m <= m') (hm : m' <= (aeR ops)) : ∀ t, t ∈ (S m).fz -> t ∈ (S m').fz := by
  induction m' with
  | zero => have : m = 0 := by omega
            subst this; exact fun _ h => h
  | succ j ih =>
    rcases ad8 h with e | e
    · subst e; exact fun _ h => h
    exact fun t ht => hr.aeO (by omega) t (ih (by omega) (by omega) t ht)
theorem v7.Xv (hr:v7 F rec ops S X) {j:Nat} (hj:j<aeR ops) {t:Nat} (h:FR X j t):t∈(S (j+1)).fz:=by
 rcases hr.steps j _ (ut hj) with ⟨_,x,hx,_,hX,hn⟩|⟨_,hX,_⟩
 · rw [hn]
   unfold FR at h;rw [hX] at h;cases x with
   |loc r=>exact aeh _ h
   |shr v s z=>exact h
 unfold FR at h;rw [hX] at h;exact h.elim
theorem aeP {j t:Nat} (h:FR X j t):A X j t\/W X j t:=by
 unfold FR at h;unfold A W;cases hX:X j with
 |none=>rw [hX] at h;exact h.elim
 |some x=>
  rw [hX] at h;cases x with
  |loc r=>exact .inl (.inr h)
  |shr v s z=>exact .inr trivial
theorem Inv.Dt (hr:v7 F rec ops S X) (ho:Ord ops S X vv) (hp:Place ops vv done i) {t:Nat} (hW:W X i t) (hz:t∉(S i).fz):
 t∉(S 0).fz/\ ∀j,j<aeR ops->done j-> ¬FR X j t:=by
 refine ⟨fun h=>hz (hr.CK (ad5 _) (adW hp.lt) t h),fun j hj hd hf=>?_⟩;rcases ac6 j i with h|h|h
 · exact hz (hr.CK h (adW hp.lt) t (hr.Xv hj hf))
 · subst h;exact hp.nd hd
 exact hp.later hj (ho.KE i j t h hj hW (aeP hf)) hd
theorem Inv.known (hr:v7 F rec ops S X) (ho:Ord ops S X vv) (hv:Inv ops S X im0 loc0 w0 nt done im loc a w) (hp:Place ops vv done i) {r:mC} (hX:X i=aeS (.loc r)) (yw:(XR.loc r).ok (S i).fz=aeU)
 (hn:(S (i+1)).az.length=(S i).az.length+aeR r.news):iG im loc (S i).az w r where
 bu:=hv.bu
 tok:=fun t ht li hl=>by
  obtain ⟨k,hc,rj⟩:=hv.tok t li hl;refine ⟨k,hv.cur hr ho hp hl ?_ hc,rj⟩;rcases ht with ht|ht
  · exact .inl (by unfold A;rw [hX];exact .inl ht)
  exact .inr (by unfold W;rw [hX];exact ht)
 free:=fun t k hm li k' hl hs kJ=>by
  have hW:W X i t:=by unfold W;rw [hX];exact ⟨k,hm⟩
  simp only [XR.ok,v6,ad7,UV] at yw;have hz:t∉(S i).fz:=iS.1 (yw.1 (t,k) hm);obtain ⟨h0,h1⟩:=Inv.Dt hr ho hp hW hz;obtain ⟨k2,hc,_⟩:=hv.tok t li hl;have:=hv.cur hr ho hp hl (.inr hW) hc;rw [hs] at this;injection this with this;subst this;exact hv.free t li k' hl hc kJ h0 h1
 fresh:=fun j hj=>hv.fresh i hp.lt hp.nd _ (by omega) (by omega)
 gQ:=fun t u li lj k k' ht hu hl jU hs s6 kJ FC hb=>by
  have aw: ∀t,(t∈r.rd\/ ∃b,(t,b)∈r.wr)->A X i t\/W X i t:=fun t h=>by
   rcases h with h|h
   · exact .inl (by unfold A;rw [hX];exact .inl h)
   exact .inr (by unfold W;rw [hX];exact h)
  obtain ⟨k1,zn,_⟩:=hv.tok t li hl;obtain ⟨k2,E5,_⟩:=hv.tok u lj jU;have e1:=hv.cur hr ho hp hl (aw t ht) zn;have e2:=hv.cur hr ho hp jU (aw u hu) E5;rw [hs] at e1;injection e1 with e1;subst e1;rw [s6] at e2;injection e2 with e2;subst e2;exact hv.gQ t u li lj _ _ hl jU zn E5 kJ FC hb
theorem Inv.zL (hr:v7 F rec ops S X) (ho:Ord ops S X vv) (hv:Inv ops S X im0 loc0 w0 nt done im loc a w) (hp:Place ops vv done i) {x:bD} (hx:ops[i]? =aeS x) {r:mC} (hX:X i=aeS (.loc r))
 (yw:(XR.loc r).ok (S i).fz=aeU) (hS:S (i+1)=(XR.loc r).next x.dst (S i)) {v':Value} {dK:Im} {ba:Loc} {w':World} (nE:VR dK ba r.v v') (he:rD im loc (S i).az w r dK ba w')
 (rq: ∀d,x.dst=aeS d->d<nt):Inv ops S X im0 loc0 w0 nt (plus done i) dK ba (a.put x.dst v') w':=by
 have bU:(S (i+1)).az.length=(S i).az.length+(aeR r.news):=by rw [hS];simp [XR.next,pX,eS]
 have vw:=hp.lt;have zB:tM r.wr=aeU:=by simp only [XR.ok,v6] at yw;exact yw.2
 have oU:(S (i+1)).az=fv r.wr (S i).az++r.news:=by rw [hS];exact pX _ _
 have aeQ: ∀t k,(t,k)∈r.wr->t<(S i).az.length->(S (i+1)).az[t]? =aeS k:=by intro t k hm cY;rw [oU,M2 (by rw [eS];exact cY)];exact Dr _ _ zB hm cY
 have Yt: ∀j k,r.news[j]? =aeS k->(S (i+1)).az[(S i).az.length+j]? =aeS k:=by intro j k hj;rw [oU,acl (by rw [eS];omega),eS,show (S i).az.length+j- (S i).az.length=j by omega];exact hj
 have wlt: ∀t li,loc t=aeS li->W X i t->t<(S i).az.length:=by intro t li hl hW;obtain ⟨k,hc,_⟩:=hv.tok t li hl;exact bY (hv.cur hr ho hp hl (.inr hW) hc)
 have GM: ∀t k li,(t,k)∈r.wr->loc t=aeS li->zK S X (aeR ops) (plus done i) t k:=by
  intro t k li hm hl;have hW:W X i t:=by unfold W;rw [hX];exact ⟨k,hm⟩
  have cY:=wlt t li hl hW;refine ⟨i+1,vw,fun j hj Mh=>?_,fun c hc h1 h2=>?_,aeQ t k hm cY⟩
  · rcases ac6 j i with h|h|h
    · exact ⟨fun _=>by omega,fun _=> .inl (hp.pre j hj (ho.KE j i t h vw Mh (.inr hW)))⟩
    · subst h;exact ⟨fun _=>by omega,fun _=> .inr rfl⟩
    refine ⟨fun hd=>?_,fun h'=>by omega⟩
    rcases hd with hd|hd
    · exact absurd hd (hp.later hj (ho.KE i j t h hj hW (.inr Mh)))
    omega
  rcases ad4 c (i+1) with h|h
  · exact h
  have:=hr.gC (show i<=c by omega) (by omega);omega
 have xk: ∀j k,r.news[j]? =aeS k->zK S X (aeR ops) (plus done i) ((S i).az.length+j) k:=by
  intro j k hj;have Kr:=bY hj;refine ⟨i+1,vw,fun q hq hWq=>?_,fun c hc h1 h2=>?_,Yt j k hj⟩
  · rcases ac6 q i with h|h|h
    · refine ⟨fun _=>by omega,fun _=> .inl ?_⟩
      by_cases hs:pR X q
      ·
       refine hp.pre q hq (ho.HV q i h vw (.inl ⟨hs,?_⟩));unfold fY;rw [hX];exact .inr (.inr (.inr (by intro e;rw [e] at hj;simp at hj)))
      rcases ho.cl q _ hq hs (.inr hWq) with h'|h'
      · have:=hr.gC (show q<=i by omega) (by omega);omega
      exact hp.pre q hq (h' i h vw)
    · subst h;exact ⟨fun _=>by omega,fun _=> .inr rfl⟩
    refine ⟨fun hd=>?_,fun h'=>by omega⟩
    rcases hd with hd|hd
    · exfalso
      by_cases hs:pR X q
      · refine hp.later hq (ho.HV i q h hq (.inr ⟨?_,hs⟩)) hd
        unfold fY;rw [hX];exact .inr (.inr (.inr (by intro e;rw [e] at hj;simp at hj)))
      exact hp.later hq (ho.Ys i q _ h hq (by rintro ⟨v,s,z,e⟩;rw [hX] at e;cases e) (by omega) (by omega) hs hWq) hd
    omega
  rcases ad4 c (i+1) with h|h
  · exact h
  have:=hr.gC (show i+1<=c by omega) (by omega);omega
 have Mi: ∀t k,¬W X i t->zK S X (aeR ops) done t k->zK S X (aeR ops) (plus done i) t k:=by
  intro t k hW hc;obtain ⟨m,hm,h1,h2,h3⟩:=hc;refine ⟨m,hm,fun j hj Mh=>?_,h2,h3⟩;have dC:j≠i:=fun e=>hW (e▸Mh)
  have:=h1 j hj Mh;exact ⟨fun hd=>this.1 (hd.resolve_right dC),fun h=> .inl (this.2 h)⟩
 have ahj: ¬pR X i:=by rintro ⟨v,s,z,e⟩;rw [hX] at e;cases e
 have xl: ∀t li,ba t=aeS li->(∃j k,t=(S i).az.length+j/\r.news[j]? =aeS k/\loc t=aeT)\/loc t=aeS li:=by
  intro t li hl;rcases he.jO t li hl with h|⟨h1,h2⟩
  · exact .inr h
  refine .inl ⟨t- (S i).az.length,r.news[t- (S i).az.length],by omega,ut (by omega),?_⟩
  exact hv.fresh i vw hp.nd t h1 (by omega)
 have old: ∀t li k,loc t=aeS li->zK S X (aeR ops) (plus done i) t k->k.bA=aeU-> ∃k0,zK S X (aeR ops) done t k0/\k0.bA=aeU/\BR im loc w li k0/\(¬W X i t->k0=k)/\(W X i t->(t,k)∈r.wr):=by
  intro t li k hl hc hs;obtain ⟨k0,E8,rj⟩:=hv.tok t li hl
  by_cases hW:W X i t
  · have Yu:=hW
    unfold W at Yu;rw [hX] at Yu;obtain ⟨k2,hm⟩:=Yu;have e:=(GM t k2 li hm hl).unique hr hc;subst e;obtain ⟨k3,h3,h4⟩:=he.No t k2 hm hs;have:=hv.cur hr ho hp hl (.inr hW) E8;rw [h3] at this;injection this with this;subst this;exact ⟨k3,E8,h4,rj,fun h=>absurd hW h,fun _=>hm⟩
  have e:=(Mi t k0 hW E8).unique hr hc
  subst e;exact ⟨k0,E8,hs,rj,fun _=>rfl,fun h=>absurd h hW⟩
 have GN: ∀t k li k0,(t,k)∈r.wr->loc t=aeS li->(S i).az[t]? =aeS k0->zK S X (aeR ops) done t k0:=by intro t k li k0 hm hl hs;obtain ⟨k1,zn,_⟩:=hv.tok t li hl;have:=hv.cur hr ho hp hl (.inr (by unfold W;rw [hX];exact ⟨k,hm⟩)) zn;rw [hs] at this;injection this with this;subst this;exact zn
 have PG: ∀t li k0,t∈r.fr->loc t=aeS li->(S i).az[t]? =aeS k0->zK S X (aeR ops) done t k0:=by intro t li k0 hm hl hs;obtain ⟨k1,zn,_⟩:=hv.tok t li hl;have:=hv.cur hr ho hp hl (.inl (by unfold A;rw [hX];exact .inr hm)) zn;rw [hs] at this;injection this with this;subst this;exact zn
 refine {
  tm:=fun t=>?_
  bu:=he.bu
  tok:=fun t li hl=>?_
  gQ:=fun t u li lj k k' hl jU hc zD hs s6 hb=>?_
  free:=fun t li k hl hc hs h0 hf=>?_
  fresh:=fun j hj E7 t h1 h2=>?_
  fD:=hv.fD.trans he.fD
  dp:=hv.dp.trans he.dp
  os:=he.os.trans hv.os
  tape:=he.tape.trans hv.tape
  output:=he.output.trans hv.output
  size:=ad0 hv.size he.size
  frame:=fun b hb hh=>?_
  dy:=fun b o hb=>?_
  lH:=fun t li hl=>?_
  own:=fun t li k hl hc hs=>?_
  defers:=by cases hd:x.dst<;>simp [Act.put,hv.defers]
  Kj:=by cases hd:x.dst<;>simp [Act.put,hv.Kj]}
 ·
  by_cases hd:x.dst=aeS t
  · refine ⟨i+1,vw,fun j y hy Mg=>?_,?_⟩
    · rcases ac6 j i with h|h|h
      · exact ⟨fun _=>by omega,fun _=> .inl (hp.pre j (bY hy) (ho.Ds j i t y x h hy hx Mg (.inr hd)))⟩
      · subst h;exact ⟨fun _=>by omega,fun _=> .inr rfl⟩
      refine ⟨fun Iq=>?_,fun h'=>by omega⟩
      rcases Iq with Iq|Iq
      · exact absurd Iq (hp.later (bY hy) (ho.Ds i j t x y h hx hy hd (.inr Mg)))
      omega
    rw [hS]
    simp only [XR.next,hd,gW,pZ,if_true,Act.put];have:=rq t hd;simp [hv.Kj,this,nE]
  obtain ⟨m,hm,h1,h2⟩:=hv.tm t
  refine ⟨m,hm,fun j y hy Mg=>?_,?_⟩
  · have dC:j≠i:=by intro e;subst e;rw [hx] at hy;injection hy with hy;subst hy;exact hd Mg
    have:=h1 j y hy Mg;exact ⟨fun Iq=>this.1 (Iq.resolve_right dC),fun h=> .inl (this.2 h)⟩
  have:=h2.mono he.fD he.dp
  cases hxd:x.dst with
  |none=>simpa [Act.put] using this
  |some d=>
   have dC:d≠t:=fun e=>hd (by rw [hxd,e])
   simpa [Act.put,ad1,dC] using this
 ·
  rcases xl t li hl with ⟨j,k,rfl,hj,_⟩|NC
  · obtain ⟨h2,_⟩:=he.news j k li hj hl
    exact ⟨k,xk j k hj,h2⟩
  obtain ⟨k0,E8,rj⟩:=hv.tok t li NC
  by_cases hW:W X i t
  · have Yu:=hW
    unfold W at Yu;rw [hX] at Yu;obtain ⟨k2,hm⟩:=Yu;exact ⟨k2,GM t k2 li hm NC,he.wr t k2 li hm NC⟩
  refine ⟨k0,Mi t k0 hW E8,rj.aeN he.fD he.dp fun hs=>?_⟩
  refine he.frame _ (rj.lt hs) fun t2 k2 l2 k3 hm Fy hs3 kJ Ij=>?_
  have:=hv.gQ t2 t l2 li k3 k0 Fy NC (GN t2 k2 l2 k3 hm Fy hs3) E8 kJ hs Ij;subst this;exact hW (by unfold W;rw [hX];exact ⟨k2,hm⟩)
 ·
  have PH: ∀t u li lj k k',(∃j k,t=(S i).az.length+j/\r.news[j]? =aeS k/\loc t=aeT)->loc u=aeS lj->ba t=aeS li->zK S X (aeR ops) (plus done i) t k->zK S X (aeR ops) (plus done i) u k'->
   k.bA=aeU->k'.bA=aeU->li.cX=lj.cX->False:=by
   intro t u li lj k k' hj hlu hl hc zD hs s6 hb;obtain ⟨j,k1,rfl,hj,_⟩:=hj;have e:=(xk j k1 hj).unique hr hc;subst e;obtain ⟨h2,h3⟩:=he.news j k1 li hj hl;obtain ⟨k0,E8,Fg,Yv,hk0,hw0⟩:=old u lj k' hlu zD s6;have cY:=Yv.lt Fg;rcases (h3 hs).2 with h|⟨td,lt,kd,hm,hld,hsd,PI,hbd⟩
   · omega
   have:=hv.gQ td u lt lj kd k0 hld hlu (GN td _ lt kd hm hld hsd) E8 PI Fg (by rw [hbd,hb])
   subst this;have Ps:=hw0 (by unfold W;rw [hX];exact ⟨_,hm⟩);have e2:=(GM td _ lj hm hlu).unique hr (GM td _ lj Ps hlu);subst e2;cases s6
  rcases xl t li hl with h1|h1
  · rcases xl u lj jU with h2|h2
    · obtain ⟨j1,k1,rfl,hj1,_⟩:=h1
      obtain ⟨j2,k2,rfl,hj2,_⟩:=h2;have e1:=(xk j1 k1 hj1).unique hr hc;have e2:=(xk j2 k2 hj2).unique hr zD;subst e1 e2;rw [he.distinct j1 j2 k1 k2 li lj hj1 hj2 hs s6 hl jU hb]
    exact (PH t u li lj k k' h1 h2 hl hc zD hs s6 hb).elim
  rcases xl u lj jU with h2|h2
  · exact (PH u t lj li k' k h2 h1 jU zD hc s6 hs hb.symm).elim
  obtain ⟨k0,E8,Fg,_⟩:=old t li k h1 hc hs
  obtain ⟨k1,zn,hs1,_⟩:=old u lj k' h2 zD s6;exact hv.gQ t u li lj k0 k1 h1 h2 E8 zn Fg hs1 hb
 ·
  rcases xl t li hl with ⟨j,k1,rfl,hj,_⟩|NC
  · have e:=(xk j k1 hj).unique hr hc
    subst e;obtain ⟨h2,h3⟩:=he.news j k1 li hj hl;exact (h3 hs).1
  obtain ⟨k0,E8,Fg,Yv,_,_⟩:=old t li k NC hc hs
  have hn:=hv.free t li k0 NC E8 Fg h0 (fun j hj hd=>hf j hj (.inl hd));cases hb:dK li.cX with
  |none=>rfl
  |some o=>
   rcases he.dy _ _ hb with h|h|⟨t2,l2,k2,h1,h2,h3,h4,h5⟩
   · rw [hn] at h;cases h
   · have:=Yv.lt Fg;omega
   have hm:=ox.1 h1
   have:=hv.gQ t2 t l2 li k2 k0 h2 NC (PG t2 l2 k2 hm h2 h3) E8 h4 Fg h5;subst this;exact absurd (by unfold FR;rw [hX];exact hm) (hf i vw (.inr rfl))
 ·
  have S3:j≠i:=fun e=>E7 (.inr e)
  have Yw: ¬done j:=fun h=>E7 (.inl h)
  cases hl:ba t with
  |none=>rfl
  |some li=>
   exfalso;rcases he.jO t li hl with h|⟨h3,h4⟩
   · rw [hv.fresh j hj Yw t h1 h2] at h;cases h
   rcases aez S3 with h|h
   · have:=hr.gC (show j+1<=i by omega) (by omega);omega
   have:=hr.gC (show i+1<=j by omega) (by omega);omega
 ·
  have Sz:b<w.heap.size:=adz hb hv.size;rw [he.frame b Sz (fun t k li k0 hm hl hs kJ Ij=>?_)]
  · exact hv.frame b hb hh
  rcases hv.own t li k0 hl (GN t k li k0 hm hl hs) kJ with h|⟨u,lu,ku,h1,h2,h3,h4⟩
  · omega
  exact hh u lu ku h1 h2 h3 (by omega)
 · rcases he.dy b o hb with h|h|⟨t,li,k,h1,h2,h3,h4,h5⟩
   · exact hv.dy b o h
   · exact .inr (.inl (ad0 hv.size h))
   rcases hv.own t li k h2 (PG t li k (ox.1 h1) h2 h3) h4 with h|⟨u,lu,ku,g1,g2,g3,g4⟩
   · exact .inr (.inl (by omega))
   exact .inr (.inr ⟨u,lu,ku,g1,g2,g3,by omega⟩)
 · rcases he.jO t li hl with h|⟨h,_⟩
   · exact hv.lH t li h
   exact .inr (ad0 (hr.gC (ad5 _) (by omega)) h)
 rcases xl t li hl with ⟨j,k1,rfl,hj,_⟩|NC
 · have e:=(xk j k1 hj).unique hr hc
   subst e;obtain ⟨h2,h3⟩:=he.news j k1 li hj hl;rcases (h3 hs).2 with h|⟨td,lt,kd,hm,hld,hsd,PI,hbd⟩
   · exact .inl (ad0 hv.size h)
   rcases hv.own td lt kd hld (GN td _ lt kd hm hld hsd) PI with h|⟨u,lu,ku,g1,g2,g3,g4⟩
   · exact .inl (by omega)
   exact .inr ⟨u,lu,ku,g1,g2,g3,by omega⟩
 obtain ⟨k0,E8,Fg,_⟩:=old t li k NC hc hs
 exact hv.own t li k0 NC E8 Fg
end
end Go.Vm
/- A region: a call that works on the blocks themselves, and a skipped operation. -/
namespace Go.Vm
section
variable {F : jM} {rec : Task -> Option Out} {ops : List bD} {S : Nat -> St} {X : Nat -> Option XR} {vv : Nat -> Nat -> Prop} {im0 : Im} {loc0 : Loc} {w0 : World} {nt : Nat}
  {done : Nat -> Prop} {im : Im} {loc : Loc} {a : Act} {w : World} {i : Nat}
theorem FD {v:PV} {s:bS} {z:List Nat} (hX:X i=aeS (.shr v s z)) (t:Nat):W X i t:=by unfold W;rw [hX];trivial
theorem tY {j t:Nat} (h:W X j t):fY X j:=by
 unfold W at h;unfold fY;cases hX:X j with
 |none=>rw [hX] at h;exact h.elim
 |some x=>
  rw [hX] at h;cases x with
  |loc r=>obtain ⟨k,hk⟩:=h;exact .inr (.inr (.inl (by intro e;rw [e] at hk;cases hk)))
  |shr v s z=>trivial
theorem Inv.sr (hr:v7 F rec ops S X) (ho:Ord ops S X vv) (hv:Inv ops S X im0 loc0 w0 nt done im loc a w) (hp:Place ops vv done i) {v:PV} {s:bS} {z:List Nat} (hX:X i=aeS (.shr v s z)):
 SR im loc (S i).az (S i).fz w where
 bu:=hv.bu
 cX:=fun t li hl=>by obtain ⟨k,hc,hb⟩:=hv.tok t li hl;exact ⟨k,hv.cur hr ho hp hl (.inr (FD hX t)) hc,hb⟩
 gQ:=fun t u li lj k k' hl jU hs s6 h h' hb=>by obtain ⟨k1,zn,_⟩:=hv.tok t li hl;obtain ⟨k2,E5,_⟩:=hv.tok u lj jU;have e1:=hv.cur hr ho hp hl (.inr (FD hX t)) zn;have e2:=hv.cur hr ho hp jU (.inr (FD hX u)) E5;rw [hs] at e1;injection e1 with e1;subst e1;rw [s6] at e2;injection e2 with e2;subst e2;exact hv.gQ t u li lj _ _ hl jU zn E5 h h' hb
 free:=fun t li k hl hs h hz=>by obtain ⟨k1,zn,_⟩:=hv.tok t li hl;have e1:=hv.cur hr ho hp hl (.inr (FD hX t)) zn;rw [hs] at e1;injection e1 with e1;subst e1;obtain ⟨h0,h1⟩:=Inv.Dt hr ho hp (FD hX t) (iS.1 hz);exact hv.free t li _ hl zn h h0 h1
theorem Inv.PJ {S:Nat->St} (ho:Ord ops S X vv) (hp:Place ops vv done i) {x:bD} (hx:ops[i]? =aeS x) {v:PV} {v':Value} {dK:Im} {ba:Loc}
 (hv:Inv ops S X im0 loc0 w0 nt done im loc a w) (hi:mF im dK) (hl:kT loc ba) (hS:(S (i+1)).env=gW x.dst v (S i).env) (nE:VR dK ba v v') (rq: ∀d,x.dst=aeS d->d<nt):
 ∀t,∃m,m<=aeR ops/\(∀j y,ops[j]? =aeS y->y.dst=aeS t->(plus done i j↔j<m))/\VR dK ba (lk t (S m).env) ((a.put x.dst v').tmps.getD t Go.undef):=by
 intro t;have vw:=hp.lt
 by_cases hd:x.dst=aeS t
 · refine ⟨i+1,vw,fun j y hy Mg=>?_,?_⟩
   · rcases ac6 j i with h|h|h
     · exact ⟨fun _=>by omega,fun _=> .inl (hp.pre j (bY hy) (ho.Ds j i t y x h hy hx Mg (.inr hd)))⟩
     · subst h;exact ⟨fun _=>by omega,fun _=> .inr rfl⟩
     refine ⟨fun Iq=>?_,fun h'=>by omega⟩
     rcases Iq with Iq|Iq
     · exact absurd Iq (hp.later (bY hy) (ho.Ds i j t x y h hx hy hd (.inr Mg)))
     omega
   rw [hS]
   simp only [hd,gW,pZ,if_true,Act.put];have:=rq t hd;simp [hv.Kj,this,nE]
 obtain ⟨m,hm,h1,h2⟩:=hv.tm t
 refine ⟨m,hm,fun j y hy Mg=>?_,?_⟩
 · have dC:j≠i:=by intro e;subst e;rw [hx] at hy;injection hy with hy;subst hy;exact hd Mg
   have:=h1 j y hy Mg;exact ⟨fun Iq=>this.1 (Iq.resolve_right dC),fun h=> .inl (this.2 h)⟩
 have:=h2.mono hi hl
 cases hxd:x.dst with
 |none=>simpa [Act.put] using this
 |some d=>
  have dC:d≠t:=fun e=>hd (by rw [hxd,e])
  simpa [Act.put,ad1,dC] using this
theorem put_defers (a:Act) (d:Option Nat) (v:Value):(a.put d v).defers=a.defers:=by cases d<;>rfl
theorem Ir (a:Act) (d:Option Nat) (v:Value):(a.put d v).tmps.size=a.tmps.size:=by cases d<;>simp [Act.put]
theorem Inv.PK (hr:v7 F rec ops S X) (ho:Ord ops S X vv) (hv:Inv ops S X im0 loc0 w0 nt done im loc a w) (hp:Place ops vv done i) {x:bD} (hx:ops[i]? =aeS x) {v:PV} {s:bS} {z:List Nat}
 (hX:X i=aeS (.shr v s z)) (hS:S (i+1)=(XR.shr v s z).next x.dst (S i)) {v':Value} {dK:Im} {ba:Loc} {w':World} (hf:rJ im loc (S i).az w v s z dK ba w' v')
 (rq: ∀d,x.dst=aeS d->d<nt):Inv ops S X im0 loc0 w0 nt (plus done i) dK ba (a.put x.dst v') w':=by
 have vw:=hp.lt;have oU:(S (i+1)).az=s:=by rw [hS];rfl
 have Yx: ∀t li,loc t=aeS li-> ∀k,(S i).az[t]? =aeS k->zK S X (aeR ops) done t k:=by intro t li hl k hs;obtain ⟨k1,zn,_⟩:=hv.tok t li hl;have e1:=hv.cur hr ho hp hl (.inr (FD hX t)) zn;rw [hs] at e1;injection e1 with e1;subst e1;exact zn
 have S4: ∀t k,s[t]? =aeS k->zK S X (aeR ops) (plus done i) t k:=by
  intro t k hs;refine ⟨i+1,vw,fun j hj Mh=>?_,fun c hc h1 h2=>?_,by rw [oU];exact hs⟩
  · rcases ac6 j i with h|h|h
    · exact ⟨fun _=>by omega,fun _=> .inl (hp.pre j hj (ho.HV j i h vw (.inr ⟨tY Mh,⟨v,s,z,hX⟩⟩)))⟩
    · subst h;exact ⟨fun _=>by omega,fun _=> .inr rfl⟩
    refine ⟨fun hd=>?_,fun h'=>by omega⟩
    rcases hd with hd|hd
    · exact absurd hd (hp.later hj (ho.HV i j h hj (.inl ⟨⟨v,s,z,hX⟩,tY Mh⟩)))
    omega
  rcases ad4 c (i+1) with h|h
  · exact h
  have:=hr.gC (show i+1<=c by omega) (by omega)
  have:=bY hs;rw [oU] at*;omega
 have GO: ∀t li,ba t=aeS li-> ∀k,zK S X (aeR ops) (plus done i) t k->s[t]? =aeS k:=by intro t li hl k hc;obtain ⟨k1,h1,_⟩:=hf.sr.cX t li hl;have:=hc.unique hr (S4 t k1 h1);subst this;exact h1
 refine {
  tm:=Inv.PJ ho hp hx hv hf.fD hf.dp (by rw [hS];rfl) hf.vr rq
  bu:=hf.sr.bu
  tok:=fun t li hl=>by obtain ⟨k,h1,h2⟩:=hf.sr.cX t li hl;exact ⟨k,S4 t k h1,h2⟩
  gQ:=fun t u li lj k k' hl jU hc zD hs s6 hb=>hf.sr.gQ t u li lj k k' hl jU (GO t li hl k hc) (GO u lj jU k' zD) hs s6 hb
  free:=fun t li k hl hc hs h0 pG=>by refine hf.sr.free t li k hl (GO t li hl k hc) hs (iS.2 ?_);have:=pG i vw (.inr rfl);unfold FR at this;rw [hX] at this;exact this
  fresh:=fun j hj E7 t h1 h2=>?_
  fD:=hv.fD.trans hf.fD
  dp:=hv.dp.trans hf.dp
  os:=hf.os.trans hv.os
  tape:=hf.tape.trans hv.tape
  output:=hf.output.trans hv.output
  size:=ad0 hv.size hf.size
  frame:=fun b hb hh=>?_
  dy:=fun b o hb=>?_
  lH:=fun t li hl=>?_
  own:=fun t li k hl hc hs=>?_
  defers:=by rw [put_defers];exact hv.defers
  Kj:=by rw [Ir];exact hv.Kj}
 · have S3:j≠i:=fun e=>E7 (.inr e)
   have Yw: ¬done j:=fun h=>E7 (.inl h)
   cases hl:ba t with
   |none=>rfl
   |some li=>
    exfalso;obtain ⟨k,hk,_⟩:=hf.sr.cX t li hl;have cY:=bY hk;rcases hf.lH t li hl with h|h
    · rw [hv.fresh j hj Yw t h1 h2] at h;cases h
    rcases aez S3 with h'|h'
    · have:=hr.gC (show j+1<=i by omega) (by omega);omega
    have:=hr.gC (show i+1<=j by omega) (by omega)
    rw [oU] at this;omega
 · rw [hf.frame b (adz hb hv.size) fun t li k hl hs kJ Ij=>?_]
   · exact hv.frame b hb hh
   rcases hv.own t li k hl (Yx t li hl k hs) kJ with h|⟨u,lu,ku,g1,g2,g3,g4⟩
   · omega
   exact hh u lu ku g1 g2 g3 (by omega)
 · rcases hf.dy b o hb with h|h|⟨t,li,k,h1,h2,h3,h4⟩
   · exact hv.dy b o h
   · exact .inr (.inl (ad0 hv.size h))
   rcases hv.own t li k h1 (Yx t li h1 k h2) h3 with h|⟨u,lu,ku,g1,g2,g3,g4⟩
   · exact .inr (.inl (by omega))
   exact .inr (.inr ⟨u,lu,ku,g1,g2,g3,by omega⟩)
 · rcases hf.lH t li hl with h|h
   · exact hv.lH t li h
   exact .inr (ad0 (hr.gC (ad5 _) (by omega)) h)
 rcases hf.own t li k hl (GO t li hl k hc) hs with h|⟨u,lu,ku,h1,h2,h3,h4⟩
 · exact .inl (ad0 hv.size h)
 rcases hv.own u lu ku h1 (Yx u lu h1 ku h2) h3 with h|⟨u',lu',ku',g1,g2,g3,g4⟩
 · exact .inl (by omega)
 exact .inr ⟨u',lu',ku',g1,g2,g3,by omega⟩
theorem Inv.step_skip (_hr:v7 F rec ops S X) (ho:Ord ops S X vv) (hv:Inv ops S X im0 loc0 w0 nt done im loc a w) (hp:Place ops vv done i) {x:bD} (hx:ops[i]? =aeS x)
 (hX:X i=aeT) (hS:S (i+1)={S i with env:=gW x.dst .iI (S i).env}) (rq: ∀d,x.dst=aeS d->d<nt):Inv ops S X im0 loc0 w0 nt (plus done i) im loc (a.put x.dst Go.undef) w:=by
 have vw:=hp.lt;have hnW: ∀t,¬W X i t:=fun t h=>by unfold W at h;rw [hX] at h;exact h
 have oU:(S (i+1)).az=(S i).az:=by rw [hS]
 have S4: ∀t k,zK S X (aeR ops) done t k->zK S X (aeR ops) (plus done i) t k:=by
  intro t k ⟨m,hm,h1,h2,h3⟩;refine ⟨m,hm,fun j hj Mh=>?_,h2,h3⟩;have dC:j≠i:=fun e=>hnW t (e▸Mh)
  have:=h1 j hj Mh;exact ⟨fun hd=>this.1 (hd.resolve_right dC),fun h=> .inl (this.2 h)⟩
 have GO: ∀t k,zK S X (aeR ops) (plus done i) t k->zK S X (aeR ops) done t k:=by
  intro t k ⟨m,hm,h1,h2,h3⟩;refine ⟨m,hm,fun j hj Mh=>?_,h2,h3⟩;have dC:j≠i:=fun e=>hnW t (e▸Mh)
  have:=h1 j hj Mh;exact ⟨fun hd=>this.1 (.inl hd),fun h=>(this.2 h).resolve_right dC⟩
 refine {
  tm:=Inv.PJ ho hp hx hv (.refl _) (.refl _) (by rw [hS]) .iI rq
  bu:=hv.bu
  tok:=fun t li hl=>let ⟨k,h1,h2⟩:=hv.tok t li hl;⟨k,S4 t k h1,h2⟩
  gQ:=fun t u li lj k k' hl jU hc zD hs s6 hb=>hv.gQ t u li lj k k' hl jU (GO t k hc) (GO u k' zD) hs s6 hb
  free:=fun t li k hl hc hs h0 pG=>hv.free t li k hl (GO t k hc) hs h0 fun j hj hd=>pG j hj (.inl hd)
  fresh:=fun j hj E7 t h1 h2=>hv.fresh j hj (fun h=>E7 (.inl h)) t h1 h2
  fD:=hv.fD
  dp:=hv.dp
  os:=hv.os
  tape:=hv.tape
  output:=hv.output
  size:=hv.size
  frame:=hv.frame
  dy:=hv.dy
  lH:=hv.lH
  own:=fun t li k hl hc hs=>hv.own t li k hl (GO t k hc) hs
  defers:=by rw [put_defers];exact hv.defers
  Kj:=by rw [Ir];exact hv.Kj}
theorem Inv.start {st:St} (h0:S 0=st) (jt:SR im0 loc0 st.az st.fz w0) (her:ER im0 loc0 st.env a.tmps) (hd:a.defers=[]) (hn:a.tmps.size=nt) (hr:v7 F rec ops S X):
 Inv ops S X im0 loc0 w0 nt (fun _=>False) im0 loc0 a w0:=by
 subst h0;have cY: ∀t li,loc0 t=aeS li->t<(S 0).az.length:=fun t li hl=>let ⟨k,h,_⟩:=jt.cX t li hl;bY h
 have cur: ∀t li k,loc0 t=aeS li->zK S X (aeR ops) (fun _=>False) t k->(S 0).az[t]? =aeS k:=by intro t li k hl ⟨m,hm,h1,h2,h3⟩;rw [<- hr.xj (ad5 m) hm (fun j _ hj hW=>(h1 j (by omega) hW).2 hj) (cY t li hl)];exact h3
 exact {
  tm:=fun t=>⟨0,ad5 _,fun j y _ _=>⟨fun h=>h.elim,fun h=>by omega⟩,her t⟩
  bu:=jt.bu
  tok:=fun t li hl=>by obtain ⟨k,h1,h2⟩:=jt.cX t li hl;refine ⟨k,⟨0,ad5 _,fun j _ _=>⟨fun h=>h.elim,fun h=>by omega⟩,fun c hc h3 h4=>?_,h1⟩,h2⟩;have:=cY t li hl;have:=hr.gC (ad5 c) (by omega);omega
  gQ:=fun t u li lj k k' hl jU hc zD=>jt.gQ t u li lj k k' hl jU (cur t li k hl hc) (cur u lj k' jU zD)
  free:=fun t li k hl hc hs hz _=>jt.free t li k hl (cur t li k hl hc) hs (iS.2 hz)
  fresh:=fun j hj _ t h1 h2=>by
   cases hl:loc0 t with
   |none=>rfl
   |some li=>have:=cY t li hl;have:=hr.gC (ad5 j) (by omega);omega
  fD:= .refl _
  dp:= .refl _
  os:=rfl
  tape:= .refl _
  output:=rfl
  size:=If _
  frame:=fun _ _ _=>rfl
  dy:=fun _ _ h=> .inl h
  lH:=fun _ _ h=> .inl h
  own:=fun t li k hl hc hs=> .inr ⟨t,li,k,hl,cur t li k hl hc,hs,rfl⟩
  defers:=hd
  Kj:=hn}
structure Kept (im0:Im) (loc0:Loc) (iv:bS) (w0:World) (st:St) (im:Im) (loc:Loc) (w:World):Prop where
 sr:SR im loc st.az st.fz w
 fD:mF im0 im
 dp:kT loc0 loc
 os:w.os=w0.os
 tape:Tape w0 w
 output:w.output=w0.output
 size:w0.heap.size<=w.heap.size
 frame: ∀b,b<w0.heap.size->(∀t li k,loc0 t=aeS li->iv[t]? =aeS k->k.bA=aeU->li.cX≠b)->w.heap[b]? =w0.heap[b]?
 dy: ∀b o,im b=aeS o->im0 b=aeS o\/w0.heap.size<=b\/ ∃t li k,loc0 t=aeS li/\iv[t]? =aeS k/\k.bA=aeU/\li.cX=b
 lH: ∀t li,loc t=aeS li->loc0 t=aeS li\/aeR iv<=t
 own: ∀t li k,loc t=aeS li->st.az[t]? =aeS k->k.bA=aeU->(w0.heap.size<=li.cX\/ ∃u lu ku,loc0 u=aeS lu/\iv[u]? =aeS ku/\ku.bA=aeU/\lu.cX=li.cX)
theorem Inv.finish (hr : v7 F rec ops S X) (hv : Inv ops S X im0 loc0 w0 nt done im loc a w) (hd : ∀ j, j < (aeR ops) -> done j) :
    Kept im0 loc0 (S 0).az w0 (S (aeR ops)) im loc w /\ ER im loc (S (aeR ops)).env a.tmps /\ a.defers = [] /\ a.tmps.size = nt := by
  have cur : ∀ t k, zK S X (aeR ops) done t k -> (S (aeR ops)).az[t]? = aeS k := by
    intro t k ⟨m, hm, h1, h2, h3⟩
    rw [hr.xj hm (If _) (fun j h4 h5 hW => by have := (h1 j h5 hW).1 (hd j h5); omega) (bY h3)]
    exact h3
  have S5 : ∀ t li k, loc t = aeS li -> (S (aeR ops)).az[t]? = aeS k -> zK S X (aeR ops) done t k := by
    intro t li k hl hs
    obtain ⟨k1, hc, _⟩ := hv.tok t li hl
    have := cur t k1 hc
    rw [hs] at this; injection this with this; subst this; exact hc
  refine ⟨{
    sr := { bu := hv.bu
            cX := fun t li hl => let ⟨k, h1, h2⟩ := hv.tok t li hl; ⟨k, cur t k h1, h2⟩
            gQ := fun t u li lj k k' hl jU hs s6 => hv.gQ t u li lj k k' hl jU (S5 t li k hl hs) (S5 u lj k' jU s6)
            free := fun t li k hl hs kJ hz => by
              have hz := iS.1 hz
              refine hv.free t li k hl (S5 t li k hl hs) kJ (fun h => hz (hr.CK (ad5 _) (If _) t h)) fun j hj _ hf => ?_
              exact hz (hr.CK (show j + 1 <= (aeR ops) from hj) (If _) t (hr.Xv hj hf)) }
    fD := hv.fD, dp := hv.dp, os := hv.os, tape := hv.tape, output := hv.output, size := hv.size, frame := hv.frame, dy := hv.dy, lH := hv.lH
    own := fun t li k hl hs => hv.own t li k hl (S5 t li k hl hs) }, fun t => ?_, hv.defers, hv.Kj⟩
  obtain ⟨m, hm, h1, h2⟩ := hv.tm t
  rw [hr.KD hm (If _) fun j hj h3 h4 rq => ?_]
  · exact h2
  have := (h1 j _ (ut hj) rq).1 (hd j hj); omega
end
end Go.Vm
/- One operation of a region, in the model. -/
namespace Go.Vm
theorem A7 {P:Program} {o:Oper} {a:Act} {w:World} {f:FuncId} {us:Array Value} {R:Value->World->Prop} {next:Act->World->Prop} {Q:Exit->Act->World->Prop}
 (h:(execOp a.eval o).run P w=(callFunc f us).run P w) (hc:sA P f us w R) (hR: ∀v w',R v w'->next (a.put o.dst v) w'):o.wp P a w next Q:=by
 unfold Oper.wp;rw [h];rcases hc with ⟨v,w',h1,h2⟩|⟨h1,h2⟩
 · rw [h1,Oper.upon_value];exact hR v w' h2
 rw [h1,Oper.upon_enter]
 refine h2.mono fun e w' ⟨v,he,hv⟩=>?_
 subst he;exact hR v w' hv
theorem KF {im:Im} {loc:Loc} {e:Env} {a:Act} (x:eL) (h: ∀t,x= .t t->VR im loc (lk t e) (a.tmps.getD t Go.undef)) (o:Operand) (hc:bn x o=aeU):VR im loc (x.ev e) (a.eval o):=by
 unfold bn at hc;split at hc
 · rename_i n m
   have:n=m:=by simpa using hc
   subst this;exact h n rfl
 · exact Gz hc
 · rename_i f g
   have:f=g:=by simpa using hc
   subst this;exact .ed f [] [] [] [] .nil .nil
 · exact .undef _
 cases hc
section
variable {P : Program} {F : jM} {rec : Task -> Option Out} {ops : List bD} {S : Nat -> St} {X : Nat -> Option XR} {vv : Nat -> Nat -> Prop} {im0 : Im} {loc0 : Loc} {w0 : World} {nt : Nat}
  {done : Nat -> Prop} {im : Im} {loc : Loc} {a : Act} {w : World} {i : Nat} {prims : FuncId -> Bool} {hU : Array Oper}
theorem VR.S6 {v:Value} (h:VR im loc .iI v):v=Go.undef:=by cases h;rfl
theorem tZ {r:mC} {d:Option Nat} {st:St}:((XR.loc r).next d st).az.length=aeR st.az+(aeR r.news):=by simp [XR.next,pX,eS]
theorem FE {x:bD} {o:Oper} {e:Env} {b:Bool} (hc:s9 hU x.guard o.guard=aeU) (hs: ∀s c,x.guard=aeS (s,c)->VR im loc (lk s e) (a.tmps.getD s Go.undef)) (h:wanted x.guard e=aeS b):
 Region.wanted o (yielded hU a.tmps)=b:=by
 unfold Region.wanted;cases hg:x.guard with
 |none=>
  rw [hg] at hc h;cases ho:o.guard with
  |none=>simp [wanted] at h;subst h;rfl
  |some q=>rw [ho] at hc;simp [s9] at hc
 |some q=>
  obtain ⟨s,c⟩:=q;rw [hg] at hc h;cases ho:o.guard with
  |none=>rw [ho] at hc;simp [s9] at hc
  |some q'=>
   obtain ⟨j,c'⟩:=q';rw [ho] at hc;simp only [s9,v6,beq_iff_eq] at hc;obtain ⟨rfl,hd⟩:=hc;have hv:=hs s c hg;dsimp only;unfold yielded;rw [hd];simp only [wanted] at h;simp only [Option.bind_some];split at h
   · rename_i b' hl
     rw [hl] at hv;have:=hv.iR;have ht:a.tmps[s]? =aeS (.bool b'):=by
      simp only [ad3] at this;cases hq:a.tmps[s]? with
      |none=>rw [hq] at this;simp [Go.undef] at this
      |some u=>rw [hq] at this;exact congrArg aeS this
     rw [ht];rw [ww] at h;rw [<- h];cases b'<;>cases c<;>rfl
   · rename_i hl
     rw [hl] at hv;have:a.tmps.getD s Go.undef=Go.undef:=hv.S6;injection h with h;subst h;have ht: ∀b',a.tmps[s]?≠aeS (.bool b'):=by intro b' hq;simp only [ad3,hq,Option.getD_some,Go.undef] at this;cases this
     split
     · rename_i b' hq
       exact absurd hq (ht b')
     rfl
   cases h
structure GP (P:Program) (F:jM) (rec:Task->Option Out):Prop where
 func:A4 P rec
 ir:rL P F
theorem Inv.wpOp (hE:GP P F rec) (hr:v7 F rec ops S X) (ho:Ord ops S X vv) (hv:Inv ops S X im0 loc0 w0 nt done im loc a w) (hp:Place ops vv done i) {x:bD} {o:Oper} (hx:ops[i]? =aeS x) (Yy:hU[i]? =aeS o)
 (hc:p5 P prims nt hU x o=aeU) {Q:Exit->Act->World->Prop} {K:Act->World->Prop}
 (hK: ∀dK ba a' w',Inv ops S X im0 loc0 w0 nt (plus done i) dK ba a' w'->K a' w'):Go.wpOp P hU Q i K a w:=by
 unfold p5 at hc;simp only [v6,beq_iff_eq] at hc;obtain ⟨⟨⟨rq,hnt⟩,hg⟩,eA⟩:=hc;have hd: ∀d,x.dst=aeS d->d<nt:=by intro d h;rw [h] at hnt;simpa using hnt
 have Xw: ∀t,t∈aq x->VR im loc (lk t (S i).env) (a.tmps.getD t Go.undef):=fun t ht=>hv.slot hr ho hp hx ht
 have NK: ∀y∈x.op.eB,∀o',bn y o'=aeU->VR im loc (y.ev (S i).env) (a.eval o'):=by intro y hy o' hco;refine KF y (fun t ht=>Xw t ?_) o' hco;subst ht;exact aeh _ (List.mem_filterMap.2 ⟨.t t,hy,rfl⟩)
 have hgs: ∀s c,x.guard=aeS (s,c)->VR im loc (lk s (S i).env) (a.tmps.getD s Go.undef):=by intro s c h;refine Xw s (aef _ ?_);rw [h];simp
 unfold Go.wpOp;simp only [Yy];rcases hr.steps i x hx with ⟨hw,xr,fT,yw,hX,hS⟩|⟨hw,hX,hS⟩
 · rw [FE hg hgs hw]
   simp only [if_true];left;have Du: ∀{own:Bool} {f:FuncId} {args:List PV} {us:List Value} {r:mC},xr= .loc r->cu F rec own f args (S i).az (S i).fz=aeS r->eo im loc args us->
    (execOp a.eval o).run P w=(callFunc f ⟨us⟩).run P w->o.wp P a w K Q:=by
    intro own f args us r hxr hcp xh bG;subst hxr;have hk:=hv.known hr ho hp hX yw (by rw [hS];exact tZ);refine A7 bG (GL hE.func hE.ir hcp xh hk) fun v' w' ⟨dK,ba,nE,vu⟩=>?_
    exact hK _ _ _ _ (rq▸hv.zL hr ho hp hx hX yw hS nE vu hd)
   have Is: ∀{f:FuncId} {args:List PV} {us:List Value},ff rec f args (S i).az (S i).fz=aeS xr->eo im loc args us->
    (execOp a.eval o).run P w=(callFunc f ⟨us⟩).run P w->o.wp P a w K Q:=by
    intro f args us pO xh bG;unfold ff at pO;split at pO
    · rename_i v s z tT
      split at pO
      · injection pO with pO;subst pO
        refine A7 bG (hE.func f args _ _ v s z tT im loc w us (hv.sr hr ho hp hX) xh) fun v' w' ⟨dK,ba,hf⟩=>?_
        exact hK _ _ _ _ (rq▸hv.PK hr ho hp hx hX hS hf hd)
      cases pO
    cases pO
   have Yz: ∀{r:mC},xr= .loc r->bq (S i).env (S i).az (S i).fz x.op=aeS r->o.wp P a w K Q:=by
    intro r hxr he;subst hxr;have hk:=hv.known hr ho hp hX yw (by rw [hS];exact tZ);obtain ⟨nx,w',ba,bG,YA,vu⟩:=Pq eA NK he hk;unfold Oper.wp;rw [bG];rcases YA with ⟨rfl,hu⟩|⟨v,rfl,nE⟩
    · rw [Oper.upon_skip]
      exact hK _ _ _ _ (rq▸hv.zL hr ho hp hx hX yw hS (by rw [hu];exact .undef _) vu hd)
    rw [Oper.upon_value]
    exact hK _ _ _ _ (rq▸hv.zL hr ho hp hx hX yw hS nE vu hd)
   cases Sw:x.op with
   |call m f args=>
    rw [Sw] at fT eA NK;have PL: ∃as Sx,o.op= .call {callee:= .value (.func f),args:=as,argTypes:=Sx}/\ef args as.toList=aeU:=by
     cases O1:o.op with
     |call c=>
      obtain ⟨callee,as,Sx⟩:=c;rw [O1] at eA;cases callee with
      |value g=>
       cases g with
       |func g=>simp only [u9,v6,beq_iff_eq] at eA;obtain ⟨⟨rfl,_⟩,h⟩:=eA;exact ⟨as,Sx,rfl,h⟩
       |_=>simp [u9] at eA
      |_=>simp [u9] at eA
     |_=>rw [O1] at eA;simp [u9] at eA
    obtain ⟨as,Sx,O1,hco⟩:=PL;have hrel:eo im loc (C3 (S i).env args) (as.toList.map a.eval):=lV (fun y hy=>NK y (by simpa [jL.eB] using hy)) hco;have bG:(execOp a.eval o).run P w=(callFunc f ⟨as.toList.map a.eval⟩).run P w:=by
     have:(⟨as.toList.map a.eval⟩:Array Value)=as.map a.eval:=by apply aeI;simp
     rw [this];simp [execOp,O1,resolve,Act.eval,Deferred.ofValue,invoke]
    cases m with
    |Sq=>simp only [u6,Do] at fT;obtain ⟨r,PM,It⟩:=fT;exact Du It.symm PM hrel bG
    |own=>simp only [u6,Do] at fT;obtain ⟨r,PM,It⟩:=fT;exact Du It.symm PM hrel bG
    |shr=>exact Is fT hrel bG
    |fp=>
     simp only [u6,Do] at fT;obtain ⟨r,PM,It⟩:=fT;subst It;have hk:=hv.known hr ho hp hX yw (by rw [hS];exact tZ);refine A7 bG (KA hE.func PM hrel hk) fun v' w' ⟨dK,ba,nE,vu⟩=>?_
     exact hK _ _ _ _ (rq▸hv.zL hr ho hp hx hX yw hS nE vu hd)
   |u4 y args=>
    rw [Sw] at fT eA NK;have PL: ∃t as Sx,o.op= .call {callee:= .value (.tmp t),args:=as,argTypes:=Sx}/\bn y (.tmp t)=aeU/\ef args as.toList=aeU:=by
     cases O1:o.op with
     |call c=>
      obtain ⟨callee,as,Sx⟩:=c;rw [O1] at eA;cases callee with
      |value g=>
       cases g with
       |tmp g=>simp only [u9,v6] at eA;exact ⟨g,as,Sx,rfl,eA.1,eA.2⟩
       |_=>simp [u9] at eA
      |_=>simp [u9] at eA
     |_=>rw [O1] at eA;simp [u9] at eA
    obtain ⟨t,as,Sx,O1,hcy,hco⟩:=PL;have hrel:eo im loc (C3 (S i).env args) (as.toList.map a.eval):=lV (fun y hy=>NK y (by simp [jL.eB,hy])) hco;have hy:=NK y (by simp [jL.eB]) (.tmp t) hcy;simp only [u6] at fT;split at fT
    · rename_i f p q PN
      rw [PN] at hy;generalize hgv:a.eval (.tmp t)=gv at hy;cases hy with
      |ed _ _ _ us vs h1 h2=>
      have jV:=(h1.append hrel).append h2;have bG:(execOp a.eval o).run P w=(callFunc f ⟨us++as.toList.map a.eval++vs⟩).run P w:=by
       have:(⟨us++as.toList.map a.eval++vs⟩:Array Value)=(⟨us⟩++as.map a.eval)++⟨vs⟩:=by apply aeI;simp
       rw [this];simp [execOp,O1,resolve,hgv,Deferred.ofValue,invoke]
      split at fT
      · exact Is fT jV bG
      rw [Do] at fT
      obtain ⟨r,PM,It⟩:=fT;exact Du It.symm PM jV bG
    cases fT
   |_=>rw [Sw] at fT;simp only [u6,Do] at fT;obtain ⟨r,PM,It⟩:=fT;exact Yz It.symm (by rw [Sw];exact PM)
 rw [FE hg hgs hw]
 simp only [PP,if_false];exact hK _ _ _ _ (rq▸hv.step_skip hr ho hp hx hX hS hd)
end
end Go.Vm
/- A region, in the order of the text or in a drawn one. -/
namespace Go.Vm
def tc (P:Program) (prims:FuncId->Bool) (nt:Nat) (hU:Array Oper):List bD->List Oper->Bool
 | [],[]=>aeU
 |x::xs,o::os=>p5 P prims nt hU x o&&tc P prims nt hU xs os
 |_,_=>aeV
theorem zM {P:Program} {prims:FuncId->Bool} {nt:Nat} {hU:Array Oper}: ∀{xs:List bD} {os:List Oper},tc P prims nt hU xs os=aeU->
 (aeR xs)=aeR os/\ ∀(i:Nat) (x:bD) (o:Oper),xs[i]? =aeS x->os[i]? =aeS o->p5 P prims nt hU x o=aeU
 | [],[],_=>⟨rfl,fun i x o h=>by simp at h⟩
 |x::xs,o::os,h=>by
  simp only [tc,v6] at h;obtain ⟨h1,h2⟩:=zM h.2;refine ⟨by simp [h1],fun i y p hy hp=>?_⟩;cases i with
  |zero=>simp at hy hp;subst hy hp;exact h.1
  |succ i=>exact h2 i y p (by simpa using hy) (by simpa using hp)
 | [],_::_,h=>by simp [tc] at h
 |_::_,[],h=>by simp [tc] at h
def bit (m i:Nat):Bool:=Nat.testBit m i
def lX (iH:List Nat) (j:Nat):List Edge->Option Nat
 | []=>aeS 0
 |e::es=>match lX iH j es with
  |some m=>if Region.binds .any e then (if adG e.on j then aeS (m|||((iH.getD e.on 0)|||(1<<<e.on))) else aeT) else aeS m
  |none=>aeT
def te (iH:List Nat):Nat->List Nat->List Oper->Bool
 |_,[],[]=>aeU
 |j,m::ms,o::os=>(match lX iH j o.after.toList with|some m'=>m==m'|none=>aeV)&&te iH (j+1) ms os
 |_,_,_=>aeV
def tf (i : Nat) (x : bD) (ux : List Nat) : List bD -> List Nat -> Bool
  | [], _ => aeU
  | y :: ys, m :: ms => (bit m i || ((match x.dst with
      | some d => !has (aq y) d && (match y.dst with | some d' => !(AC d d') | none => aeU)
      | none => aeU) && (match y.dst with | some d => !has ux d | none => aeU))) && tf i x ux ys ms
  | _ :: _, [] => aeV
def tg:Nat->List bD->List Nat->Bool
 |_,[],_=>aeU
 |i,x::xs,_::ms=>tf i x (aq x) xs ms&&tg (i+1) xs ms
 |_,_::_,[]=>aeV
def A8 (P:Program) (prims:FuncId->Bool) (nt:Nat) (draw:Option (List Nat)) (YB:List bD) (hU:Array Oper) (flag:Bool):Bool:=
 tc P prims nt hU YB hU.toList&&match draw with
 |none=>!flag
 |some bf=>flag&&AC (aeR bf) (aeR YB)&&te bf 0 bf hU.toList&&tg 0 YB bf
section
variable {P : Program} {F : jM} {rec : Task -> Option Out} {ops : List bD} {S : Nat -> St} {X : Nat -> Option XR} {vv : Nat -> Nat -> Prop} {im0 : Im} {loc0 : Loc} {w0 : World} {nt : Nat}
  {done : Nat -> Prop} {im : Im} {loc : Loc} {a : Act} {w : World} {i : Nat} {prims : FuncId -> Bool} {hU : Array Oper}
theorem Ord.text:Ord ops S X (· < ·) where
 Ds:=fun _ _ _ _ _ h _ _ _ _=>h
 PF:=fun _ _ _ _ _ h _ _ _ _=>h
 KE:=fun _ _ _ h _ _ _=>h
 Yr:=fun _ _ _ h _ _ _=>h
 Ys:=fun _ _ _ h _ _ _ _ _ _=>h
 HV:=fun _ _ h _ _=>h
 cl:=fun _ _ _ _ _=> .inr fun _ h _=>h
theorem Dv (hE:GP P F rec) (hr:v7 F rec ops S X) (hc: ∀(i:Nat) (x:bD) (o:Oper),ops[i]? =aeS x->hU[i]? =aeS o->p5 P prims nt hU x o=aeU) (bU:(aeR ops)=hU.size)
 {Q:Exit->Act->World->Prop} (hQ: ∀im loc a w,Inv ops S X im0 loc0 w0 nt (fun i=>i<aeR ops) im loc a w->Q .normal a w):
 ∀(d n:Nat) (im:Im) (loc:Loc) (a:Act) (w:World),n+d=aeR ops->Inv ops S X im0 loc0 w0 nt (fun i=>i<n) im loc a w->wpOps P hU Q (List.range' n d) a w
 |0,n,im,loc,a,w,hn,hv=>by
  have:n=(aeR ops):=by omega
  subst this;exact hQ im loc a w hv
 |d+1,n,im,loc,a,w,hn,hv=>by
  rw [List.range'_succ,wpOps_cons];have hx:=ut (show n<(aeR ops) by omega);have ho:=ae9 (show n<hU.size by omega);refine Inv.wpOp hE hr Ord.text hv {lt:=by omega,nd:=by omega,pre:=fun j _ h=>h,ed:=fun k _ h1 j _ h2=>by omega} hx ho (hc n _ _ hx ho) fun dK ba a' w' h'=>?_
  refine Dv hE hr hc bU hQ d (n+1) dK ba a' w' (by omega) ?_;have e:plus (fun i=>i<n) n=fun i=>i<n+1:=by
   funext j;unfold plus;apply propext;omega
  rw [e] at h';exact h'
def S7 (iH:List Nat) (i j:Nat):Prop:=bit (iH.getD j 0) i=aeU
theorem ua {iH:List Nat} {j:Nat}: ∀{es:List Edge} {m:Nat},lX iH j es=aeS m->(∀e∈es,Region.binds .any e=aeU->e.on<j)/\
 ∀i,bit m i=aeU-> ∃e∈es,Region.binds .any e=aeU/\(e.on=i\/bit (iH.getD e.on 0) i=aeU)
 | [],m,h=>by simp only [lX,ww] at h;subst h;exact ⟨fun e h=>(by cases h),fun i h=>by simp [bit] at h⟩
 |e::es,m,h=>by
  simp only [lX] at h;split at h
  · rename_i m' zq
    obtain ⟨h1,h2⟩:=ua zq;split at h
    · rename_i hb
      split at h
      · rename_i cY
        injection h with h;subst h;refine ⟨fun e' AM xX=>?_,fun i hi=>?_⟩
        · rcases adD.1 AM with rfl|AM
          · simpa using cY
          exact h1 e' AM xX
        simp only [bit,Nat.testBit_or,aee] at hi
        rcases hi with hi|hi|hi
        · obtain ⟨e',AM,h3⟩:=h2 i hi
          exact ⟨e',adU _ AM,h3⟩
        · exact ⟨e,by simp,hb,.inr hi⟩
        refine ⟨e,by simp,hb,.inl ?_⟩
        rw [Nat.one_shiftLeft,Nat.testBit_two_pow] at hi;simpa using hi
      cases h
    rename_i hb
    injection h with h;subst h;refine ⟨fun e' AM xX=>?_,fun i hi=>?_⟩
    · rcases adD.1 AM with rfl|AM
      · exact absurd xX hb
      exact h1 e' AM xX
    obtain ⟨e',AM,h3⟩:=h2 i hi
    exact ⟨e',adU _ AM,h3⟩
  cases h
theorem BV {iH:List Nat}: ∀{j:Nat} {ms:List Nat} {os:List Oper},te iH j ms os=aeU->aeR ms=aeR os/\
 ∀(k:Nat) (m:Nat) (o:Oper),ms[k]? =aeS m->os[k]? =aeS o->lX iH (j+k) o.after.toList=aeS m
 |j,[],[],_=>⟨rfl,fun k m o h=>by simp at h⟩
 |j,m::ms,o::os,h=>by
  simp only [te,v6] at h;obtain ⟨h1,h2⟩:=h;obtain ⟨h3,h4⟩:=BV h2;refine ⟨by simp [h3],fun k m' o' hm ho=>?_⟩;cases k with
  |zero=>
   simp at hm ho;subst hm ho;split at h1
   · rename_i m2 Ps
     have:m=m2:=by simpa using h1
     subst this;exact Ps
   cases h1
  |succ k=>have:=h4 k m' o' (by simpa using hm) (by simpa using ho);rw [show j+(k+1)=j+1+k by omega];exact this
 |j,[],_::_,h=>by simp [te] at h
 |j,_::_,[],h=>by simp [te] at h
theorem zN {i:Nat} {x:bD} {ux:List Nat}: ∀{ys:List bD} {ms:List Nat},tf i x ux ys ms=aeU-> ∀(k:Nat) (y:bD),ys[k]? =aeS y->
 bit (ms.getD k 0) i=aeU\/((∀d,x.dst=aeS d->d∉aq y/\y.dst≠aeS d)/\ ∀d,y.dst=aeS d->d∉ux)
 | [],_,_,k,y,h=>by simp at h
 |z::ys,[],h,k,y,hy=>by simp [tf] at h
 |z::ys,m::ms,h,k,y,hy=>by
  simp only [tf,v6,aee] at h;obtain ⟨h1,h2⟩:=h;cases k with
  |succ k=>simpa using zN h2 k y (by simpa using hy)
  |zero=>
   simp at hy;subst hy;rcases h1 with h1|⟨h1,h3⟩
   · exact .inl (by simpa using h1)
   refine .inr ⟨fun d hd=>?_,fun d hd=>?_⟩
   · rw [hd] at h1
     simp only [v6,UV] at h1;refine ⟨iS.1 h1.1,fun hz=>?_⟩;rw [hz] at h1;simp at h1
   rw [hd] at h3
   simp only [UV] at h3;exact iS.1 h3
theorem v8: ∀{i0:Nat} {xs:List bD} {ms:List Nat},tg i0 xs ms=aeU-> ∀(i j:Nat) (x y:bD),i<j->xs[i]? =aeS x->xs[j]? =aeS y->
 bit (ms.getD j 0) (i0+i)=aeU\/((∀d,x.dst=aeS d->d∉aq y/\y.dst≠aeS d)/\ ∀d,y.dst=aeS d->d∉aq x)
 |i0,[],_,_,i,j,x,y,_,hx,_=>by simp at hx
 |i0,z::xs,[],h,i,j,x,y,_,hx,_=>by simp [tg] at h
 |i0,z::xs,m::ms,h,i,j,x,y,kH,hx,hy=>by
  simp only [tg,v6] at h;obtain ⟨h1,h2⟩:=h;cases j with
  |zero=>omega
  |succ j=>
   cases i with
   |zero=>simp at hx;subst hx;simpa using zN h1 j y (by simpa using hy)
   |succ i=>have:=v8 h2 i j x y (by omega) (by simpa using hx) (by simpa using hy);rw [show i0+(i+1)=i0+1+i by omega];simpa using this
theorem FF {i:Nat} {t:Tr}: ∀{l:List (Tr×Nat)},Gv i t l=aeU-> ∀(k:Nat) (b:Tr) (m:Nat),l[k]? =aeS (b,m)->t.sZ b=aeU->bit m i=aeU
 | [],_,k,b,m,h,_=>by simp at h
 |(b',m')::r,h,k,b,m,hk,hc=>by
  simp only [Gv,v6,aee,UV] at h;cases k with
  |zero=>
   simp at hk;obtain ⟨rfl,rfl⟩:=hk;rcases h.1 with h1|h1
   · rw [hc] at h1;cases h1
   exact h1
  |succ k=>exact FF h.2 k b m (by simpa using hk) hc
theorem Dw: ∀{i0:Nat} {l:List (Tr×Nat)},pY i0 l=aeU->(∀(i:Nat) (t:Tr) (m:Nat),l[i]? =aeS (t,m)->t.cl=aeU)/\
 ∀(i j:Nat) (t b:Tr) (m m':Nat),i<j->l[i]? =aeS (t,m)->l[j]? =aeS (b,m')->t.sZ b=aeU->bit m' (i0+i)=aeU
 |_,[],_=>⟨fun i t m h=>by simp at h,fun i j t b m m' _ h=>by simp at h⟩
 |i0,(t0,m0)::r,h=>by
  simp only [pY,v6] at h;obtain ⟨⟨h1,h2⟩,h3⟩:=h;obtain ⟨h4,h5⟩:=Dw h3;refine ⟨fun i t m hi=>?_,fun i j t b m m' kH hi hj hc=>?_⟩
  · cases i with
    |zero=>simp at hi;obtain ⟨rfl,rfl⟩:=hi;exact h1
    |succ i=>exact h4 i t m (by simpa using hi)
  cases j with
  |zero=>omega
  |succ j=>
   cases i with
   |zero=>simp at hi;obtain ⟨rfl,rfl⟩:=hi;exact FF h2 j b m' (by simpa using hj) hc
   |succ i=>rw [show i0+(i+1)=i0+1+i by omega];exact h5 i j t b m m' (by omega) (by simpa using hi) (by simpa using hj) hc
theorem Dx {l m:List Nat} {t:Nat} (h1:t∈l) (h2:t∈m):meets l m=aeU:=by unfold meets;rw [aeE];exact ⟨t,h1,ox.2 h2⟩
theorem Ord.drawn (hr : v7 F rec ops S X) {iH : List Nat} (xS : (aeR iH) = (aeR ops)) (hs : tg 0 ops iH = aeU) (ho : pY 0 ((yb S X (aeR ops)).zip iH) = aeU) : Ord ops S X (S7 iH) := by
  obtain ⟨Fx, hcz⟩ := Dw ho
  have Cq : ∀ i, i < (aeR ops) -> ((yb S X (aeR ops)).zip iH)[i]? = aeS (xT (X i) (S i), iH.getD i 0) := by
    intro i hi
    rw [List.getElem?_zip_eq_some]
    refine ⟨?_, ?_⟩
    · unfold yb; simp [hi]
    rw [adZ, ut (by omega)]; rfl
  have sZ : ∀ i j, i < j -> j < (aeR ops) -> (xT (X i) (S i)).sZ (xT (X j) (S j)) = aeU -> S7 iH i j := by
    intro i j kH hj hc
    have := hcz i j _ _ _ _ kH (Cq i (by omega)) (Cq j hj) hc
    unfold S7; simpa using this
  have tch : ∀ j, fY X j -> (xT (X j) (S j)).fY = aeU := by
    intro j h
    unfold fY at h
    unfold xT
    cases hX : X j with
    | none => rw [hX] at h; exact h.elim
    | some x =>
      rw [hX] at h
      cases x with
      | shr v s z => rfl
      | loc r =>
        simp only [XR.tr, Tr.fY, Bool.or_false]
        rcases h with h | h | h | h
        · cases Fb : r.rd with
          | nil => exact absurd Fb h
          | cons _ _ => simp
        · cases Fb : r.fr with
          | nil => exact absurd Fb h
          | cons _ _ => simp
        · cases Fb : r.wr with
          | nil => exact absurd Fb h
          | cons _ _ => simp
        cases Fb : r.news with
        | nil => exact absurd Fb h
        | cons _ _ => simp
  have brr : ∀ j, pR X j -> (xT (X j) (S j)).HV = aeU := by
    rintro j ⟨v, s, z, h⟩; rw [h]; rfl
  have tW : ∀ j t, W X j t -> fY X j := fun j t h => tY h
  have tA : ∀ j t, A X j t -> fY X j := by
    intro j t h
    unfold A at h; unfold fY
    cases hX : X j with
    | none => rw [hX] at h; exact h.elim
    | some x =>
      rw [hX] at h
      cases x with
      | shr v s z => exact h.elim
      | loc r =>
        rcases h with h | h
        · exact .inl (by intro e; rw [e] at h; cases h)
        exact .inr (.inl (by intro e; rw [e] at h; cases h))
  have HV : ∀ i j, i < j -> j < (aeR ops) -> (pR X i /\ fY X j \/ fY X i /\ pR X j) -> S7 iH i j := by
    intro i j kH hj h
    refine sZ i j kH hj ?_
    unfold Tr.sZ
    rcases h with ⟨h1, h2⟩ | ⟨h1, h2⟩
    · rw [brr i h1, tch j h2]; simp
    rw [brr j h2, tch i h1]; simp
  have wrT : ∀ j t, W X j t -> ¬ pR X j -> t ∈ (xT (X j) (S j)).wr := by
    intro j t h hn
    unfold W at h
    cases hX : X j with
    | none => rw [hX] at h; exact h.elim
    | some x =>
      rw [hX] at h
      cases x with
      | shr v s z => exact absurd ⟨v, s, z, hX⟩ hn
      | loc r =>
        obtain ⟨k, hk⟩ := h
        exact List.mem_map.2 ⟨(t, k), hk, rfl⟩
  have rdT : ∀ j t, A X j t -> t ∈ (xT (X j) (S j)).rd := by
    intro j t h
    unfold A at h
    cases hX : X j with
    | none => rw [hX] at h; exact h.elim
    | some x =>
      rw [hX] at h
      cases x with
      | shr v s z => exact h.elim
      | loc r => exact ad6.2 h
  exact {
    Ds := fun i j t x y kH hx hy hd hu => by
      rcases v8 hs i j x y kH hx hy with h | ⟨h, _⟩
      · unfold S7; simpa using h
      rcases hu with hu | hu
      · exact absurd hu (h t hd).1
      exact absurd hu (h t hd).2
    PF := fun i j t x y kH hx hy hd hu => by
      rcases v8 hs i j x y kH hx hy with h | ⟨_, h⟩
      · unfold S7; simpa using h
      exact absurd hu (h t hd)
    KE := fun i j t kH hj hW hAW => by
      by_cases hi : pR X i
      · exact HV i j kH hj (.inl ⟨hi, hAW.elim (tA j t) (tW j t)⟩)
      by_cases NI : pR X j
      · exact HV i j kH hj (.inr ⟨tW i t hW, NI⟩)
      refine sZ i j kH hj ?_
      unfold Tr.sZ
      rcases hAW with h | h
      · rw [Dx (wrT i t hW hi) (rdT j t h)]; simp
      rw [Dx (wrT i t hW hi) (wrT j t h NI)]; simp
    Yr := fun i j t kH hj hA hW => by
      by_cases NI : pR X j
      · exact HV i j kH hj (.inr ⟨tA i t hA, NI⟩)
      refine sZ i j kH hj ?_
      unfold Tr.sZ
      rw [Dx (rdT i t hA) (wrT j t hW NI)]; simp
    Ys := fun i j t kH hj S0 h1 h2 NI hW => by
      refine sZ i j kH hj ?_
      unfold Tr.sZ
      have : ((xT (X j) (S j)).wr.any fun t => ad2 (xT (X i) (S i)).lo t && adG t (xT (X i) (S i)).hi) = aeU := by
        rw [aeE]
        refine ⟨t, wrT j t hW NI, ?_⟩
        rcases hr.steps i _ (ut (show i < (aeR ops) by omega)) with ⟨_, x, hx, _, hX, hn⟩ | ⟨_, hX, hn⟩
        · cases x with
          | shr v s z => exact absurd ⟨v, s, z, hX⟩ S0
          | loc r =>
            rw [hn, tZ] at h2
            rw [hX]
            simp only [xT, XR.tr, v6, adY]
            exact ⟨h1, by simpa using h2⟩
        rw [hn] at h2; dsimp only at h2; omega
      rw [this]; simp
    HV := HV
    cl := fun i t hi S0 hAW => by
      left
      have hc := Fx i _ _ (Cq i hi)
      cases hX : X i with
      | none => rcases hAW with h | h
                · unfold A at h; rw [hX] at h; exact h.elim
                unfold W at h; rw [hX] at h; exact h.elim
      | some x =>
        cases x with
        | shr v s z => exact absurd ⟨v, s, z, hX⟩ S0
        | loc r =>
          have hb : ∀ u v : Nat, adG u v = aeU -> u < v := fun u v h => by simpa using h
          rw [hX] at hc
          simp only [xT, XR.tr, v6, ad7] at hc
          rcases hAW with h | h
          · unfold A at h; rw [hX] at h
            exact hb _ _ (hc.1 t (ad6.2 h))
          unfold W at h; rw [hX] at h
          obtain ⟨k, hk⟩ := h
          exact hb _ _ (hc.2 (t, k) hk) }
end
end Go.Vm
/- A region: the theorem. -/
namespace Go.Vm
section
variable {P : Program} {F : jM} {rec : Task -> Option Out} {ops : List bD} {S : Nat -> St} {X : Nat -> Option XR} {im0 : Im} {loc0 : Loc} {w0 : World} {nt : Nat}
  {im : Im} {loc : Loc} {a : Act} {w : World} {i : Nat} {prims : FuncId -> Bool} {hU : Array Oper} {iH : List Nat}
def jj (l:Array Bool) (i:Nat):Prop:=l.getD i aeV=aeU
theorem Iu (hE:GP P F rec) (hr:v7 F rec ops S X) (ho:Ord ops S X (S7 iH)) (hc: ∀(i:Nat) (x:bD) (o:Oper),ops[i]? =aeS x->hU[i]? =aeS o->p5 P prims nt hU x o=aeU) (bU:(aeR ops)=hU.size)
 (hm: ∀(k:Nat) (o:Oper),hU[k]? =aeS o->lX iH k o.after.toList=aeS (iH.getD k 0))
 {Q:Exit->Act->World->Prop} (hQ: ∀im loc a w (done:Nat->Prop),(∀i,i<aeR ops->done i)->Inv ops S X im0 loc0 w0 nt done im loc a w->Q .normal a w):
 ∀(yK:Nat) (l:Array Bool) (im:Im) (loc:Loc) (a:Act) (w:World),l.size=aeR ops->yK+l.toList.count aeU=aeR ops->(∀k j,jj l k->S7 iH j k->jj l j)->
  Inv ops S X im0 loc0 w0 nt (jj l) im loc a w->wpAny P .any hU Q yK l a w:=by
 have full: ∀l:Array Bool,l.size=aeR ops->Region.ready .any hU l=[]-> ∀i,i<aeR ops->jj l i:=by
  intro l hl vV i
  induction i using Nat.strongRecOn with
  |_ i ih=>
   intro hi
   by_cases h:jj l i
   · exact h
   exfalso
   have xR:i∈Region.ready .any hU l:=by
    rw [mem_ready];have ho:=ae9 (show i<hU.size by omega);refine ⟨?_,_,ho,fun e he hb=>?_⟩
    · unfold jj at h
      have cY:i<l.size:=by omega
      simp [cY] at h ⊢;exact h
    have:=(ua (hm i _ ho)).1 e (by simpa using he) hb
    exact ih e.on this (by omega)
   rw [vV] at xR;cases xR
 intro yK
 induction yK with
 |zero=>
  intro l im loc a w hl aeX S8 hv;have p4: ∀b∈l.toList,aeU=b:=by
   have:l.toList.count aeU=(aeR l.toList):=by simp only [Array.length_toList];omega
   exact List.count_eq_length.1 this
  have Mj: ∀i,i<aeR ops->jj l i:=by
   intro i hi;have cY:i<l.size:=by omega
   have:=p4 (l[i]) (by simp);unfold jj;simp [cY,<- this]
  refine ⟨?_,hQ im loc a w _ Mj hv⟩;cases Fb:Region.ready .any hU l with
  |nil=>rfl
  |cons x xs=>
   exfalso;have xR:x∈Region.ready .any hU l:=by rw [Fb];simp
   obtain ⟨h0,o,hox,_⟩:=mem_ready.1 xR;have cY:=(NE.1 hox).1;have:=Mj x (by omega);unfold jj at this;have Iv:x<l.size:=by omega
   simp [Iv] at this h0;rw [this] at h0;cases h0
 |succ yK ih=>
  intro l im loc a w hl aeX S8 hv;refine ⟨fun vV=>hQ im loc a w _ (full l hl vV) hv,fun i hi=>?_⟩;obtain ⟨h0,o,hox,p4⟩:=mem_ready.1 hi;have cY:=(NE.1 hox).1;have Iv:i<l.size:=by omega
  have hx:=ut (show i<(aeR ops) by omega);have Fh: ∀j,S7 iH j i->jj l j:=by
   intro j hj;obtain ⟨e,he,hb,h⟩:=(ua (hm i o hox)).2 j hj;have jZ:jj l e.on:=p4 e (by simpa using he) hb;rcases h with rfl|h
   · exact jZ
   exact S8 _ _ jZ h
  have E7: ¬jj l i:=by unfold jj;simp [Iv] at h0 ⊢;exact h0
  refine Inv.wpOp hE hr ho hv {lt:=by omega,nd:=E7,pre:=fun j _ h=>Fh j h,ed:=fun k _ h1 j _ h2=>S8 k j h1 h2} hx hox (hc i _ _ hx hox) fun dK ba a' w' h'=>?_
  have e:plus (jj l) i=jj (l.setIfInBounds i aeU):=by
   funext j
   apply propext;unfold plus jj
   by_cases kH:i=j
   · subst kH;simp [Iv]
   simp only [getD_set_ne aeV kH]
   exact ⟨fun h=>h.elim id fun h=>absurd h.symm kH,.inl⟩
  rw [e] at h';refine ih _ dK ba a' w' (by simpa using hl) ?_ ?_ h'
  · rw [Array.toList_setIfInBounds,List.count_set (by simpa using Iv)]
    have:l.toList[i]=aeV:=by simp [Iv] at h0;simpa using h0
    rw [this];simp only [Array.count_toList] at aeX ⊢;simp;omega
  intro k j hk hj
  rw [<- e] at hk ⊢;rcases hk with hk|rfl
  · exact .inl (S8 k j hk hj)
  exact .inl (Fh j hj)
theorem ER.fc {st:Env} {fc:List Nat} (h:ER im loc st a.tmps):ER im loc (fc.map fun s=>(s,lk s st)) a.tmps:=by
 intro t;have:lk t (fc.map fun s=>(s,lk s st))=lk t st\/lk t (fc.map fun s=>(s,lk s st))= .undef:=by
  induction fc with
  |nil=>exact .inr rfl
  |cons s r ih=>
   simp only [List.map_cons,pZ];split
   · rename_i e;subst e;exact .inl rfl
   exact ih
 rcases this with h'|h'
 · rw [h'];exact h t
 rw [h'];exact .undef _
structure vf (im:Im) (loc:Loc) (nt:Nat) (st:St) (a:Act):Prop where
 env:ER im loc st.env a.tmps
 defers:a.defers=[]
 Kj:a.tmps.size=nt
theorem Kept.world {iv : bS} {st : St} {w1 : World} (h : Kept im0 loc0 iv w1 st im loc w) (hh : w1.heap = w0.heap) (ho : w1.os = w0.os) (ht : Tape w0 w1) (hp : w1.output = w0.output) : Kept im0 loc0 iv w0 st im loc w :=
  { sr := h.sr, fD := h.fD, dp := h.dp, os := h.os.trans ho, tape := h.tape.trans ht, output := h.output.trans hp, size := by have := h.size; rw [hh] at this; exact this
    frame := by have := h.frame; rw [hh] at this; exact this
    dy := by have := h.dy; rw [hh] at this; exact this
    lH := h.lH
    own := by have := h.own; rw [hh] at this; exact this }
theorem SR.world {az:bS} {fz:List Nat} {w1:World} (h:SR im loc az fz w) (hh:w1.heap=w.heap):SR im loc az fz w1 where
 bu:=by rw [hh];exact h.bu
 cX:=fun t li hl=>let ⟨k,h1,h2⟩:=h.cX t li hl;⟨k,h1,h2.mono (.refl _) (.refl _) (by rw [hh])⟩
 gQ:=h.gQ
 free:=h.free
theorem KG (hE:GP P F rec) (nG:P.follows .mixedOrders=aeU) {draw:Option (List Nat)} {fc:List Nat} {id:Nat} {flag:Bool} {st jE:St}
 (hc:A8 P prims nt draw ops hU flag=aeU) (fT:j0 F rec draw ops fc st=aeS jE) (jt:SR im0 loc0 st.az st.fz w0) (ha:vf im0 loc0 nt st a) {Q:Exit->Act->World->Prop}
 (hQ: ∀im loc a' w',Kept im0 loc0 st.az w0 jE im loc w'->vf im loc nt jE a'->Q .normal a' w'):(Code.region id hU flag).wp P Q a w0:=by
 unfold A8 at hc;simp only [v6] at hc;obtain ⟨NL,hd⟩:=hc;obtain ⟨bU,S9⟩:=zM NL;have bU:(aeR ops)=hU.size:=by simpa using bU
 have S9: ∀(i:Nat) (x:bD) (o:Oper),ops[i]? =aeS x->hU[i]? =aeS o->p5 P prims nt hU x o=aeU:=fun i x o hx ho=>S9 i x o hx (by simpa using ho)
 unfold j0 at fT;cases he:k7 F rec ops st [] with
 |none=>rw [he] at fT;cases fT
 |some q=>
  obtain ⟨st1,tr⟩:=q;rw [he] at fT;dsimp only at fT;obtain ⟨S,X,h0,hn,hr,htr⟩:=A6 ops st [] st1 tr he;have fin: ∀(w1:World),w1.heap=w0.heap->w1.os=w0.os->Tape w0 w1->w1.output=w0.output->jE={st1 with env:=fc.map fun s=>(s,lk s st1.env)}-> ∀im loc a' w' (done:Nat->Prop),(∀i,i<aeR ops->done i)->
   Inv ops S X im0 loc0 w1 nt done im loc a' w'->Q .normal a' w':=by
   intro w1 q1 q2 q3 q4 bK im loc a' w' done hdn hv;obtain ⟨hk,her,hdf,hns⟩:=hv.finish hr hdn;rw [hn] at hk her;rw [h0] at hk;subst bK;have hk:=hk.world q1 q2 q3 q4;exact hQ im loc a' w' {sr:=hk.sr,fD:=hk.fD,dp:=hk.dp,os:=hk.os,tape:=hk.tape,output:=hk.output,size:=hk.size,frame:=hk.frame,dy:=hk.dy,lH:=hk.lH,own:=hk.own} ⟨her.fc,hdf,hns⟩
  cases draw with
  |none=>
   dsimp only at hd fT;have:flag=aeV:=by simpa using hd
   subst this;injection fT with fT;refine wp_region ?_;rw [List.range_eq_range'];refine Dv hE hr S9 bU (fun im loc a w hv=>fin w0 rfl rfl (.refl _) rfl fT.symm im loc a w _ (fun i h=>h) hv) hU.size 0 im0 loc0 a w0 (by omega) ?_;have:=Inv.start (ops:=ops) (X:=X) (w0:=w0) h0 jt ha.env ha.defers ha.Kj hr;have e:(fun _:Nat=>False)=fun i=>i<0:=by funext i;apply propext;exact ⟨fun h=>h.elim,fun h=>by omega⟩
   rw [e] at this;exact this
  |some bf=>
   dsimp only at hd fT;simp only [v6] at hd;obtain ⟨⟨⟨rfl,NM⟩,hmk⟩,Sv⟩:=hd;have NM:(aeR bf)=(aeR ops):=by simpa using NM
   split at fT
   · rename_i O1
     injection fT with fT;have aiE:tr.reverse=yb S X (aeR ops):=by rw [htr];simp
     rw [aiE] at O1;obtain ⟨_,hmk⟩:=BV hmk;refine wp_region_any nG ?_;refine Iu (w0:={w0 with drawn:=w0.drawn+1}) (im0:=im0) (loc0:=loc0) hE hr (Ord.drawn hr NM Sv O1) S9 bU ?_ (fun im loc a w done hdn hv=>fin {w0 with drawn:=w0.drawn+1} rfl rfl ⟨rfl,Nat.le_succ _⟩ rfl fT.symm im loc a w done hdn hv) hU.size _ im0 loc0 a _ (by simp [bU]) ?_ ?_ ?_
     · intro k o ho
       have cY:=(NE.1 ho).1;have hk:bf[k]? =aeS (bf.getD k 0):=by rw [adZ,ut (by omega)];rfl
       simpa using hmk k _ o hk (by simpa using ho)
     · simp [bU,List.count_replicate]
     · intro k j h
       unfold jj at h
       by_cases hk:k<hU.size<;>simp [hk] at h
     have:=Inv.start (ops:=ops) (X:=X) (w0:={w0 with drawn:=w0.drawn+1}) h0 (jt.world rfl) ha.env ha.defers ha.Kj hr
     have e:(fun _:Nat=>False)=jj (adu hU.size aeV):=by
      funext i;apply propext
      unfold jj
      by_cases hk:i<hU.size<;>simp [hk]
     rw [e] at this;exact this
   cases fT
end
end Go.Vm
/- What a function keeps from its beginning on; the head of a loop. -/
namespace Go.Vm
theorem Kept.trans {im0 CI CJ:Im} {loc0 cL pI:Loc} {iv:bS} {w0 w1 w2:World} {st1 st2:St} (h1:Kept im0 loc0 iv w0 st1 CI cL w1) (h2:Kept CI cL st1.az w1 st2 CJ pI w2) (hl:(aeR iv)<=aeR st1.az):
 Kept im0 loc0 iv w0 st2 CJ pI w2 where
 sr:=h2.sr
 fD:=h1.fD.trans h2.fD
 dp:=h1.dp.trans h2.dp
 os:=h2.os.trans h1.os
 tape:=h2.tape.trans h1.tape
 output:=h2.output.trans h1.output
 size:=ad0 h1.size h2.size
 frame:=fun b hb hh=>by
  rw [h2.frame b (adz hb h1.size) fun t li k hl hs kJ Ij=>?_]
  · exact h1.frame b hb hh
  rcases h1.own t li k hl hs kJ with h|⟨u,lu,ku,g1,g2,g3,g4⟩
  · omega
  exact hh u lu ku g1 g2 g3 (by omega)
 dy:=fun b o hb=>by
  rcases h2.dy b o hb with h|h|⟨t,li,k,g1,g2,g3,g4⟩
  · exact h1.dy b o h
  · exact .inr (.inl (ad0 h1.size h))
  rcases h1.own t li k g1 g2 g3 with h|⟨u,lu,ku,k1,k2,k3,k4⟩
  · exact .inr (.inl (by omega))
  exact .inr (.inr ⟨u,lu,ku,k1,k2,k3,by omega⟩)
 lH:=fun t li h=>by
  rcases h2.lH t li h with h|h
  · exact h1.lH t li h
  exact .inr (ad0 hl h)
 own:=fun t li k hl hs kJ=>by
  rcases h2.own t li k hl hs kJ with h|⟨u,lu,ku,g1,g2,g3,g4⟩
  · exact .inl (ad0 h1.size h)
  rcases h1.own u lu ku g1 g2 g3 with h|⟨u',lu',ku',k1,k2,k3,k4⟩
  · exact .inl (by omega)
  exact .inr ⟨u',lu',ku',k1,k2,k3,by omega⟩
structure yc (im0:Im) (loc0:Loc) (iv:bS) (w0:World) (st:St) (im:Im) (loc:Loc) (w:World):Prop where
 kept:Kept im0 loc0 iv w0 st im loc w
 kn:st.kn=aeR iv
 len:(aeR iv)<=aeR st.az
 dom: ∀t li,loc0 t=aeS li->t<aeR iv
theorem Dy {F:jM} {rec:Task->Option Out}: ∀(ops:List bD) (st:St) (tr:List Tr) (jE:St) (NJ:List Tr),k7 F rec ops st tr=aeS (jE,NJ)->jE.kn=st.kn
 | [],st,tr,jE,NJ,h=>by simp only [k7,ww,IR] at h;rw [h.1]
 |o::l,st,tr,jE,NJ,h=>by
  simp only [k7] at h;split at h
  · split at h
    · rename_i x hx
      split at h
      · have:=Dy l _ _ jE NJ h
        rw [this];cases x<;>rfl
      cases h
    cases h
  · have:=Dy l _ _ jE NJ h
    exact this
  cases h
theorem GQ {F:jM} {rec:Task->Option Out} {draw:Option (List Nat)} {ops:List bD} {fc:List Nat} {st jE:St} (h:j0 F rec draw ops fc st=aeS jE):jE.kn=st.kn/\aeR st.az<=(aeR jE.az):=by
 unfold j0 at h;cases he:k7 F rec ops st [] with
 |none=>rw [he] at h;cases h
 |some q=>
  obtain ⟨st1,tr⟩:=q;rw [he] at h;dsimp only at h;obtain ⟨S,X,h0,hn,hr,_⟩:=A6 ops st [] st1 tr he;have h1:=Dy ops st [] st1 tr he;have h2:=hr.gC (ad5 (aeR ops)) (If _);rw [h0,hn] at h2;cases draw with
  |none=>dsimp only at h;injection h with h;subst h;exact ⟨h1,h2⟩
  |some bf=>
   dsimp only at h;split at h
   · injection h with h;subst h;exact ⟨h1,h2⟩
   cases h
section
variable {im : Im} {loc cL : Loc} {m : List Nat}
theorem Iw {fz:List Nat}: ∀{l:List Nat} {i0 u t:Nat},l[u]? =aeS t->(i0+u)∉vI fz i0 l->t∉fz
 | [],i0,u,t,h,_=>by simp at h
 |s::r,i0,u,t,h,hn=>by
  simp only [vI] at hn;cases u with
  |zero=>simp at h;subst h;intro hf;rw [rc (ox.2 hf)] at hn;exact hn (by simp)
  |succ u=>
   refine Iw (l:=r) (i0:=i0+1) (u:=u) (by simpa using h) fun xR=>?_
   rw [show i0+(u+1)=i0+1+u by omega] at hn;split at hn
   · exact hn (adU _ xR)
   exact hn xR
theorem Dz {az:bS}: ∀{n:Nat} {ts seen:List Nat} {m:List Nat},reach az n ts seen=aeS m->(∃l,m=seen++l)/\(seen.Nodup->m.Nodup)
 |_,[],seen,m,h=>by
  have h:aeS seen=aeS m:=by rw [<- h];unfold reach;cases ‹Nat› <;>rfl
  injection h with h;subst h;exact ⟨⟨[],by simp⟩,id⟩
 |0,_::_,seen,m,h=>by simp [reach] at h
 |n+1,t::ts,seen,m,h=>by
  simp only [reach] at h;split at h
  · exact Dz h
  rename_i hn
  split at h
  · obtain ⟨⟨l,hl⟩,h2⟩:=Dz h
    refine ⟨⟨t::l,by rw [hl];simp⟩,fun hd=>h2 ?_⟩;rw [aeB];refine ⟨hd,by simp,fun a ha b hb=>?_⟩;have:b=t:=by simpa using hb
    subst this;intro e;subst e;exact hn (ox.2 ha)
  cases h
theorem Ix: ∀{n i:Nat},i<n->(sY n)[i]? =aeS i
 |n+1,i,h=>by
  have hl: ∀n,(sY n).length=n:=by
   intro n;induction n with
   |zero=>rfl
   |succ n ih=>simp [sY,ih]
  simp only [sY];rcases ad4 i n with h'|h'
  · rw [M2 (by rw [hl];exact h')];exact Ix h'
  rw [acl (by rw [hl];exact h'),hl]
  have:i=n:=by omega
  subst this;simp
theorem Iy: ∀{n i:Nat},i∈sY n->i<n
 |n+1,i,h=>by
  simp only [sY,ad6,ad9] at h;rcases h with h|h
  · have:=Iy h;omega
  omega
theorem DA: ∀n,(sY n).Nodup
 |0=>by simp [sY]
 |n+1=>by
  simp only [sY];rw [aeB];refine ⟨DA n,by simp,fun a ha b hb=>?_⟩;have:=Iy ha;have:b=n:=by simpa using hb
  omega
end
end Go.Vm
/- The head of a loop. -/
namespace Go.Vm
def NN (s2:bS):Prop:= ∀(j:Nat) (k:jc),s2[j]? =aeS k-> ∃e,k= .arr e []
theorem VR.Fs {im:Im} {loc:Loc} {x:PV} {u:Value} (h:VR im loc x u): ∀k:Option Nat,VR im loc (Fs k x) u
 |none=>h
 |some _=>by
  cases h with
  |own t esz off len cap ex li a cw hl he hn hc hx hk h=>exact .own t esz off len cap aeV li a cw hl he hn hc hx (fun h=>by cases h) h
  |undef=>exact .undef _
  |iI=>exact .iI
  |int k n=>exact .int k n
  |bool b=>exact .bool b
  |str s=>exact .str s
  |agg cs vs h=>exact .agg cs vs h
  |bT cs vs h=>exact .bT cs vs h
  |sl e c r a cap h1 h2 h3=>exact .sl e c r a cap h1 h2 h3
  |ptr t e r o li h1 h2 h3=>exact .ptr t e r o li h1 h2 h3
  |bw cs off b o vs h hv=>exact .bw cs off b o vs h hv
  |mp t li hl=>exact .mp t li hl
  |ed fn a b as bs ha hb=>exact .ed fn a b as bs ha hb
  |dv=>exact .dv
theorem yL {im:Im} {loc cL:Loc} {m:List Nat} {e:Env} {tmps:Array Value} (hm:Ren m loc cL) (he:ER im loc e tmps): ∀{live:List (Nat×Option Nat)} {nx:Nat} {e1:Env} {s2:bS},pV e m nx live=aeS (e1,s2)->
 NN s2/\((∀(j:Nat) (esz:Nat),s2[j]? =aeS (.arr esz [])->cL (nx+j)=aeS ⟨0,0,esz,0,0⟩)->ER im cL e1 tmps)
 | [],nx,e1,s2,h=>by simp only [pV,ww,IR] at h;obtain ⟨rfl,rfl⟩:=h;exact ⟨fun j k h=>by simp at h,fun _ t=> .undef _⟩
 |(s,k)::r,nx,e1,s2,h=>by
  have hs:=he s;simp only [pV] at h;split at h
  · rename_i esz e' sC
    rw [Do] at h;obtain ⟨⟨e2,s3⟩,h1,h2⟩:=h;simp only [IR] at h2;obtain ⟨rfl,rfl⟩:=h2;obtain ⟨g1,g2⟩:=yL hm he h1;refine ⟨fun j k hj=>?_,fun hl t=>?_⟩
    · cases j with
      |zero=>simp at hj;exact ⟨_,hj.symm⟩
      |succ j=>exact g1 j k (by simpa using hj)
    rw [pZ]
    split
    · rename_i e;subst e
      rw [sC] at hs;generalize hg:tmps.getD s Go.undef=v at hs;cases hs with
      |sl _ _ _ a cap h1 h2 h3=>
      have:cap=0:=by simpa using h2 rfl
      subst this;exact .own nx esz 0 0 0 aeV ⟨0,0,esz,0,0⟩ a 0 (by simpa using hl 0 esz rfl) rfl (If _) (If _) (If _) (fun h=>by cases h) (.inl rfl)
    refine g2 (fun j aiF hj=>?_) t
    have:=hl (j+1) aiF (by simpa using hj);rw [show nx+1+j=nx+(j+1) by omega];exact this
  split at h
  · rename_i v' p h1 h2
    injection h with h;simp only [IR] at h;obtain ⟨rfl,rfl⟩:=h;obtain ⟨g1,g2⟩:=yL hm he (e1:=p.1) (s2:=p.2) h2;refine ⟨g1,fun hl t=>?_⟩;rw [pZ];split
    · rename_i e;subst e
      exact (O9 hm hs h1).Fs _
    exact g2 hl t
  cases h
theorem eo.setAt {im:Im} {loc:Loc} {x:PV}: ∀{xs:List PV} {vs:List Value} {c:Nat} {y:PV},eo im loc xs vs->xs[c]? =aeS y->(∀v,VR im loc y v->VR im loc x v)->eo im loc (xs.set c x) vs
 | [],_,c,y,h,hc,_=>by simp at hc
 |z::zs,vs,c,y,h,hc,hx=>by
  cases h with
  |cons _ v _ us g1 g2=>
   cases c with
   |zero=>simp at hc;subst hc;exact .cons _ _ _ _ (hx v g1) g2
   |succ c=>exact .cons _ _ _ _ g1 (eo.setAt g2 (by simpa using hc) hx)
theorem KH {im0 im:Im} {loc0 loc:Loc} {iv:bS} {w0 w:World} {nt:Nat} {st:St} {a:Act} (t c esz:Nat) (hk:yc im0 loc0 iv w0 st im loc w) (ha:vf im loc nt st a):
 ∃cL,yc im0 loc0 iv w0 (pW st t c esz) im cL w/\vf im cL nt (pW st t c esz) a:=by
 unfold pW;split
 · rename_i cs hb
   split
   · rename_i e hc
     have sr:=hk.kept.sr;have aeY: ∀u li,loc u=aeS li->u<(aeR st.az):=fun u li h=>by obtain ⟨k,h1,_⟩:=sr.cX u li h;exact bY h1
     have hn:loc (aeR st.az)=aeT:=by
      cases h:loc (aeR st.az) with
      |none=>rfl
      |some li=>exact absurd (aeY _ _ h) (Nat.lt_irrefl _)
     let cL:Loc:=fun u=>if u=(aeR st.az) then aeS ⟨0,0,esz,0,0⟩ else loc u
     have jZ:kT loc cL:=fun u li h=>by have:=aeY u li h;simp only [cL,show u≠(aeR st.az) by omega,if_false];exact h
     have back: ∀u li,cL u=aeS li->u≠aeR st.az->loc u=aeS li:=fun u li h hu=>by simpa only [cL,hu,if_false] using h
     have NO:t<(aeR st.az):=bY hb;have get: ∀u,u<aeR st.az->(st.az.set t (.box (cs.set c (.own (aeR st.az) esz 0 0 0 aeV)))++[.arr esz []])[u]? =if t=u then aeS (.box (cs.set c (.own (aeR st.az) esz 0 0 0 aeV))) else st.az[u]?:=fun u hu=>by
      rw [M2 (by simpa using hu),aeC];split
      · rename_i e;subst e;simp
      rfl
     have aeZ:(st.az.set t (.box (cs.set c (.own (aeR st.az) esz 0 0 0 aeV)))++[.arr esz []])[aeR st.az]? =aeS (.arr esz []):=by rw [acl (by simp)];simp
     have bA: ∀(u:Nat) (k:jc),(st.az.set t (.box (cs.set c (.own (aeR st.az) esz 0 0 0 aeV)))++[.arr esz []])[u]? =aeS k->k.bA=aeU->u≠aeR st.az/\ ∃k0:jc,st.az[u]? =aeS k0/\k0.bA=aeU:=by
      intro u k hu hs;have cY:=bY hu;simp only [adA,aeH,List.length_singleton] at cY;have dC:u≠(aeR st.az):=by intro e;subst e;rw [aeZ] at hu;injection hu with hu;subst hu;cases hs
      refine ⟨dC,?_⟩;rw [get u (by omega)] at hu;split at hu
      · rename_i e;subst e;exact ⟨_,hb,rfl⟩
      exact ⟨k,hu,hs⟩
     refine ⟨cL,⟨⟨?_,hk.kept.fD,hk.kept.dp.trans jZ,hk.kept.os,hk.kept.tape,hk.kept.output,hk.kept.size,hk.kept.frame,hk.kept.dy,fun u li h=>?_,fun u li k h hs kJ=>?_⟩,hk.kn,?_,hk.dom⟩,⟨ha.env.mono (mF.refl _) jZ,ha.defers,ha.Kj⟩⟩
     · refine {
        bu:=sr.bu
        cX:=fun u li hl=>?_
        gQ:=fun u u' li lj k k' hl jU hs s6 kJ FC hbk=>?_
        free:=fun u li k hl hs kJ hz=>?_}
       · by_cases hu:u=aeR st.az
         · subst hu
           simp only [cL,if_true] at hl;injection hl with hl;subst hl;exact ⟨_,aeZ,rfl,rfl,fun h=>absurd rfl h⟩
         have HM:=back u li hl hu
         obtain ⟨k,h1,h2⟩:=sr.cX u li HM;show∃k,(st.az.set t (.box (cs.set c (.own (aeR st.az) esz 0 0 0 aeV)))++[.arr esz []])[u]? =aeS k/\BR im cL w li k;rw [get u (bY h1)];split
         · rename_i et;subst et
           rw [hb] at h1;injection h1 with h1;subst h1;obtain ⟨g1,g2,g3,vs,el,g4,g5,g6⟩:=h2;refine ⟨_,rfl,by simpa using g1,g2,g3,vs,el,g4,g5,(g6.mono (mF.refl _) jZ).setAt hc fun v hv=>?_⟩;cases hv with
           |sl _ _ _ a' cap h1 h2 h3=>
           have:cap=0:=by simpa using h2 rfl
           subst this;exact .own _ esz 0 0 0 aeV ⟨0,0,esz,0,0⟩ a' 0 (by simp only [cL,if_true]) rfl (If _) (If _) (If _) (fun h=>by cases h) (.inl rfl)
         exact ⟨k,h1,h2.mono (mF.refl _) jZ rfl⟩
       · obtain ⟨n1,k0,g1,g2⟩:=bA u k hs kJ
         obtain ⟨n2,k0',g1',Xq⟩:=bA u' k' s6 FC;exact sr.gQ u u' li lj k0 k0' (back _ _ hl n1) (back _ _ jU n2) g1 g1' g2 Xq hbk
       obtain ⟨n1,k0,g1,g2⟩:=bA u k hs kJ
       exact sr.free u li k0 (back _ _ hl n1) g1 g2 hz
     · by_cases hu:u=aeR st.az
       · right;have:=hk.len;omega
       exact hk.kept.lH u li (back u li h hu)
     · obtain ⟨n1,k0,g1,g2⟩:=bA u k hs kJ
       exact hk.kept.own u li k0 (back _ _ h n1) g1 g2
     have:=hk.len
     show (aeR iv)<=(st.az.set t (.box (cs.set c (.own (aeR st.az) esz 0 0 0 aeV)))++[jc.arr esz []]).length;simp only [adA,aeH];omega
   exact ⟨loc,hk,ha⟩
 exact ⟨loc,hk,ha⟩
theorem oV {im0 im:Im} {loc0:Loc} {iv:bS} {w0 w:World} {nt:Nat} {a:Act}: ∀(live:List (Nat×Option Nat)) {st:St} {loc:Loc},yc im0 loc0 iv w0 st im loc w->vf im loc nt st a->
 ∃cL,yc im0 loc0 iv w0 (ju live st) im cL w/\vf im cL nt (ju live st) a
 | [],st,loc,hk,ha=>⟨loc,hk,ha⟩
 |(s,k)::r,st,loc,hk,ha=>by
  simp only [ju];split
  · split
    · split
      · rename_i t _
        obtain ⟨cL,h1,h2⟩:=KH t _ _ hk ha;exact oV r h1 h2
      exact oV r hk ha
    exact oV r hk ha
  exact oV r hk ha
theorem Iz {im0 im:Im} {loc0 loc:Loc} {iv:bS} {w0 w:World} {nt:Nat} {live:List (Nat×Option Nat)} {st st1:St} {a:Act} (h:C6 live st=aeS st1) (hk:yc im0 loc0 iv w0 st im loc w) (ha:vf im loc nt st a):
 ∃cL,yc im0 loc0 iv w0 st1 im cL w/\vf im cL nt st1 a:=by
 unfold C6 at h;split at h
 · cases h
 rename_i m YC
 split at h
 · rename_i s1 e1 s2 hs1 hlv
   injection h with h;subst h;refine (fun hh: ∃cL,yc im0 loc0 iv w0 {env:=e1,az:=s1++s2,fz:=vI st.fz 0 m,kn:=st.kn} im cL w/\vf im cL nt {env:=e1,az:=s1++s2,fz:=vI st.fz 0 m,kn:=st.kn} a=>
    let ⟨_,g1,g2⟩:=hh;oV live g1 g2) ?_
   obtain ⟨⟨ml,xS⟩,E7⟩:=Dz YC;have E7:=E7 (DA _);obtain ⟨L6,Cq⟩:=AU hs1;have ae0: ∀n,(sY n).length=n:=by
    intro n;induction n with
    |zero=>rfl
    |succ n ih=>simp [sY,ih]
   have hid: ∀t,t<st.kn->m[t]? =aeS t:=by intro t ht;rw [xS,M2 (by rw [ae0];exact ht)];exact Ix ht
   have amG:st.kn<=(aeR m):=by rw [xS];simp [ae0]
   let cL:Loc:=fun u=>if u<(aeR m) then (match m[u]? with|some t=>loc t|none=>aeT) else match s2[u-(aeR m)]? with
    |some (.arr e [])=>aeS ⟨0,0,e,0,0⟩
    |_=>aeT
   have Dq:Ren m loc cL:=by intro u t hu;have:=bY hu;simp only [cL,this,if_true,hu]
   obtain ⟨aiH,her⟩:=yL Dq ha.env hlv;have old: ∀u li,cL u=aeS li->u<aeR m-> ∃t,m[u]? =aeS t/\loc t=aeS li:=by intro u li hl hu;have e:=ut hu;rw [Dq u _ e] at hl;exact ⟨_,e,hl⟩
   have ae1: ∀u,u<aeR m->(s1++s2)[u]? =s1[u]?:=fun u hu=>M2 (by rw [L6];exact hu)
   have ae2: ∀u,¬u<aeR m->(s1++s2)[u]? =s2[u-(aeR m)]?:=fun u hu=>by rw [acl (by rw [L6];omega),L6]
   have xn: ∀(u:Nat) (k:jc),(s1++s2)[u]? =aeS k->k.bA=aeU->u<(aeR m):=by
    intro u k hs kJ;rcases ad4 u (aeR m) with h|h
    · exact h
    rw [ae2 u (by omega)] at hs
    obtain ⟨e,rfl⟩:=aiH _ _ hs;cases kJ
   have back: ∀(u:Nat) (k:jc),(s1++s2)[u]? =aeS k-> ∀t,m[u]? =aeS t-> ∃k0:jc,st.az[t]? =aeS k0/\k.bA=k0.bA:=by intro u k hs t ht;obtain ⟨k0,k',g1,g2,g3⟩:=Cq u t ht;rw [ae1 u (bY ht),g3] at hs;injection hs with hs;subst hs;exact ⟨k0,g1,zz g2⟩
   have sr:=hk.kept.sr;have YD:SR im cL (s1++s2) (vI st.fz 0 m) w:=by
    refine {
     bu:=sr.bu
     cX:=fun u li hl=>?_
     gQ:=fun u u' li lj k k' hl jU hs s6 kJ FC hb=>?_
     free:=fun u li k hl hs kJ hz=>?_}
    · by_cases hu:u<aeR m
      · obtain ⟨t,ht,cY⟩:=old u li hl hu
        obtain ⟨k0,h1,h2⟩:=sr.cX t li cY;obtain ⟨k1,k',g1,g2,g3⟩:=Cq u t ht;rw [h1] at g1;injection g1 with g1;subst g1;exact ⟨k',by rw [ae1 u hu];exact g3,Fv Dq g2 h2⟩
      simp only [cL,hu,if_false] at hl
      split at hl
      · rename_i e he
        injection hl with hl;subst hl;exact ⟨.arr e [],by rw [ae2 u hu];exact he,rfl,rfl,fun h=>absurd rfl h⟩
      cases hl
    · have hu:=xn u k hs kJ
      have AN:=xn u' k' s6 FC;obtain ⟨t,ht,cY⟩:=old u li hl hu;obtain ⟨t',Mk,Iv⟩:=old u' lj jU AN;obtain ⟨k0,g1,g2⟩:=back u k hs t ht;obtain ⟨k0',g1',Xq⟩:=back u' k' s6 t' Mk;have:=sr.gQ t t' li lj k0 k0' cY Iv g1 g1' (by rw [<- g2];exact kJ) (by rw [<- Xq];exact FC) hb;subst this;have pw:=ae6.1 E7;have e1:=(EQ.1 ht).2;have e2:=(EQ.1 Mk).2;rcases ac6 u u' with h|h|h
      · exact absurd (e1.trans e2.symm) (pw u u' hu AN h)
      · exact h
      exact absurd (e2.trans e1.symm) (pw u' u AN hu h)
    have hu:=xn u k hs kJ
    obtain ⟨t,ht,cY⟩:=old u li hl hu;obtain ⟨k0,g1,g2⟩:=back u k hs t ht;refine sr.free t li k0 cY g1 (by rw [<- g2];exact kJ) (iS.2 ?_);exact Iw (i0:=0) ht (by have:=iS.1 hz;simpa using this)
   refine ⟨cL,⟨⟨YD,hk.kept.fD,fun t li hl=>?_,hk.kept.os,hk.kept.tape,hk.kept.output,hk.kept.size,hk.kept.frame,hk.kept.dy,fun t li hl=>?_,fun u li k hl hs kJ=>?_⟩,hk.kn,?_,hk.dom⟩,
    ⟨her fun j esz hj=>?_,ha.defers,ha.Kj⟩⟩
   · have h1:=hk.kept.dp t li hl
     have ht:t<st.kn:=by rw [hk.kn];exact hk.dom t li hl
     rw [Dq t t (hid t ht)];exact h1
   · rcases ad4 t st.kn with ht|ht
     · rw [Dq t t (hid t ht)] at hl
       exact hk.kept.lH t li hl
     right;rw [hk.kn] at ht;exact ht
   · have hu:=xn u k hs kJ
     obtain ⟨t,ht,cY⟩:=old u li hl hu;obtain ⟨k0,g1,g2⟩:=back u k hs t ht;exact hk.kept.own t li k0 cY g1 (by rw [<- g2];exact kJ)
   · rw [<- hk.kn]
     simp only [adA];omega
   simp only [cL,show¬aeR m+j<(aeR m) by omega,if_false,show (aeR m)+j-(aeR m)=j by omega,hj]
 exact (by cases h)
theorem S' {im0 im:Im} {loc0 loc:Loc} {iv:bS} {w0 w:World} {nt:Nat} {live:List (Nat×Option Nat)} {st st1:St} {a:Act} (h:norm live st=aeS st1) (hk:yc im0 loc0 iv w0 st im loc w) (ha:vf im loc nt st a):
 ∃cL,yc im0 loc0 iv w0 st1 im cL w/\vf im cL nt st1 a:=by
 unfold norm at h;cases h1:C6 live st with
 |none=>rw [h1] at h;cases h
 |some s=>
  rw [h1] at h;dsimp only at h;obtain ⟨cL,gR,rH⟩:=Iz h1 hk ha;split at h
  · exact Iz h gR rH
  injection h with h
  subst h;exact ⟨cL,gR,rH⟩
end Go.Vm
/- The code of a function; what it returns. -/
namespace Go.Vm
def fG (P:Program) (prims:FuncId->Bool) (nt:Nat):iF->Code->Bool
 | .skip,.skip=>aeU
 | .region d ops _,.region _ hU flag=>A8 P prims nt d ops hU flag
 | .seq a b,.seq c d=>fG P prims nt a c&&fG P prims nt b d
 | .cond c a b,.cond c' a' b'=>bn c c'&&fG P prims nt a a'&&fG P prims nt b b'
 | .block id b,.block id' b'=>id==id'&&fG P prims nt b b'
 | .loop _ b,.loop b'=>fG P prims nt b b'
 | .exit id,.exit id'=>id==id'
 | .ret,.ret=>aeU
 |_,_=>aeV
def gg.out:gg->Exit
 | .normal=> .normal
 | .exit id=> .exit id
 | .ret=> .ret
section
variable {P : Program} {F : jM} {rec : Task -> Option Out} {im0 : Im} {loc0 : Loc} {iv : bS} {w0 : World} {nt : Nat} {prims : FuncId -> Bool}
structure At (im0:Im) (loc0:Loc) (iv:bS) (w0:World) (nt:Nat) (st:St) (a:Act) (w:World):Prop where
 ex: ∃im loc,yc im0 loc0 iv w0 st im loc w/\vf im loc nt st a
def A9 (P : Program) (prims : FuncId -> Bool) (rec : Task -> Option Out) : Prop :=
  ∀ (live : List (Nat × Option Nat)) (x : iF) (st : St) (e : gg) (jE : St), rec (.loop live x st) = aeS (.code e jE) ->
    ∀ (c : Code) (nt : Nat) (im0 : Im) (loc0 : Loc) (iv : bS) (w0 : World) (a : Act) (w : World), fG P prims nt x c = aeU -> At im0 loc0 iv w0 nt st a w ->
      ∀ (b : Frame) (k : List Item) (cs : List Frame), ∃ a' w', At im0 loc0 iv w0 nt jE a' w' /\ Arrives P (lone (b.at a (.code c :: .inLoop c :: k)) cs w) b k cs e.out a' w'
theorem jy (hE:GP P F rec) (hL:A9 P prims rec) (nG:P.follows .mixedOrders=aeU): ∀(x:iF) (c:Code) (st:St) (e:gg) (jE:St),fG P prims nt x c=aeU->ri F rec x st=aeS (e,jE)->
 ∀(a:Act) (w:World),At im0 loc0 iv w0 nt st a w-> ∀(Q:Exit->Act->World->Prop),(∀a' w',At im0 loc0 iv w0 nt jE a' w'->Q e.out a' w')->c.wp P Q a w
 | .skip,c,st,e,jE,hc,fT,a,w,ha,Q,hQ=>by
  cases c<;>simp only [fG,PP] at hc
  simp only [ri,ww,IR] at fT;obtain ⟨rfl,rfl⟩:=fT;exact wp_skip (hQ _ _ ha)
 | .region d ops fc,c,st,e,jE,hc,fT,a,w,ha,Q,hQ=>by
  cases c<;>simp only [fG,PP] at hc
  simp only [ri,Do] at fT;obtain ⟨st1,fT,h⟩:=fT;simp only [IR] at h;obtain ⟨rfl,rfl⟩:=h;obtain ⟨im,loc,hk,DB⟩:=ha.ex;refine KG hE nG hc fT hk.kept.sr DB fun dK ba a' w' IA HO=>hQ a' w' ⟨dK,ba,?_,HO⟩
  obtain ⟨h1,h2⟩:=GQ fT;exact ⟨hk.kept.trans IA hk.len,by rw [h1];exact hk.kn,ad0 hk.len h2,hk.dom⟩
 | .seq x y,c,st,e,jE,hc,fT,a,w,ha,Q,hQ=>by
  cases c<;>simp only [fG,PP,v6] at hc
  obtain ⟨h1,h2⟩:=hc;simp only [ri] at fT;refine wp_seq ?_;cases hx:ri F rec x st with
  |none=>rw [hx] at fT;cases fT
  |some q=>
   obtain ⟨e1,st1⟩:=q;rw [hx] at fT;refine jy hE hL nG x _ st e1 st1 h1 hx a w ha _ fun a' w' HO=>?_
   cases e1 with
   |normal=>exact jy hE hL nG y _ st1 e jE h2 fT a' w' HO Q hQ
   |exit id=>simp only [ww,IR] at fT;obtain ⟨rfl,rfl⟩:=fT;exact hQ a' w' HO
   |ret=>simp only [ww,IR] at fT;obtain ⟨rfl,rfl⟩:=fT;exact hQ a' w' HO
 | .cond cc x y,c,st,e,jE,hc,fT,a,w,ha,Q,hQ=>by
  cases c<;>simp only [fG,PP,v6] at hc
  obtain ⟨⟨h0,h1⟩,h2⟩:=hc;obtain ⟨im,loc,hk,DB⟩:=ha.ex;have hv:=KF (a:=a) (e:=st.env) cc (fun t _=>DB.env t) _ h0;simp only [ri] at fT;split at fT
  · rename_i hb
    rw [hb] at hv;exact wp_cond_true hv.iR (jy hE hL nG x _ st e jE h1 fT a w ha Q hQ)
  · rename_i hb
    rw [hb] at hv;exact wp_cond_false hv.iR (jy hE hL nG y _ st e jE h2 fT a w ha Q hQ)
  cases fT
 | .block id x,c,st,e,jE,hc,fT,a,w,ha,Q,hQ=>by
  cases c<;>simp only [fG,PP,v6,beq_iff_eq] at hc
  obtain ⟨rfl,h1⟩:=hc;refine wp_block ?_;simp only [ri] at fT;cases hx:ri F rec x st with
  |none=>rw [hx] at fT;cases fT
  |some q=>
   obtain ⟨e1,st1⟩:=q;rw [hx] at fT;refine jy hE hL nG x _ st e1 st1 h1 hx a w ha _ fun a' w' HO=>?_
   cases e1 with
   |normal=>simp only [ww,IR] at fT;obtain ⟨rfl,rfl⟩:=fT;exact hQ a' w' HO
   |ret=>simp only [ww,IR] at fT;obtain ⟨rfl,rfl⟩:=fT;exact hQ a' w' HO
   |exit j=>
    dsimp only at fT;simp only [gg.out,Exit.inBlock];split at fT
    · rename_i hj
      have:j=id:=by simpa using hj
      simp only [ww,IR] at fT;obtain ⟨rfl,rfl⟩:=fT;rw [rc this];exact hQ a' w' HO
    rename_i hj
    have:j≠id:=by simpa using hj
    simp only [ww,IR] at fT;obtain ⟨rfl,rfl⟩:=fT;rw [sp this];exact hQ a' w' HO
 | .loop live x,c,st,e,jE,hc,fT,a,w,ha,Q,hQ=>by
  cases c<;>simp only [fG,PP] at hc
  simp only [ri] at fT;split at fT
  · rename_i e1 st1 hr
    simp only [ww,IR] at fT;obtain ⟨rfl,rfl⟩:=fT;intro b k cs;obtain ⟨a',w',h1,h2⟩:=hL live x st _ _ hr _ nt im0 loc0 iv w0 a w hc ha b k cs;exact ⟨_,a',w',hQ a' w' h1,.of_steps (.one step_loop) h2⟩
  cases fT
 | .exit id,c,st,e,jE,hc,fT,a,w,ha,Q,hQ=>by
  cases c<;>simp only [fG,PP,beq_iff_eq] at hc
  subst hc;simp only [ri,ww,IR] at fT;obtain ⟨rfl,rfl⟩:=fT;exact wp_exit (hQ _ _ ha)
 | .ret,c,st,e,jE,hc,fT,a,w,ha,Q,hQ=>by
  cases c<;>simp only [fG,PP] at hc
  simp only [ri,ww,IR] at fT;obtain ⟨rfl,rfl⟩:=fT;exact wp_ret (hQ _ _ ha)
theorem NP (hE:GP P F rec) (hL:A9 P prims rec) (nG:P.follows .mixedOrders=aeU):A9 P prims (step F rec):=by
 intro live x st e jE h c nt im0 loc0 iv w0 a w hc ha b k cs;simp only [step] at h;cases hn:norm live st with
 |none=>rw [hn] at h;cases h
 |some st1=>
  rw [hn] at h;dsimp only at h;obtain ⟨im,loc,hk,DB⟩:=ha.ex;obtain ⟨cL,gR,rH⟩:=S' hn hk DB;have cC:At im0 loc0 iv w0 nt st1 a w:=⟨im,cL,gR,rH⟩;cases hx:ri F rec x st1 with
  |none=>rw [hx] at h;cases h
  |some q=>
   obtain ⟨e1,st2⟩:=q;rw [hx] at h;have hw:=jy hE hL nG x c st1 e1 st2 hc hx a w cC (fun e' a' w'=>e'=e1.out/\At im0 loc0 iv w0 nt st2 a' w') fun a' w' h=>⟨rfl,h⟩
   obtain ⟨e',a1,w1,⟨rfl,hq⟩,Fi⟩:=hw b (.inLoop c::k) cs;cases e1 with
   |normal=>dsimp only at h;obtain ⟨a',w',h1,h2⟩:=hL live x st2 e jE h c nt im0 loc0 iv w0 a1 w1 hc hq b k cs;exact ⟨a',w',h1,.of_steps (Steps.trans Fi (.one step_inLoop)) h2⟩
   |exit id=>simp only [ww,Out.code.injEq] at h;obtain ⟨rfl,rfl⟩:=h;exact ⟨a1,w1,hq,.pass (x:= .inLoop c) rfl (fun _ _=> .inl (by simp [gg.out])) Fi⟩
   |ret=>simp only [ww,Out.code.injEq] at h;obtain ⟨rfl,rfl⟩:=h;exact ⟨a1,w1,hq,.pass (x:= .inLoop c) rfl (fun _ _=> .inl (by simp [gg.out])) Fi⟩
def nN (P:Program):List RV->List ResultVar->Bool
 | [],[]=>aeU
 | .tmp t::r,.tmp t'::s=>t==t'&&nN P r s
 | .cell t agg::r,.cell t' ty::s=>t==t'&&zx P ty agg&&nN P r s
 |_,_=>aeV
def KI (tmps:Array Value):ResultVar->Sem Value
 | .tmp t=>pure (tmps.getD t undef)
 | .cell a t=>do loadVar t (<- asAddr (tmps.getD a undef))
theorem NQ {im:Im} {loc:Loc} {az:bS} {agg:Option Nat} {p:PV} {u:Value} {r:mC} (hp:VR im loc p u) (h:nH az agg p=aeS r): ∃ad,u= .pointer (aeS ad):=by cases hp<;>first|(simp [nH] at h;done)|exact ⟨_,rfl⟩
theorem SR.known {im:Im} {loc:Loc} {az:bS} {fz:List Nat} {w:World} (h:SR im loc az fz w) {r:mC} (hn:r.news=[]) (hw:r.wr=[]):iG im loc az w r where
 bu:=h.bu
 tok:=fun t _ li hl=>h.cX t li hl
 free:=fun t k hm=>by rw [hw] at hm;cases hm
 fresh:=fun j hj=>by rw [hn] at hj;simp at hj
 gQ:=fun t u li lj k k' _ _=>h.gQ t u li lj k k'
theorem KJ {az:bS} {agg:Option Nat} {p:PV} {r:mC} (h:nH az agg p=aeS r):r.news=[]/\r.wr=[]:=by
 unfold nH at h;split at h
 · split at h
   · split at h
     · rw [Do] at h;obtain ⟨_,_,rfl⟩:=h;exact ⟨rfl,rfl⟩
     cases h
   · split at h
     · rw [Do] at h;obtain ⟨_,_,rfl⟩:=h;exact ⟨rfl,rfl⟩
     cases h
   cases h
 · rw [Do] at h;obtain ⟨_,_,rfl⟩:=h;exact ⟨rfl,rfl⟩
 cases h
theorem PO {im : Im} {loc : Loc} {st : St} {a : Act} {w : World} (jt : SR im loc st.az st.fz w) (ha : ER im loc st.env a.tmps) : ∀ {rs : List RV} {vs : List PV} {os : List ResultVar}, nN P rs os = aeU -> mE st rs = aeS vs ->
    ∃ us, (os.mapM (KI a.tmps)).run P w = .ok us w /\ eo im loc vs us
  | [], vs, os, hc, h => by
    cases os <;> simp only [nN, PP] at hc
    simp only [mE, ww] at h; subst h
    exact ⟨[], by simp, .nil⟩
  | r :: rs, vs, [], hc, h => by cases r <;> simp [nN] at hc
  | r :: rs, vs, o :: os, hc, h => by
    simp only [mE] at h
    split at h
    · rename_i v Kh h1 h2
      injection h with h; subst h
      have zB : ∃ u, (KI a.tmps o).run P w = .ok u w /\ VR im loc v u /\ nN P rs os = aeU := by
        cases r with
        | tmp t =>
          cases o with
          | tmp t' =>
            simp only [nN, v6, beq_iff_eq] at hc
            obtain ⟨rfl, hc⟩ := hc
            simp only [C9, ww] at h1; subst h1
            exact ⟨_, rfl, ha t, hc⟩
          | cell _ _ => simp [nN] at hc
        | cell t agg =>
          cases o with
          | tmp t' => simp [nN] at hc
          | cell t' ty =>
            simp only [nN, v6, beq_iff_eq] at hc
            obtain ⟨⟨rfl, hag⟩, hc⟩ := hc
            simp only [C9, Do] at h1
            obtain ⟨rr, h3, rfl⟩ := h1
            obtain ⟨g1, g2⟩ := KJ h3
            obtain ⟨u, bG, nE, _⟩ := H3 (P := P) (ha t) hag h3 (jt.known g1 g2)
            obtain ⟨ad, had⟩ := NQ (ha t) h3
            refine ⟨u, ?_, nE, hc⟩
            simp only [KI, had, asAddr]
            rw [had] at bG
            simpa [Instr.loadAt, Instr.sureAddr] using bG
      obtain ⟨u, hu, nE, hc⟩ := zB
      obtain ⟨us, xh, aiJ⟩ := PO jt ha hc h2
      refine ⟨u :: us, ?_, .cons _ _ _ _ nE aiJ⟩
      rw [List.mapM_cons]
      simp only [adX, hu, aea, xh, aeK]
    cases h
theorem DC {im:Im} {loc:Loc} {st:St} {a:Act} {w:World} {fn:Func} (jt:SR im loc st.az st.fz w) (ha:ER im loc st.env a.tmps) {rs:List RV} {vs:List PV} (hc:nN P rs fn.results.toList=aeU) (h:mE st rs=aeS vs):
 ∃u,(results fn a.tmps).run P w= .ok u w/\VR im loc (results1 vs) u:=by
 obtain ⟨us,h1,h2⟩:=PO (P:=P) jt ha hc h;have e:fn.results.mapM (KI a.tmps)=List.toArray<$>fn.results.toList.mapM (KI a.tmps):=Array.mapM_eq_mapM_toList;have h3:(fn.results.mapM (KI a.tmps)).run P w= .ok us.toArray w:=by rw [e];rw [map_eq_pure_bind,adX,h1];rfl
 have zO:results fn a.tmps=(do let vs <- fn.results.mapM (KI a.tmps);pure (if h:vs.size=1 then vs[0] else .tuple vs)):=by
  unfold results
  congr 1
 rw [zO];simp only [adX,h3,aea,aeK];refine ⟨_,rfl,?_⟩;cases h2 with
 |nil=>exact .bT _ _ .nil
 |cons x u xs us g2 g3=>
  cases g3 with
  |nil=>exact g2
  |cons y v ys vs g4 g5=>exact .bT _ _ (.cons _ _ _ _ g2 (.cons _ _ _ _ g4 g5))
end
end Go.Vm
/- What the logical machine answers, the model answers. -/
namespace Go.Vm
def aA (P:Program) (prims:FuncId->Bool) (x:aL) (f:FuncId):Bool:=
 match P.funcs[f]? with
 |some fn=>!(fn.name== "runtime.NumGoroutine")&&ad2 x.BO fn.ntmps&&nN P x.res fn.results.toList&&(match fn.body with|some c=>fG P prims fn.ntmps x.code c|none=>aeV)
 |none=>aeV
section
variable {P : Program} {F : jM} {rec : Task -> Option Out} {prims : FuncId -> Bool}
def DD (P:Program) (prims:FuncId->Bool) (F:jM):Prop:= ∀f x,F f=aeS (.code x)->aA P prims x f=aeU
theorem IB: ∀(args:List PV) (i t:Nat),lk t (s4 i args)=if i<=t then (args[t-i]?).getD .undef else .undef
 | [],i,t=>by simp [s4,lk]
 |v::r,i,t=>by
  simp only [s4,pZ];rw [IB r (i+1) t]
  by_cases h:i=t
  · subst h;simp
  rw [sp h]
  by_cases h2:i<=t
  · rw [rc h2,rc (by omega)]
    have:t-i=(t- (i+1))+1:=by omega
    rw [this];simp
  rw [sp h2,sp (by omega)]
theorem FG {im:Im} {loc:Loc} {args:List PV} {us:List Value} (h:eo im loc args us) (n:Nat):ER im loc (s4 0 args) ((⟨us⟩:Array Value)++adu n Go.undef):=by
 intro t;rw [IB];simp only [ad5,if_true,Nat.sub_zero];cases ha:args[t]? with
 |none=>exact .undef _
 |some x=>
  obtain ⟨v,hv,hr⟩:=h.get t x ha;have:((⟨us⟩:Array Value)++adu n Go.undef).getD t Go.undef=v:=by have cY:=bY hv;simp only [ad3];rw [Array.getElem?_append_left (by simpa using cY)];simp [hv]
  rw [this];exact hr
theorem fy {f:FuncId} {fn:Func} {c:Code} {us:Array Value} {w:World} (hf:P.funcs[f]? =aeS fn) (hn:(fn.name== "runtime.NumGoroutine")=aeV) (hb:fn.body=aeS c):(callFunc f us).run P w= .ok (.enter f us) w:=by
 unfold callFunc;have hn: ¬fn.name= "runtime.NumGoroutine" :=by simpa using hn
 simp [adX,hf,hn,hb]
theorem NR (hE:GP P F rec) (hL:A9 P prims rec) (hT:DD P prims F) (nG:P.follows .mixedOrders=aeU):A4 P (step F rec):=by
 intro f args az fz v tX HN h im loc w us jt xh;simp only [step] at h;split at h
 · rename_i x hF
   have hc:=hT f x hF;unfold aA at hc;cases hf:P.funcs[f]? with
   |none=>rw [hf] at hc;cases hc
   |some fn=>
    rw [hf] at hc;simp only [v6,UV] at hc;obtain ⟨⟨⟨pS,hna⟩,zO⟩,jz⟩:=hc;cases hb:fn.body with
    |none=>rw [hb] at jz;cases jz
    |some c=>
     rw [hb] at jz;dsimp only at jz;refine .inr ⟨fy hf pS hb,calls_of_wp hf hb ?_⟩;split at h
     · rename_i bU
       have bU:(aeR args)=x.BO:=by simpa using bU
       have hna:x.BO<=fn.ntmps:=by simpa using hna
       have aok:=xh.lG
       let st0:St:={env:=s4 0 args,az,fz,kn:=aeR az}
       let a0:Act:={tmps:=(⟨us⟩:Array Value)++adu (fn.ntmps- (⟨us⟩:Array Value).size) Go.undef,defers:=[]}
       have cC:At im loc az w fn.ntmps st0 a0 w:=by
        refine ⟨im,loc,⟨⟨jt,.refl _,.refl _,rfl,.refl _,rfl,If _,fun _ _ _=>rfl,fun _ _ h=> .inl h,fun _ _ h=> .inl h,fun t li k hl hs kJ=> .inr ⟨t,li,k,hl,hs,kJ,rfl⟩⟩,rfl,If _,fun t li hl=>?_⟩,⟨FG xh _,rfl,?_⟩⟩
        · obtain ⟨k,hk,_⟩:=jt.cX t li hl
          exact bY hk
        simp only [a0,aeD,ael]
        show (aeR us)+_=_;have:(⟨us⟩:Array Value).size=(aeR us):=rfl;rw [this];omega
       have fin: ∀(st:St),(mE st x.res).map (fun vs=>Out.func (results1 vs) st.az st.fz)=aeS (.func v tX HN)-> ∀a' w',At im loc az w fn.ntmps st a' w'->
        a'.defers=[]/\ ∃u,(results fn a'.tmps).run P w'= .ok u w'/\ ∃v',Ending.returned u= .returned v'/\ ∃dK ba,rJ im loc az w v tX HN dK ba w' v':=by
        intro st bK a' w' cC
        obtain ⟨dK,ba,hk,DB⟩:=cC.ex;rw [Do] at bK;obtain ⟨vs,Su,he⟩:=bK;simp only [Out.func.injEq] at he;obtain ⟨rfl,rfl,rfl⟩:=he;obtain ⟨u,hu,nE⟩:=DC (P:=P) (fn:=fn) hk.kept.sr DB.env zO Su;have K:=hk.kept;exact ⟨DB.defers,u,hu,u,rfl,dK,ba,⟨K.fD,K.dp,nE,K.sr,K.os,K.tape,K.output,K.size,K.frame,K.dy,K.lH,K.own⟩⟩
       split at h
       · rename_i st fT
         exact jy hE hL nG x.code c st0 .normal st jz fT a0 w cC _ fun a' w' YE=>fin st h a' w' YE
       · rename_i st fT
         exact jy hE hL nG x.code c st0 .ret st jz fT a0 w cC _ fun a' w' YE=>fin st h a' w' YE
       cases h
     cases h
 · rename_i p hF
   obtain ⟨fn,c,hf,pS,hb,key⟩:=hE.ir.2 f p hF;rw [Do] at h;obtain ⟨⟨v1,s1,z1⟩,hp,he⟩:=h;simp only [Out.func.injEq] at he;obtain ⟨rfl,rfl,rfl⟩:=he;exact key args az fz _ _ _ hp im loc w us jt xh
 cases h
theorem Xx (hT:DD P prims F) (vY:rL P F) (nG:P.follows .mixedOrders=aeU): ∀n,A4 P (run F n)/\A9 P prims (run F n)
 |0=>⟨fun f args az fz v tX HN h=>by simp [run] at h,fun live x st e jE h=>by simp [run] at h⟩
 |n+1=>by obtain ⟨h1,h2⟩:=Xx hT vY nG n;have hE:GP P F (run F n):=⟨h1,vY⟩;exact ⟨NR hE h2 hT nG,NP hE h2 nG⟩
theorem A' (hT:DD P prims F) (vY:rL P F) (nG:P.follows .mixedOrders=aeU) {n:Nat} {f:FuncId} {args:List PV} {v:PV} {tX:bS} {HN:List Nat} (h:run F n (.func f args [] [])=aeS (.func v tX HN))
 {im:Im} {w:World} {us:List Value} (SZ: ∀b o,im b=aeS o->w.heap[b]? =aeS o) (xh:eo im eZ args us):
 Calls P f ⟨us⟩ w fun e w'=> ∃u,e= .returned u/\(∃dK ba,VR dK ba v u/\SR dK ba tX HN w')/\w'.os=w.os/\Tape w w'/\w'.output=w.output/\w.heap.size<=w'.heap.size/\ ∀b,b<w.heap.size->w'.heap[b]? =w.heap[b]?:=by
 have key:=(Xx hT vY nG n).1 f args [] [] v tX HN h im eZ w us (SR.empty SZ) xh;rcases key with ⟨u,w',h1,h2⟩|⟨h1,h2⟩
 · exfalso
   cases n with
   |zero=>simp [run] at h
   |succ n=>
    have h:step F (run F n) (.func f args [] [])=aeS (.func v tX HN):=h;simp only [step] at h;split at h
    · rename_i x hF
      have hc:=hT f x hF;unfold aA at hc;cases hf:P.funcs[f]? with
      |none=>rw [hf] at hc;cases hc
      |some fn=>
       rw [hf] at hc;simp only [v6,UV] at hc;cases hb:fn.body with
       |none=>rw [hb] at hc;exact absurd hc.2 (by simp)
       |some c=>rw [fy hf hc.1.1.1 hb] at h1;cases h1
    · rename_i p hF
      obtain ⟨fn,c,hf,pS,hb,key⟩:=vY.2 f p hF;rw [fy hf pS hb] at h1;cases h1
    cases h
 refine h2.mono fun e w' ⟨u,he,dK,ba,hp⟩=>⟨u,he,⟨dK,ba,hp.vr,hp.sr⟩,hp.os,hp.tape,hp.output,hp.size,fun b hb=>hp.frame b hb fun t li k hl=>by cases hl⟩
end
end Go.Vm
/- Functions that are known without their code: math/bits.Add64 and Sub64, slices.Clone. -/
namespace Go.Vm
section
variable {P : Program}
theorem KK {im:Im} {w:World} {v:PV} {u:Value} (jt:SR im eZ [] [] w) (hv:VR im eZ v u):rJ im eZ [] w v [] [] im eZ w u where
 fD:= .refl _
 dp:= .refl _
 vr:=hv
 sr:=jt
 os:=rfl
 tape:= .refl _
 output:=rfl
 size:=If _
 frame:=fun _ _ _=>rfl
 dy:=fun _ _ h=> .inl h
 lH:=fun _ _ h=> .inl h
 own:=fun t li k h=>by cases h
theorem KL {im:Im} {loc:Loc} {k1 k2 k3:IntKind} {a b c:Int} {us:List Value} (h:eo im loc [.int k1 a,.int k2 b,.int k3 c] us):us=[.int k1 a,.int k2 b,.int k3 c]:=by
 cases h with
 |cons _ _ _ _ h1 h=>
  cases h with
  |cons _ _ _ _ h2 h=>
   cases h with
   |cons _ _ _ _ h3 h=>cases h;rw [h1.eF,h2.eF,h3.eF]
theorem KM {f:FuncId} {fn:Func} (hf:P.funcs[f]? =aeS fn) (pS:(fn.name== "runtime.NumGoroutine")=aeV) (hb:fn.body.isNone=aeU) (hn:Extern.findNext fn=aeT) (he:Extern.find fn=aeS add64Entry):yI P f yv:=by
 intro args v news hp im w us jt xh;unfold yv at hp;split at hp
 · rename_i a b c
   split at hp
   · rename_i hc
     have hc:c<=1:=by simpa using hc
     simp only [ww,IR] at hp;obtain ⟨rfl,rfl⟩:=hp;obtain rfl:=KL xh;refine .inl ⟨_,w,?_,im,eZ,KK jt (.bT _ [.int .u64 (((a:Int)+b+c)%18446744073709551616),.int .u64 (((a:Int)+b+c) / 18446744073709551616)] (.cons _ _ _ _ ?_ (.cons _ _ _ _ ?_ .nil)))⟩
     · rw [run_callFunc_extern hf pS hb hn he]
       have:=run_add64 (P:=P) (a:Int) b c (by omega) (by omega) (by omega) (by omega) w;simp only [adV];rw [this];rfl
     · have:aev ((a+b+c)%18446744073709551616)=((a:Int)+b+c)%18446744073709551616:=by
        simp only [adV];omega
       rw [this];exact .int _ _
     have:aev ((a+b+c) / 18446744073709551616)=((a:Int)+b+c) / 18446744073709551616:=by
      simp only [adV];omega
     rw [this];exact .int _ _
   cases hp
 cases hp
def xcA (esz:Nat):iF:= .region aeT [⟨aeS 2,.OV (.c (.sl esz aeU [])),aeT⟩] [0]
def xcN (esz:Nat):iF:= .seq (.region aeT [⟨aeS 2,.OV (.c (.sl esz aeU [])),aeT⟩] [2]) .ret
def xcC (esz:Nat) (zero:Row):iF:= .seq (.region aeT [⟨aeS 5,.zt esz 0 zero [],aeT⟩,⟨aeS 6,.OV (.t 0),aeT⟩,⟨aeS 7,.append esz (.t 5) (.t 6),aeT⟩,⟨aeS 2,.OV (.t 7),aeT⟩] [2]) .ret
def PQ (P:Program) (o:Oper):Bool:=
 o.guard.isNone&&o.dst==aeS 4&&(match o.op with
  | .binOp .eql t x (.const (.slice aeT 0 0)) _=>bn (.t 3) x&&qD P t
  |_=>aeV)
def IC (P:Program) (esz:Nat) (zero:Row) (f:FuncId):Bool:=
 match P.funcs[f]? with
 |some fn=>!(fn.name== "runtime.NumGoroutine")&&adG 7 fn.ntmps&&nN P [.tmp 2] fn.results.toList&&(match fn.body with
  |some (.seq a (.seq (.seq (.region _ ops aeV) (.cond c n .skip)) r))=>
   fG P (fun _=>aeU) fn.ntmps (xcA esz) a&&fG P (fun _=>aeU) fn.ntmps (xcN esz) n&&fG P (fun _=>aeU) fn.ntmps (xcC esz zero) r&&bn (.t 4) c&&
    (match ops.toList with
    | [o1,o2]=>p5 P (fun _=>aeU) fn.ntmps ops ⟨aeS 3,.OV (.t 0),aeT⟩ o1&&PQ P o2
    |_=>aeV)
  |_=>aeV)
 |none=>aeV
theorem Ta:GP P (fun _=>aeT) (fun _=>aeT):=⟨(fun _ _args _sto _fz _v _sto' _fz' h=>by cases h),⟨(fun _ _k _p h=>by cases h),(fun _ _p h=>by cases h)⟩⟩
theorem Ml {prims:FuncId->Bool}:A9 P prims (fun _=>aeT):=fun _ _x _st _e _st' h=>by cases h
theorem lI (nG:P.follows .mixedOrders=aeU) {esz:Nat} {zero:Row} {f:FuncId} (hc:IC P esz zero f=aeU):yI P f (eN esz):=by
 intro args v news hp im w us jt xh;unfold IC at hc;cases hf:P.funcs[f]? with
 |none=>rw [hf] at hc;cases hc
 |some fn=>
  rw [hf] at hc;simp only [v6,UV] at hc;obtain ⟨⟨⟨pS,hnt⟩,zO⟩,jz⟩:=hc;have hnt:7<fn.ntmps:=by simpa using hnt
  split at jz
  · rename_i ca id ops cc cn cr hb
    simp only [v6] at jz;obtain ⟨⟨⟨⟨hA,hN⟩,hC⟩,L4⟩,NL⟩:=jz;split at NL
    · rename_i o1 o2 hl
      simp only [v6] at NL;obtain ⟨ho1,ho2⟩:=NL;have aiM: ∃e c rows,args=[.sl e c rows]:=by
       unfold eN at hp;split at hp
       · exact ⟨_,_,_,rfl⟩
       cases hp
      obtain ⟨e,cl,rows,rfl⟩:=aiM;obtain ⟨u,rfl⟩: ∃u,us=[u]:=by
       cases xh with
       |cons _ u _ us h1 h2=>cases h2;exact ⟨u,rfl⟩
      refine .inr ⟨fy hf pS hb,calls_of_wp hf hb ?_⟩
      let st0:St:={env:=[(0,.sl e cl rows)],az:=[],fz:=[],kn:=0}
      let a0:Act:={tmps:=(⟨[u]⟩:Array Value)++adu (fn.ntmps- (⟨[u]⟩:Array Value).size) Go.undef,defers:=[]}
      have aiN:At im eZ [] w fn.ntmps st0 a0 w:=by refine ⟨im,eZ,⟨⟨jt,.refl _,.refl _,rfl,.refl _,rfl,If _,fun _ _ _=>rfl,fun _ _ h=> .inl h,fun _ _ h=> .inl h,fun t li k hl=>by cases hl⟩,rfl,If _,fun t li hl=>by cases hl⟩,⟨FG xh _,rfl,?_⟩⟩;simp only [a0,aeD,ael];show 1+(fn.ntmps-1)=_;omega
      have fin: ∀(st:St) (v':PV),lk 2 st.env=v'-> ∀a' w',At im eZ [] w fn.ntmps st a' w'->
       a'.defers=[]/\ ∃u,(results fn a'.tmps).run P w'= .ok u w'/\ ∃v'':Value,Ending.returned u= .returned v''/\ ∃dK ba,rJ im eZ [] w v' st.az st.fz dK ba w' v'':=by
       intro st v' hv' a' w' cC
       obtain ⟨dK,ba,hk,DB⟩:=cC.ex;obtain ⟨u,hu,nE⟩:=DC (P:=P) (fn:=fn) hk.kept.sr DB.env zO (vs:=[v']) (by simp [mE,C9,hv']);have K:=hk.kept;exact ⟨DB.defers,u,hu,u,rfl,dK,ba,⟨K.fD,K.dp,nE,K.sr,K.os,K.tape,K.output,K.size,K.frame,K.dy,K.lH,K.own⟩⟩
      refine wp_seq ?_;refine jy Ta Ml nG (xcA esz) _ st0 .normal {env:=[(0,.sl e cl rows)],az:=[],fz:=[],kn:=0} hA rfl a0 w aiN _ fun a1 w1 aiO=>?_
      refine wp_seq (wp_seq ?_);refine wp_region ?_;have ae3:ops= #[o1,o2]:=aeI (by simpa using hl);subst ae3;obtain ⟨CI,cL,gR,ID⟩:=aiO.ex;have IE:=ID.env 0;have IE:VR CI cL (.sl e cl rows) (a1.tmps.getD 0 Go.undef):=IE;obtain ⟨ad,cap,S1,xQ,OX,jT⟩:=IE.nM;unfold p5 at ho1;simp only [v6,beq_iff_eq] at ho1;obtain ⟨⟨⟨Tb,_⟩,hg1⟩,PR⟩:=ho1;have aiP:o1.guard=aeT:=by
       cases hg:o1.guard with
       |none=>rfl
       |some q=>rw [hg] at hg1;simp [s9] at hg1
      have ae4: ∃x,(o1.op= .move x\/o1.op= .assign x)/\bn (.t 0) x=aeU:=by cases ho:o1.op<;>rw [ho] at PR<;>simp only [u9] at PR<;>first|exact ⟨_,.inl rfl,PR⟩|exact ⟨_,.inr rfl,PR⟩|simp at PR
      obtain ⟨x1,O2,YF⟩:=ae4;have aiQ:a1.eval x1= .slice ad (aeR rows) cap:=by
       have h:=KF (a:=a1) (e:=[(0,PV.sl e cl rows)]) (.t 0) (fun t ht=>by injection ht with ht;subst ht;exact ID.env 0) x1 YF;cases x1 with
       |tmp t=>
        have:(0:Nat)=t:=by simpa [bn] using YF
        subst this;simpa [Act.eval] using S1
       |_=>simp [bn] at YF
      have ae5:(execOp a1.eval o1).run P w1= .ok (.value (.slice ad (aeR rows) cap)) w1:=by rcases O2 with h|h<;>simp [execOp,h,aiQ]
      unfold PQ at ho2;simp only [v6,beq_iff_eq,Option.isNone_iff_eq_none] at ho2;obtain ⟨⟨hg2,hd2⟩,Tc⟩:=ho2;split at Tc
      case h_2=>cases Tc
      rename_i ty x2 ub ae7;simp only [v6] at Tc;obtain ⟨YG,bK⟩:=Tc;have aiR:x2= .tmp 3:=by
       cases x2 with
       |tmp t=>
        have:(3:Nat)=t:=by simpa [bn] using YG
        subst this;rfl
       |_=>simp [bn] at YG
      subst aiR;unfold qD at bK;split at bK
      case h_2=>cases bK
      rename_i el mA;have aiS:a1.tmps.size=fn.ntmps:=ID.Kj
      let a2:Act:=a1.put (aeS 3) (.slice ad (aeR rows) cap)
      have GA:a2.tmps.getD 3 Go.undef= .slice ad (aeR rows) cap:=by simp only [a2,Act.put,ad3];rw [ads (by omega)];rfl
      have ae8:(execOp a2.eval o2).run P w1= .ok (.value (.bool ad.isNone)) w1:=by
       simp only [execOp,ae7];refine dZ ?_;have e3:a2.eval (.tmp 3)= .slice ad (aeR rows) cap:=by simpa [Act.eval] using GA
       rw [e3];have hg:(eqGuard .eql ty (.tmp 3) (.const (.slice aeT 0 0)) (.slice ad (aeR rows) cap) (a2.eval (.const (.slice aeT 0 0)))).run P w1= .ok () w1:=by unfold eqGuard;simp
       simp only [adX,hg,aea];exact Lib.run_eql_slice_nil w1 ty el ad (aeR rows) cap 0 0 mA
      let a3:Act:=a2.put (aeS 4) (.bool ad.isNone)
      have YH:At im eZ [] w fn.ntmps {env:=[(0,.sl e cl rows)],az:=[],fz:=[],kn:=0} a3 w1:=by
       refine ⟨CI,cL,gR,⟨fun t=>?_,ID.defers,by simp [a3,a2,Act.put,aiS]⟩⟩;have h:=ID.env t;simp only [pZ] at h ⊢
       by_cases ht:t=0
       · subst ht
         simp only [if_true] at h ⊢;simpa [a3,a2,Act.put,ad1] using h
       rw [sp (fun e=>ht e.symm)];exact .undef _
      have HL:a3.eval cc= .bool ad.isNone:=by
       cases cc with
       |tmp t=>
        have:(4:Nat)=t:=by simpa [bn] using L4
        subst this;simp only [Act.eval,a3,Act.put,ad3];rw [ads (by simp [a2,Act.put];omega)];rfl
       |_=>simp [bn] at L4
      have YI:List.range #[o1,o2].size=[0,1]:=rfl;rw [YI];simp only [wpOps];have e0:(#[o1,o2]:Array Oper)[0]? =aeS o1:=rfl;have e1:(#[o1,o2]:Array Oper)[1]? =aeS o2:=rfl;rw [e0];dsimp only;have hw1:Region.wanted o1 (yielded #[o1,o2] a1.tmps)=aeU:=by unfold Region.wanted;rw [aiP]
      rw [hw1,rc rfl];refine .inl ?_;unfold Oper.wp;rw [ae5,Oper.upon_value,<- Tb,e1];dsimp only;have SX:Region.wanted o2 (yielded #[o1,o2] (a1.put (aeS 3) (.slice ad (aeR rows) cap)).tmps)=aeU:=by unfold Region.wanted;rw [hg2]
      rw [SX,rc rfl];refine .inl ?_;rw [show a1.put (aeS 3) (.slice ad (aeR rows) cap)=a2 from rfl,ae8,Oper.upon_value,hd2];show (Code.cond cc cn .skip).wp P _ a3 w1;cases had:ad with
      |none=>
       have vV:rows=[]:=by
        rcases rows with _|⟨r,rs⟩
        · rfl
        obtain ⟨b,o,h,_⟩:=jT (by simp)
        rw [had] at h;cases h
       subst vV;simp only [eN,ww,IR] at hp;obtain ⟨rfl,rfl⟩:=hp;refine wp_cond_true (by rw [HL,had];rfl) ?_;refine jy Ta Ml nG (xcN esz) _ _ .ret {env:=[(2,.sl esz aeU [])],az:=[],fz:=[],kn:=0} hN rfl a3 w1 YH _ fun a4 w4 PS=>?_
       obtain ⟨hdf,u',AN,v'',aiT,dK,ba,NS⟩:=fin _ _ rfl a4 w4 PS;refine ⟨hdf,u',AN,v'',aiT,dK,ba.set 1 ⟨0,0,esz,0,0⟩,?_⟩;have Mm: ∀t,ba t=aeT:=fun t=>by
        cases hl:ba t with
        |none=>rfl
        |some li=>obtain ⟨k,hk,_⟩:=NS.sr.cX t li hl;simp at hk
       obtain ⟨ad',cw,hv3,_,aiU,_⟩:=NS.vr.nM;have E8:cw=0:=by simpa using aiU rfl
       subst E8;exact {
        fD:=NS.fD,dp:=fun t li h=>by cases h
        vr:=by rw [hv3];exact .own 1 esz 0 0 0 aeV ⟨0,0,esz,0,0⟩ ad' 0 (Loc.ez _ _ _) rfl (If _) (If _) (If _) (fun h=>by cases h) (.inl rfl)
        sr:={
         bu:=NS.sr.bu
         cX:=fun t li h=>by
          unfold Loc.set at h;split at h
          · rename_i ht;subst ht;injection h with h;subst h
            exact ⟨_,rfl,rfl,rfl,fun h=>absurd rfl h⟩
          rw [Mm t] at h;cases h
         gQ:=fun t u li lj k k' h h' hs s6 Cr=>by
          unfold Loc.set at h;split at h
          · rename_i ht;subst ht;simp at hs;subst hs;cases Cr
          rw [Mm t] at h;cases h
         free:=fun t li k h hs Cr=>by
          unfold Loc.set at h;split at h
          · rename_i ht;subst ht;simp at hs;subst hs;cases Cr
          rw [Mm t] at h;cases h}
        os:=NS.os,tape:=NS.tape,output:=NS.output,size:=NS.size,frame:=NS.frame,dy:=NS.dy
        lH:=fun t li h=> .inr (ad5 _)
        own:=fun t li k h hs Cr=>by
         unfold Loc.set at h;split at h
         · rename_i ht;subst ht;simp at hs;subst hs;cases Cr
         rw [Mm t] at h;cases h}
      |some ad'=>
       refine wp_cond_false (by rw [HL,had];rfl) (wp_skip ?_);rcases rows with _|⟨r,rs⟩
       · simp only [eN,ww,IR] at hp
         obtain ⟨rfl,rfl⟩:=hp;exact jy Ta Ml nG (xcC esz zero) _ _ .ret {env:=[(2,.own 1 esz 0 0 0 aeV)],az:=[.arr esz [],.arr esz []],fz:=[],kn:=0} hC rfl a3 w1 YH _ fun a4 w4 PS=>fin _ _ rfl a4 w4 PS
       simp only [eN] at hp
       split at hp
       case isFalse=>cases hp
       rename_i Ma;simp only [v6,Nat.beq_eq,adY] at Ma;obtain ⟨rfl,j8⟩:=Ma;simp only [ww,IR] at hp;obtain ⟨rfl,rfl⟩:=hp;have hap:hJ [.arr e []] [] e (.own 0 e 0 0 0 aeU) (.sl e cl (r::rs))=aeS {v:= .own 1 e 0 (0+(aeR rs+1)) (0+(aeR rs+1)) aeV,news:=[.arr e (r::rs)],rd:=[0]}:=by
        have h1:AC e e=aeU:=by simp
        have h2:ad2 (aeR rs+1) 0=aeV:=rfl;have h3:ad2 (0+(aeR rs+1)) kI=aeU:=by simpa using j8
        simp only [hJ,rowsOf,h1,if_true];simp [h2,j8,hG]
       refine jy Ta Ml nG (xcC e zero) _ _ .ret {env:=[(2,.own 1 e 0 (0+(aeR rs+1)) (0+(aeR rs+1)) aeV)],az:=[.arr e [],.arr e (r::rs)],fz:=[],kn:=0} hC ?_ a3 w1 YH _ fun a4 w4 PS=>fin _ _ rfl a4 w4 PS
       simp only [xcC,ri,j0,k7,wanted,u6,bq,eL.ev,lk];simp [oQ,XR.ok,tM,XR.next,gW,HW,fv,lk,hap]
    cases NL
  cases jz
end
end Go.Vm
/- slices.Insert of one row: what it leaves of the memory. -/
namespace Go.Vm
section
variable {P : Program} {im dK : Im} {loc ba : Loc} {az : bS} {fz : List Nat} {w w' : World}
theorem BR.fc {li:LI} {k:jc} (h:BR im loc w li k) (hi:mF im dK) (hl:kT loc ba) (hw:k.bA=aeU->w'.heap[li.cX]? =w.heap[li.cX]?):BR dK ba w' li k:=by
 cases hs:k.bA with
 |true=>exact h.mono hi hl (hw hs)
 |false=>
  cases k with
  |arr e rows=>
   cases rows with
   |nil=>exact ⟨h.1,h.2.1,fun dC=>absurd rfl dC⟩
   |cons r rs=>cases hs
  |box cs=>cases hs
  |map es=>cases hs
  |dead=>trivial
theorem Ba {r:mC} {t:Nat} {u:Value} (jt:SR im loc az fz w) (he:rD im loc az w r dK ba w') (pG:r.fr=[]) (hw:r.wr=[(t,.dead)]) (ht:t<aeR az) (hv:VR dK ba r.v u):
 rJ im loc az w r.v (az.set t .dead++r.news) fz dK ba w' u:=by
 have bU:(az.set t .dead).length=(aeR az):=by simp
 have old: ∀t' li,loc t'=aeS li->t'<(aeR az):=fun t' li h=>by obtain ⟨k,hk,_⟩:=jt.cX t' li h;exact (EQ.1 hk).1
 have NT: ∀t' li k,loc t'=aeS li->(az.set t .dead++r.news)[t']? =aeS k->k.bA=aeU->t'≠t/\az[t']? =aeS k:=by
  intro t' li k h hk hs;have cY:=old t' li h;rw [M2 (by omega),aeC] at hk;split at hk
  · first|(injection hk with hk;subst hk;cases hs)|(split at hk<;>first|(injection hk with hk;subst hk;cases hs)|cases hk)
  rename_i dC;exact ⟨fun e=>dC e.symm,hk⟩
 have NU: ∀t' k,aeR az<=t'->(az.set t .dead++r.news)[t']? =aeS k->r.news[t'-(aeR az)]? =aeS k:=by
  intro t' k h hk
  rwa [acl (by omega),bU] at hk
 have FH: ∀t' li,ba t'=aeS li->loc t'=aeS li\/(aeR az<=t'/\t'=aeR az+(t'-(aeR az))):=by
  intro t' li h;rcases he.jO t' li h with h|⟨h,_⟩
  · exact .inl h
  exact .inr ⟨h,by omega⟩
 have imn: ∀b o,dK b=aeS o->im b=aeS o\/w.heap.size<=b:=by
  intro b o h;rcases he.dy b o h with h|h|⟨t0,li,k,h,_⟩
  · exact .inl h
  · exact .inr h
  rw [pG] at h;cases h
 have ae': ∀t' li k,loc t'=aeS li->az[t']? =aeS k->t'≠t->k.bA=aeU->BR im loc w li k->w'.heap[li.cX]? =w.heap[li.cX]?:=by
  intro t' li k hl hk dC hs hb;refine he.frame li.cX (hb.lt hs) fun t0 k1 l0 k0 hm HM hk0 Fg e=>?_
  rw [hw] at hm;obtain ⟨rfl,rfl⟩:t0=t/\k1= .dead:=by simpa using hm
  exact dC (jt.gQ _ _ _ _ _ _ hl HM hk hk0 hs Fg e.symm)
 have Td: ∀t' li k,ba t'=aeS li->aeR az<=t'->r.news[t'-(aeR az)]? =aeS k->BR dK ba w' li k/\
  (k.bA=aeU->dK li.cX=aeT/\(w.heap.size<=li.cX\/ ∃lt k0,loc t=aeS lt/\az[t]? =aeS k0/\k0.bA=aeU/\lt.cX=li.cX)):=by
  intro t' li k hl jZ hk;obtain ⟨h1,h2⟩:=he.news (t'-(aeR az)) k li hk (by rw [show (aeR az)+(t'-(aeR az))=t' by omega];exact hl);refine ⟨h1,fun hs=>⟨(h2 hs).1,?_⟩⟩;rcases (h2 hs).2 with h|⟨t0,lt,k0,hm,a,b,c,d⟩
  · exact .inl h
  rw [hw] at hm
  obtain rfl:t0=t:=by have:=ad9.1 hm;injection this
  exact .inr ⟨lt,k0,a,b,c,d⟩
 have apart: ∀t1 u1 li lj k k',loc t1=aeS li->t1≠t->az[t1]? =aeS k->k.bA=aeU->ba u1=aeS lj->aeR az<=u1->r.news[u1-(aeR az)]? =aeS k'->k'.bA=aeU->li.cX≠lj.cX:=by
  intro t1 u1 li lj k k' hl dC hk hs jU jZ IA s6 e;obtain ⟨k2,A2,hb⟩:=jt.cX t1 li hl;rw [hk] at A2;injection A2 with A2;subst A2;rcases ((Td u1 lj k' jU jZ IA).2 s6).2 with h|⟨lt,k0,a,b,c,d⟩
  · have:=hb.lt hs;omega
  exact dC (jt.gQ _ _ _ _ _ _ hl a hk b hs c (by rw [e,d]))
 exact {
  fD:=he.fD,dp:=he.dp,vr:=hv
  sr:={
   bu:=he.bu
   cX:=fun t' li h=>by
    rcases FH t' li h with ho|⟨jZ,_⟩
    · obtain ⟨k,hk,hb⟩:=jt.cX t' li ho
      have cY:=old t' li ho
      by_cases e:t'=t
      · subst e
        exact ⟨.dead,by rw [M2 (by omega),List.getElem?_set_self (by omega)],trivial⟩
      refine ⟨k,by rw [M2 (by omega),aeg (fun x=>e x.symm)];exact hk,hb.fc he.fD he.dp fun hs=>ae' t' li k ho hk e hs hb⟩
    have hn:t'-(aeR az)<(aeR r.news):=by
     rcases he.jO t' li h with ho|⟨_,h2⟩
     · have:=old t' li ho;omega
     omega
    obtain ⟨hb,_⟩:=Td t' li _ h jZ (ut hn);exact ⟨_,by rw [acl (by omega),bU];exact ut hn,hb⟩
   gQ:=fun t1 u1 li lj k k' hl jU hk IA hs s6 e=>by
    rcases FH t1 li hl with h1|⟨h1,_⟩<;>rcases FH u1 lj jU with h2|⟨h2,_⟩
    · obtain ⟨n1,e1⟩:=NT _ _ _ h1 hk hs
      obtain ⟨n2,e2⟩:=NT _ _ _ h2 IA s6;exact jt.gQ _ _ _ _ _ _ h1 h2 e1 e2 hs s6 e
    · obtain ⟨n1,e1⟩:=NT _ _ _ h1 hk hs
      exact absurd e (apart _ _ _ _ _ _ h1 n1 e1 hs jU h2 (NU _ _ h2 IA) s6)
    · obtain ⟨n2,e2⟩:=NT _ _ _ h2 IA s6
      exact absurd e.symm (apart _ _ _ _ _ _ h2 n2 e2 s6 hl h1 (NU _ _ h1 hk) hs)
    have:=he.distinct (t1-(aeR az)) (u1-(aeR az)) k k' li lj (NU _ _ h1 hk) (NU _ _ h2 IA) hs s6 (by rw [show (aeR az)+(t1-(aeR az))=t1 by omega];exact hl) (by rw [show (aeR az)+(u1-(aeR az))=u1 by omega];exact jU) e
    omega
   free:=fun t' li k hl hk hs hz=>by
    rcases FH t' li hl with h1|⟨h1,_⟩
    · obtain ⟨n1,e1⟩:=NT _ _ _ h1 hk hs
      obtain ⟨k2,A2,hb⟩:=jt.cX t' li h1;rw [e1] at A2;injection A2 with A2;subst A2;have h0:=jt.free t' li k h1 e1 hs hz;cases hi:dK li.cX with
      |none=>rfl
      |some o=>
       rcases imn _ _ hi with h|h
       · rw [h0] at h;cases h
       have:=hb.lt hs;omega
    exact ((Td t' li k hl h1 (NU _ _ h1 hk)).2 hs).1}
  os:=he.os,tape:=he.tape,output:=he.output,size:=he.size
  frame:=fun b hb h=>he.frame b hb fun t0 k li k0 hm hl hk hs=>h t0 li k0 hl hk hs
  dy:=fun b o h=>by
   rcases imn b o h with h|h
   · exact .inl h
   exact .inr (.inl h)
  lH:=fun t' li h=>by
   rcases FH t' li h with h|⟨h,_⟩
   · exact .inl h
   exact .inr h
  own:=fun t' li k hl hk hs=>by
   rcases FH t' li hl with h1|⟨h1,_⟩
   · obtain ⟨n1,e1⟩:=NT _ _ _ h1 hk hs
     exact .inr ⟨t',li,k,h1,e1,hs,rfl⟩
   rcases ((Td t' li k hl h1 (NU _ _ h1 hk)).2 hs).2 with h|⟨lt,k0,a,b,c,d⟩
   · exact .inl h
   exact .inr ⟨t,lt,k0,a,b,c,d⟩}
theorem SR.FI (h:SR im loc az fz w):loc (aeR az)=aeT:=by
 cases hl:loc (aeR az) with
 |none=>rfl
 |some li=>obtain ⟨k,hk,_⟩:=h.cX _ _ hl;simp at hk
theorem NV {t e:Nat} {li:LI} {rows L:List Row} {arr fin:Array Value} {el:TypeId} (jt:SR im loc az fz w) (hl:loc t=aeS li) (bK:az[t]? =aeS (.arr e rows)) (dC:rows≠[]) (hf:has fz t=aeV)
 (ha:w.heap[li.cX]? =aeS (.cells arr el (0,0))) (hh:w'.heap=w.heap.setIfInBounds li.cX (.cells fin el (0,0))) (ho:w'.os=w.os) (ht:Tape w w') (hp:w'.output=w.output)
 (nJ:fin.size=li.sz) (tP:li.sh+aeR L*e<=li.sz) (hr:bz (fun k=>fin[k]?) li.sh e L):
 rD im loc az w {v:= .own (aeR az) e 0 (aeR L) (aeR L) aeV,news:=[.arr e L],wr:=[(t,.dead)]} im (loc.set (aeR az) ⟨li.cX,li.sh,e,aeR L,li.sz⟩) w':=by
 have cY:=(NE.1 ha).1;have yE:(jc.arr e rows).bA=aeU:=lW dC;have zF:=jt.free t li _ hl bK yE hf;have Pg:=jt.FI;exact {
  fD:= .refl _,dp:=Loc.vL _ Pg
  bu:=fun b o hb=>by
   have h1:=jt.bu b o hb;have GB:li.cX≠b:=fun e=>by rw [e,hb] at zF;cases zF
   rw [hh,ad1,sp GB];exact h1
  dy:=fun _ _ h=> .inl h,os:=ho,tape:=ht,output:=hp
  size:=by rw [hh];simp
  No:=fun t' k hm hs=>by
   obtain ⟨rfl,rfl⟩:t'=t/\k= .dead:=by simpa using hm
   cases hs
  frame:=fun b _ hb=>by have GB:=hb t .dead li _ (ad9.2 rfl) hl bK yE;rw [hh,ad1,sp GB]
  wr:=fun t' k li hm jU=>by
   obtain ⟨rfl,rfl⟩:t'=t/\k= .dead:=by simpa using hm
   trivial
  jO:=fun t' l h=>by
   unfold Loc.set at h;split at h
   · rename_i e;subst e;exact .inr ⟨If _,by simp⟩
   exact .inl h
  news:=AX fun j k hj=>by
   cases j with
   |zero=>simp at hj;subst hj;refine ⟨_,Loc.ez _ _ _,⟨rfl,rfl,fun _=>⟨fin,el,by rw [hh];simp [cY],nJ,tP,hr⟩⟩,fun _=>⟨zF,.inr ⟨t,li,_,ad9.2 rfl,hl,bK,yE,rfl⟩⟩⟩
   |succ j=>simp at hj
  distinct:=fun i j ki kj li lj h1 h2 _ _ _ _ _=>by cases i<;>cases j<;>simp at h1 h2<;>rfl}
theorem NW {t e:Nat} {L:List Row} {fin:Array Value} {el:TypeId} (jt:SR im loc az fz w)
 (hh:w'.heap=w.heap.push (.cells fin el (0,0))) (ho:w'.os=w.os) (ht:Tape w w') (hp:w'.output=w.output)
 (tP:(aeR L)*e<=fin.size) (hr:bz (fun k=>fin[k]?) 0 e L):
 rD im loc az w {v:= .own (aeR az) e 0 (aeR L) (aeR L) aeV,news:=[.arr e L],wr:=[(t,.dead)]} im (loc.set (aeR az) ⟨w.heap.size,0,e,aeR L,fin.size⟩) w':=by
 have Pg:=jt.FI;have old: ∀b,b<w.heap.size->w'.heap[b]? =w.heap[b]?:=fun b hb=>by rw [hh,Array.getElem?_push,sp (by omega)]
 have cY: ∀b o,im b=aeS o->b<w.heap.size:=fun b o h=>(NE.1 (jt.bu b o h)).1
 exact {
  fD:= .refl _,dp:=Loc.vL _ Pg
  bu:=fun b o hb=>by rw [old b (cY b o hb)];exact jt.bu b o hb
  dy:=fun _ _ h=> .inl h,os:=ho,tape:=ht,output:=hp
  size:=by rw [hh];simp
  No:=fun t' k hm hs=>by
   obtain ⟨rfl,rfl⟩:t'=t/\k= .dead:=by simpa using hm
   cases hs
  frame:=fun b hb _=>old b hb
  wr:=fun t' k li hm jU=>by
   obtain ⟨rfl,rfl⟩:t'=t/\k= .dead:=by simpa using hm
   trivial
  jO:=fun t' l h=>by
   unfold Loc.set at h;split at h
   · rename_i e;subst e;exact .inr ⟨If _,by simp⟩
   exact .inl h
  news:=AX fun j k hj=>by
   cases j with
   |zero=>
    simp at hj;subst hj;refine ⟨_,Loc.ez _ _ _,⟨rfl,rfl,fun _=>⟨fin,el,by rw [hh];simp,rfl,by simpa using tP,hr⟩⟩,fun _=>⟨?_,.inl (If _)⟩⟩;cases hi:im w.heap.size with
    |none=>rfl
    |some o=>have:=cY _ _ hi;omega
   |succ j=>simp at hj
  distinct:=fun i j ki kj li lj h1 h2 _ _ _ _ _=>by cases i<;>cases j<;>simp at h1 h2<;>rfl}
theorem FJ {esz:Nat}: ∀{rows:List Row} (_: ∀r∈rows,aeR r=esz) (i:Nat),(rows.take i).flatMap aY=(rows.flatMap aY).take (i*esz)
 | [],_,i=>by simp
 |r::rs,h,0=>by simp
 |r::rs,h,i+1=>by
  have hr:(aY r).length=esz:=by rw [j7];exact h r (by simp)
  have e1:(aY r).take ((i+1)*esz)=aY r:=adc (by rw [hr,aem];omega);rw [List.take_succ_cons,aeb,FJ (fun x hx=>h x (by simp [hx])) i,aeb,List.take_append,e1,hr,show (i+1)*esz-esz=i*esz by rw [aem];omega]
theorem FK {esz:Nat}: ∀{rows:List Row} (_: ∀r∈rows,aeR r=esz) (i:Nat),(rows.drop i).flatMap aY=(rows.flatMap aY).drop (i*esz)
 | [],_,i=>by simp
 |r::rs,h,0=>by simp
 |r::rs,h,i+1=>by
  have hr:(aY r).length=esz:=by rw [j7];exact h r (by simp)
  have e1:(aY r).drop ((i+1)*esz)=[]:=aec (by rw [hr,aem];omega);rw [List.drop_succ_cons,FK (fun x hx=>h x (by simp [hx])) i,aeb,List.drop_append,e1,hr,show (i+1)*esz-esz=i*esz by rw [aem];omega,List.nil_append]
theorem SR.NX (h:SR im loc az fz w) {t:Nat} (hf:has fz t=aeV) {r:mC} (hw:r.wr=[(t,.dead)]):iG im loc az w r where
 bu:=h.bu
 tok:=fun t _ li hl=>h.cX t li hl
 free:=fun t' k hm li k' hl hk hs=>by
  rw [hw] at hm;obtain rfl:t'=t:=by have:=ad9.1 hm;injection this
  exact h.free t' li k' hl hk hs hf
 fresh:=fun j hj=>by
  cases hl:loc (aeR az+j) with
  |none=>rfl
  |some li=>obtain ⟨k,hk,_⟩:=h.cX _ _ hl;rw [List.getElem?_eq_none (by omega)] at hk;cases hk
 gQ:=fun t u li lj k k' _ _=>h.gQ t u li lj k k'
structure PU (P:Program) (f:FuncId) (e:Nat) (tS:TypeId):Prop where
 ends: ∀(nF:Option Addr) (n c vb IF vc:Nat) (w w':World) (v':Value),n<=c->(Builtin.append_ #[tS,tS] tS #[.slice nF n c,.slice (aeS ⟨vb,IF,aeT⟩) 1 vc]).run P w= .ok v' w'->
  Calls P f #[.slice nF n c,.int .i64 n,.slice (aeS ⟨vb,IF,aeT⟩) 1 vc] w fun e W=>e= .returned v'/\W=w'
 room: ∀(b off n c i vb IF vc:Nat) (cs vs:List Value) (arr av:Array Value) (el ev:TypeId) (w:World),i<n->n+1<=c->n<=1048576->vb≠b->w.heap[b]? =aeS (.cells arr el (0,0))->w.heap[vb]? =aeS (.cells av ev (0,0))->
  off+(n+1)*e<=arr.size->aeR cs=n*e->aeR vs=e->(∀(j:Nat) (v:Value),cs[j]? =aeS v->arr[off+j]? =aeS v)->(∀(j:Nat) (v:Value),vs[j]? =aeS v->av[IF+j]? =aeS v)->(∀v∈cs,v.oneCell'=aeU)->(∀v∈vs,v.oneCell'=aeU)->
  ∃fin:List Value,aeR fin=arr.size/\(∀(j:Nat) (v:Value),(cs.take (i*e)++vs++cs.drop (i*e))[j]? =aeS v->fin[off+j]? =aeS v)/\
  Calls P f #[.slice (aeS ⟨b,off,aeT⟩) n c,.int .i64 i,.slice (aeS ⟨vb,IF,aeT⟩) 1 vc] w fun x w'=>
   x= .returned (.slice (aeS ⟨b,off,aeT⟩) (n+1) c)/\w'.heap=w.heap.setIfInBounds b (.cells fin.toArray el (0,0))/\w'.os=w.os/\Tape w w'/\w'.output=w.output
 full: ∀(b off n i vb IF vc:Nat) (cs vs:List Value) (w:World),i<n->n<=1048576->aeR cs=n*e->aeR vs=e->
  (∀(j:Nat) (v:Value),cs[j]? =aeS v->w.cell? ⟨b,off+j,aeT⟩=aeS v)->(∀(j:Nat) (v:Value),vs[j]? =aeS v->w.cell? ⟨vb,IF+j,aeT⟩=aeS v)->(∀v∈cs,v.oneCell'=aeU)->(∀v∈vs,v.oneCell'=aeU)->
  ∃(G:Nat) (fin:List Value) (el:TypeId),n+1<=G/\aeR fin=G*e/\(∀(j:Nat) (v:Value),(cs.take (i*e)++vs++cs.drop (i*e))[j]? =aeS v->fin[j]? =aeS v)/\
  Calls P f #[.slice (aeS ⟨b,off,aeT⟩) n n,.int .i64 i,.slice (aeS ⟨vb,IF,aeT⟩) 1 vc] w fun x w'=>
   x= .returned (.slice (aeS ⟨w.heap.size,0,aeT⟩) (n+1) G)/\w'.heap=w.heap.push (.cells fin.toArray el (0,0))/\w'.os=w.os/\Tape w w'/\w'.output=w.output
theorem NG.ins {f:FuncId} {e:Nat} {tS tE:TypeId} {fn:Func} {c:Code} {i0:TypeInfo} {z:Value} (hf:P.funcs[f]? =aeS fn) (pS:(fn.name== "runtime.NumGoroutine")=aeV) (hb:fn.body=aeS c)
 (ht:P.underlying tS=aeS (.slice tE)) (hi:P.info? tE=aeS i0) (nJ:i0.size=e) (hz:i0.zero=aeS z) (SN:z.cells.size=e) (Ku:i0.bytes<=1048576) (he0:0<e) (H:PU P f e tS):NG P f (O8 e):=by
 refine ⟨fn,c,hf,pS,hb,?_⟩;intro args az fz v tX HN hp im loc w us jt xh;unfold O8 at hp;split at hp
 case h_2=>cases hp
 rename_i t e1 off len cap ex i u e2 aek HX PW ex2;split at hp
 case h_2=>cases hp
 rename_i e3 rows e4 new bK hsu;split at hp
 case isFalse=>cases hp
 rename_i hc;simp only [v6,Nat.beq_eq,UV,decide_eq_true_eq,adY] at hc;obtain ⟨⟨⟨⟨⟨⟨⟨⟨⟨⟨⟨q1,q2⟩,rfl⟩,rfl⟩,bU⟩,rfl⟩,zC⟩,htu⟩,Pe⟩,hi0⟩,hil⟩,j8⟩:=hc;have q1:=q1.symm;subst q1;have q2:=q2.symm;subst q2;have j8:len+1<=1048576:=j8;injection hp with hp;simp only [IR] at hp;obtain ⟨rfl,rfl,rfl⟩:=hp;obtain ⟨k,rfl⟩: ∃k:Nat,i=(k:Int):=⟨i.toNat,by omega⟩;simp only [Int.toNat_natCast] at hil ⊢;obtain ⟨x0,Xy,rfl,IE,xh⟩: ∃x0 Xy,us=x0::Xy/\VR im loc (.own t e 0 len cap ex) x0/\eo im loc [.int .i64 (k:Int),.own u e 0 1 PW ex2] Xy:=by cases xh with|cons _ a _ b h1 h2=>exact ⟨a,b,rfl,h1,h2⟩
 obtain ⟨x1,us2,rfl,O2,xh⟩: ∃x1 us2,Xy=x1::us2/\VR im loc (.int .i64 (k:Int)) x1/\eo im loc [.own u e 0 1 PW ex2] us2:=by cases xh with|cons _ a _ b h1 h2=>exact ⟨a,b,rfl,h1,h2⟩
 obtain ⟨x2,us3,rfl,YG,xh⟩: ∃x2 us3,us2=x2::us3/\VR im loc (.own u e 0 1 PW ex2) x2/\eo im loc [] us3:=by cases xh with|cons _ a _ b h1 h2=>exact ⟨a,b,rfl,h1,h2⟩
 obtain rfl:us3=[]:=by cases xh;rfl
 have O2:=O2.eF;subst O2;obtain ⟨li,a,cw,rfl,hl,he,Cn,hlc,L4,_,Cp⟩:=IE.gO;obtain ⟨lj,a2,PX,rfl,Fy,vC,amM,aoo,aop,_,afc⟩:=YG.gO;have NO:t<(aeR az):=(EQ.1 bK).1;obtain ⟨k1,gR,rj⟩:=jt.cX t li hl;rw [bK] at gR;injection gR with gR;subst gR;obtain ⟨k2,A2,aiX⟩:=jt.cX u lj Fy;rw [hsu] at A2;injection A2 with A2;subst A2;obtain ⟨b1,b2,b3⟩:=rj;obtain ⟨d1,d2,d3⟩:=aiX;have YJ:new≠[]:=by intro h;subst h;simp at zC
 obtain ⟨av,ev,NB,Pm,hv3,YK⟩:=d3 YJ;have e34:e=e3:=by rw [<- b1,he]
 subst e34;have e44:e=e4:=by rw [<- d1,vC]
 subst e44;obtain rfl:a2=aeS ⟨lj.cX,lj.sh,aeT⟩:=by
  rcases afc with h|⟨_,h,_⟩
  · omega
  simpa using h
 have Fc:=YK.mH;have OY:=YK.plain;have Fe:=dt Fc;rw [zC] at Fe;refine .inr ⟨fy hf pS hb,?_⟩;rcases ad4 k len with hk|hk
 ·
  have mI:rows≠[]:=by intro h;subst h;simp at bU;omega
  obtain ⟨arr,el,rH,GA,HL,cC⟩:=b3 mI;obtain ⟨OZ,rfl,tP⟩:li.n≠0/\a=aeS ⟨li.cX,li.sh,aeT⟩/\li.sh+cw*e<=li.sz:=by
   rcases Cp with h|⟨h1,h2,h3⟩
   · omega
   exact ⟨h1,by simpa using h2,by simpa using h3⟩
  have H5:=cC.mH;have SS:=cC.plain;have Nt:=dt H5;rw [<- bU] at Nt;obtain ⟨L,hL⟩: ∃L,L=rows.take k++new++rows.drop k:=⟨_,rfl⟩;have hLl:(aeR L)=len+1:=by rw [hL];simp only [adA,List.length_take,List.length_drop,zC];omega
  have hLf:L.flatMap aY=(rows.flatMap aY).take (k*e)++new.flatMap aY++(rows.flatMap aY).drop (k*e):=by rw [hL,aew,aew,FJ H5,FK H5]
  have hLr: ∀r∈L,aeR r=e:=by
   intro r hr;rw [hL] at hr;rcases ad6.1 hr with h|h
   · rcases ad6.1 h with h|h
     · exact H5 r (aen h)
     exact Fc r h
   exact H5 r (aeo h)
  have hLp: ∀r∈L,∀c∈r,c.plain=aeU:=by
   intro r hr;rw [hL] at hr;rcases ad6.1 hr with h|h
   · rcases ad6.1 h with h|h
     · exact SS r (aen h)
     exact OY r h
   exact SS r (aeo h)
  rw [<- hL,<- hLl];have pO: ∀j v,(rows.flatMap aY)[j]? =aeS v->arr[li.sh+j]? =aeS v:=fun j v hj=>cC.flat j v hj
  have Su: ∀j v,(new.flatMap aY)[j]? =aeS v->av[lj.sh+j]? =aeS v:=fun j v hj=>YK.flat j v hj
  have Fa:(len+1)*e<=cw*e\/cw=len:=by
   rcases ad4 len cw with h|h
   · exact .inl (aes _ h)
   exact .inr (by omega)
  rcases Fa with vR|Mj
  · have afe:len+1<=cw:=Nat.le_of_mul_le_mul_right vR he0
    have dC:lj.cX≠li.cX:=fun h=>by have:=jt.gQ u t lj li _ _ Fy hl hsu bK (lW YJ) (lW mI) h;rw [this] at htu;simp at htu
    obtain ⟨fin,f1,f2,f3⟩:=H.room li.cX li.sh len cw k lj.cX lj.sh PX _ _ arr av el ev w hk afe (by omega) dC rH NB (by omega) Nt (by omega) pO Su (qF SS) (qF OY);refine f3.mono fun x w' ⟨hx,hh,ho,Xz,hpp⟩=>⟨_,hx,im,loc.set (aeR az) ⟨li.cX,li.sh,e,aeR L,li.sz⟩,?_⟩
    have hE:=NV (w':=w') (L:=L) jt hl bK mI Pe rH hh ho Xz hpp (by simp [f1,GA]) (by rw [hLl];omega) (bz.AY hLr hLp fun j v hj=>by rw [hLf] at hj;simpa using f2 j v hj);refine Ba jt hE rfl rfl NO ?_;rw [<- hLl];exact .own _ _ 0 _ _ aeV ⟨li.cX,li.sh,e,aeR L,li.sz⟩ _ cw (Loc.ez _ _ _) rfl (by show 0+aeR L<=aeR L;omega) (If _) (by omega) (fun h=>by cases h) (.inr ⟨by show (aeR L)≠0;omega,by simp,by show li.sh+(0+cw)*e<=li.sz;rw [Nat.zero_add];exact tP⟩)
  subst Mj
  obtain ⟨G,fin,el',g1,g2,g3,g4⟩:=H.full li.cX li.sh cw k lj.cX lj.sh PX _ _ w hk (by omega) Nt (by omega) (fun j v hj=>by simp only [aeG,rH];exact pO j v hj) (fun j v hj=>by simp only [aeG,NB];exact Su j v hj) (qF SS) (qF OY);have hg:(cw+1)*e<=G*e:=aes _ g1;refine g4.mono fun x w' ⟨hx,hh,ho,Xz,hpp⟩=>⟨_,hx,im,loc.set (aeR az) ⟨w.heap.size,0,e,aeR L,fin.toArray.size⟩,?_⟩
  have hE:=NW (w':=w') (t:=t) (L:=L) (e:=e) jt hh ho Xz hpp (by rw [hLl];simp [g2];omega) (bz.AY hLr hLp fun j v hj=>by rw [hLf] at hj;simpa using g3 j v hj);refine Ba jt hE rfl rfl NO ?_;rw [<- hLl];exact .own _ _ 0 _ _ aeV ⟨w.heap.size,0,e,aeR L,fin.toArray.size⟩ _ G (Loc.ez _ _ _) rfl (by show 0+aeR L<=aeR L;omega) (If _) (by omega) (fun h=>by cases h) (.inr ⟨by show (aeR L)≠0;omega,by simp,by show 0+(0+G)*e<=fin.toArray.size;simp [g2]⟩)
 ·
  obtain rfl:k=len:=by omega
  have aiY:rows.take k++new++rows.drop k=rows++new:=by rw [adc (by omega),aec (by omega),List.append_nil]
  rw [aiY];have aiZ:VR im loc (.own t e 0 k k aeV) (.slice a k cw):= .own t e 0 k k aeV li a cw hl he (by omega) (If _) (by omega) (by simp) Cp;have xY:rowsOf az e (.own u e 0 1 PW ex2)=aeS new:=by
   have:(new.drop 0).take 1=new:=by rw [aeJ,adc (by omega)]
   show (if AC e e=aeU then (match az[u]? with|some (.arr _ rows)=>aeS ((rows.drop 0).take 1)|_=>aeT) else aeT)=_;rw [rc (Nat.beq_refl e),hsu];exact congrArg aeS this
  have hap:hJ az fz e (.own t e 0 k k aeV) (.own u e 0 1 PW ex2)=aeS {v:= .own (aeR az) e 0 (k+1) (k+1) aeV,news:=[.arr e (rows++new)],wr:=[(t,.dead)],rd:=[u]}:=by
   have h1:ad2 (k+1) k=aeV:=by
    cases h:ad2 (k+1) k with
    |false=>rfl
    |true=>have:=Nat.le_of_ble_eq_true h;omega
   have h2:ad2 (k+1) kI=aeU:=by simpa [kI] using j8
   have h3:(rows.drop 0).take k=rows:=by rw [aeJ,adc (by omega)]
   unfold hJ;rw [xY];cases new with
   |nil=>exact absurd rfl YJ
   |cons r rs=>have h0:(r::rs).length=1:=zC;simp only [h0,bK,h1,h2,h3,Pe,hG];simp
  obtain ⟨v',w',ba,bG,nE,hE⟩:=Dd (P:=P) (w:=w) (ty:=tS) ht ht hi nJ hz SN Ku aiZ YG hap (jt.NX Pe rfl);refine (H.ends a k cw lj.cX lj.sh PX w w' v' (by omega) bG).mono fun x W ⟨hx,hW⟩=>⟨v',hx,im,ba,?_⟩
  subst hW;exact Ba jt hE rfl rfl NO nE
end
end Go.Vm
/- A table of functions as a tree. -/
namespace Go.Vm
inductive TT where
 |nil
 |leaf (k:Nat) (e:Sr)
 |node (m:Nat) (a b:TT)
def TT.get:TT->Nat->Option Sr
 | .nil,_=>aeT
 | .leaf k e,f=>bif AC f k then aeS e else aeT
 | .node m a b,f=>bif adG f m then a.get f else b.get f
def TT.All (p:Nat->Sr->Prop):TT->Prop
 | .nil=>True
 | .leaf k e=>p k e
 | .node _ a b=>a.All p/\b.All p
theorem TT.zP {p:Nat->Sr->Prop}: ∀{t:TT} {f:Nat} {e:Sr},t.All p->t.get f=aeS e->p f e
 | .nil,f,e,_,h=>by cases h
 | .leaf k e',f,e,ha,h=>by
  simp only [TT.get] at h;cases hk:AC f k with
  |false=>rw [hk] at h;cases h
  |true=>
   rw [hk] at h;have:f=k:=by simpa using hk
   subst this;have h:aeS e'=aeS e:=h;injection h with h;subst h;exact ha
 | .node m a b,f,e,ha,h=>by
  simp only [TT.get] at h;cases hk:adG f m with
  |false=>rw [hk] at h;exact TT.zP ha.2 h
  |true=>rw [hk] at h;exact TT.zP ha.1 h
def wa (P:Program) (f:Nat):Sr->Prop
 | .code x=>aA P (fun _=>aeU) x f=aeU
 | .ir k p=>k=aeV/\yI P f p
 | .Nl p=>NG P f p
theorem TT.PY {P:Program} {t:TT} (h:t.All (wa P)):DD P (fun _=>aeU) t.get:=fun f x hf=>by have:=TT.zP h hf;exact this
theorem TT.CL {P:Program} {t:TT} (h:t.All (wa P)):rL P t.get:=⟨fun _ _ _ hf=>TT.zP h hf,fun _ _ hf=>TT.zP h hf⟩
end Go.Vm
/- The logical machine's code of a function, reckoned from the model's own (what it comes to is looked at by chkFunc; nothing is proved of it here). -/
namespace Go.Vm
structure Hint where
 md:FuncId->CM
 fc:List Nat
 ai0:List (Nat×List (Nat×Nat)):=[]
 more:List (Nat×List (Nat×Option Nat)):=[]
 tb:Bool:=aeV
section
variable (P : Program)
def NY (t:TypeId):Nat:=match P.info? t with
 |some i=>i.size
 |none=>0
def KN (t:TypeId):Option Nat:=match P.underlying t with
 |some (.struct _)|some (.array _ _)=>aeS (NY P t)
 |_=>aeT
def sD:Nat->TypeId->List PV
 |0,_=>[]
 |n+1,t=>match P.underlying t with
  |some (.int k)=>[.int k 0]
  |some .bool=>[.bool aeV]
  |some .string=>[.str .empty]
  |some (.slice e)=>[.sl (NY P e) aeU []]
  |some (.struct fs)=>fs.toList.flatMap fun f=>sD n f.type
  |some (.array m e)=>(adB m (sD n e)).flatten
  |some (.func ..)=>[.dv]
  |_=>[.undef]
def XA (t:TypeId):PV:=match sD P 9 t with
 |x::_=>x
 | []=> .sl 0 aeU []
def XB (t:TypeId):PV:=match KN P t with
 |some _=> .agg (sD P 9 t)
 |none=>XA P t
def XC (z:PV):Value->PV
 | .int k n=> .int k n
 | .bool b=> .bool b
 | .string s=> .str s
 | .slice .. =>z
 | .nilFunc=> .dv
 |_=> .undef
def XD:List PV->List Value->List PV
 |z::zs,v::vs=>XC z v::XD zs vs
 |_,_=>[]
def ai1 (t:TypeId):Value->PV
 | .agg vs=> .agg (XD (sD P 9 t) vs.toList)
 |v=>XC (XA P t) v
def p6 (t:TypeId):Operand->eL
 | .tmp n=> .t n
 | .const v=> .c (ai1 P t v)
 | .func f=> .c (.ed f [] [])
 | .global _=> .c .undef
def PZ:List TypeId->List Operand->List eL
 |t::ts,o::os=>p6 P t o::PZ ts os
 |_,_=>[]
def fH:Operand->eL
 | .tmp n=> .t n
 | .const (.int k n)=> .c (.int k n)
 | .const (.bool b)=> .c (.bool b)
 | .const (.string s)=> .c (.str s)
 | .func f=> .c (.ed f [] [])
 |_=> .c .undef
def yd (t:TypeId):TypeId:=match P.underlying t with
 |some (.slice e)=>e
 |some (.array _ e)=>e
 |_=>0
def P0 (place:Nat->Option (Nat×Nat)) (ty:Nat->TypeId):List (Nat×Operand)->List (Nat×Nat×eL)
 | []=>[]
 |(i,o)::r=>match place i with
  |some (a,b)=>(a,b,p6 P (ty i) o)::P0 place ty r
  |none=>[]
def P1 (t:TypeId) (i:Nat):TypeId:=match P.underlying t with
 |some (.struct fs)=>match fs[i]? with
  |some f=>f.type
  |none=>0
 |some (.array _ e)=>e
 |_=>0
def aff (t:TypeId) (i:Nat):Nat:=match P.underlying t with
 |some (.struct fs)=>match fs[i]? with
  |some f=>f.offset
  |none=>0
 |_=>0
def XE:BinOp->Bool
 | .neq=>aeU
 |_=>aeV
def P2 (b:Builtin) (args:List Operand) (ts:List TypeId):jL:=
 match b,args,ts with
 | .len,x::_,t::_=>match P.underlying t with
  |some (.slice _)|some (.map _ _)=> .len (p6 P t x)
  |some (.array m _)=> .Kn m
  |some (.pointer e)=>match P.underlying e with
   |some (.array m _)=> .Kn m
   |_=> .bad
  |_=> .bad
 | .append,[x,y],[t,u]=>match P.underlying u with
  |some (.slice _)=> .append (NY P (yd P t)) (p6 P t x) (p6 P u y)
  |_=> .bad
 | .copy,[x,y],[t,u]=>match P.underlying u with
  |some (.slice _)=> .copy (NY P (yd P t)) (p6 P t x) (p6 P u y)
  |_=> .bad
 | .clear,[x],[t]=>match P.underlying t with
  |some (.slice e)=> .clear (NY P e) (sD P 9 e) (p6 P t x)
  |_=> .bad
 | .min,x::xs,_=> .mm aeV (fH x) (xs.map fH)
 | .max,x::xs,_=> .mm aeU (fH x) (xs.map fH)
 |_,_,_=> .bad
def cOp (tb:Bool) (md:FuncId->CM) (ty:TypeId):Op->jL
 | .move x| .assign x=> .OV (p6 P ty x)
 | .pick c a b=> .pick (fH c) (p6 P ty a) (p6 P ty b)
 | .binOp op t x y _=>match P.underlying t with
  |some (.int _)=> .bin op (fH x) (fH y)
  |some .bool=> .HP (XE op) (fH x) (fH y)
  |some (.struct _)|some (.array _ _)=> .Xc (NY P t) (XE op) (p6 P t x) (p6 P t y)
  |_=> .bad
 | .unOp op _ x=> .un op (fH x)
 | .convert _ t x=>match P.underlying t with
  |some (.int k)=> .conv k (fH x)
  |_=> .bad
 | .box t x=> .box (p6 P t x)
 | .alloc t=> .alloc (sD P 9 t)
 | .build t ps=> .build (sD P 9 t) (P0 P (placeOf P t) (P1 P t) ps.toList)
 | .buildSlice t n ps=>match P.underlying (yd P t),n,ps.toList with
  |some (.slice _),2,[(0,a),(1,b)]=> .BM (p6 P (yd P t) a) (p6 P (yd P t) b)
  |_,_,_=> .zt (NY P (yd P t)) n (sD P 9 (yd P t)) (ps.toList.map fun p=>(p.1,p6 P (yd P t) p.2))
 | .load t a=> .load (KN P t) (fH a)
 | .store t a v=> .store (NY P t) (fH a) (p6 P t v)
 | .nilCheck x=> .HQ (fH x)
 | .fieldAddr t a f=> .HR (aff P t f) (fH a)
 | .field t a f=> .iq (KN P (P1 P t f)) (aff P t f) (fH a)
 | .indexAddr t a j=>match P.underlying t with
  |some (.slice e)=> .HS (NY P e) (p6 P t a) (fH j)
  |some (.array m e)=> .BN m (NY P e) (fH a) (fH j)
  |_=> .bad
 | .index t a j=>match P.underlying t with
  |some (.array m e)=> .idx m (NY P e) (KN P e) (p6 P t a) (fH j)
  |some .string=> .HT (fH a) (fH j)
  |_=> .bad
 | .slice t a b c d=>match P.underlying t with
  |some (.slice e)=> .Nk (NY P e) (p6 P t a) (b.map fH) (c.map fH) (d.map fH)
  |_=> .bad
 | .makeSlice t a b=> .Xd (NY P (yd P t)) (sD P 9 (yd P t)) (fH a) (fH b)
 | .makeFunc (.func g) c d=> .Xe g (c.toList.map fH) (d.toList.map fH)
 | .makeMap t _=> .Xf (bif tb then (match P.underlying t with
  |some (.map _ e)=>aeS (XB P e)
  |_=>aeT) else aeT)
 | .extract a j=> .ext j (fH a)
 | .lookup t a b ok=>match P.underlying t with
  |some (.map k e)=> .lookup (KN P k) (XB P e) ok (fH a) (p6 P k b)
  |_=> .bad
 | .mapUpdate t a b c| .insert t a b c=>match P.underlying t with
  |some (.map k e)=> .Gt (KN P k) (fH a) (p6 P k b) (p6 P e c)
  |_=> .bad
 | .call c=>match c.callee with
  | .builtin b=>P2 P b c.args.toList c.argTypes.toList
  | .value (.func f)=> .call (md f) f (PZ P c.argTypes.toList c.args.toList)
  | .value x=> .u4 (fH x) (PZ P c.argTypes.toList c.args.toList)
  |_=> .bad
 |_=> .bad
def afg (tb:Bool) (md:FuncId->CM) (ops:Array Oper) (o:Oper):bD:=
 ⟨o.dst,cOp P tb md o.type o.op,match o.guard with
  |some (i,b)=>match ops[i]? with
   |some q=>match q.dst with
    |some d=>aeS (d,b)
    |none=>aeT
   |none=>aeT
  |none=>aeT⟩
def P3:List Nat->List Oper->List Nat
 |acc,[]=>acc
 |acc,o::os=>P3 (acc++[(lX acc (aeR acc) o.after.toList).getD 0]) os
def bitsOf:Nat->Nat->Nat->List Nat
 |0,_,_=>[]
 |n+1,i,m=>bif AC m 0 then [] else bif AC (Nat.mod m 2) 1 then i::bitsOf n (i+1) (Nat.div m 2) else bitsOf n (i+1) (Nat.div m 2)
def P4 (l:List (Nat×Nat)) (x:Nat):Nat×Option Nat:=match l with
 | []=>(x,aeT)
 |(t,k)::r=>bif AC t x then (x,aeS k) else P4 r x
def P5 {α:Type} (n:Nat):List (Nat×List α)->List α
 | []=>[]
 |(m,l)::r=>bif AC m n then l else P5 n r
def hd (l:List Nat):Nat:=match l with
 |x::_=>x
 | []=>0
structure CSt where
 ks:List Nat
 n:Nat
def DE (H:Hint):Code->CSt->iF×CSt
 | .region _ ops dr,s=>(.region (match dr with|true=>aeS (P3 [] ops.toList)|false=>aeT) (ops.toList.map (afg P H.tb H.md ops)) (bitsOf 1000 0 (hd s.ks)),⟨s.ks.tail,s.n⟩)
 | .seq a b,s=>match DE H a s with
  |(x,s1)=>match DE H b s1 with
   |(y,s2)=>(.seq x y,s2)
 | .cond c a b,s=>match DE H a s with
  |(x,s1)=>match DE H b s1 with
   |(y,s2)=>(.cond (fH c) x y,s2)
 | .block id b,s=>match DE H b s with
  |(x,s1)=>(.block id x,s1)
 | .loop b,s=>match DE H b ⟨s.ks.tail,s.n+1⟩ with
  |(x,s1)=>(.loop ((bitsOf 1000 0 (hd s.ks)).map (P4 (P5 s.n H.ai0))++P5 s.n H.more) x,s1)
 | .exit id,s=>(.exit id,s)
 | .ret,s=>(.ret,s)
 |_,s=>(.skip,s)
def ai2:ResultVar->RV
 | .tmp t=> .tmp t
 | .cell t ty=> .cell t (KN P ty)
def afh (fn:Func) (H:Hint):aL:=
 ⟨fn.params.size+fn.nfree,match fn.body with
  |some c=>(DE P H c ⟨H.fc,0⟩).1
  |none=> .skip,fn.results.toList.map (ai2 P)⟩
def ai3 (ow sh fp:List Nat) (f:FuncId):CM:=bif has ow f then .own else bif has sh f then .shr else bif has fp f then .fp else .Sq
end
end Go.Vm
/- A law's row from what the logical machine answers: the result is aeU, nothing that was there has turned. -/
namespace Go.Vm
open Go.ChangeShapes Go.WideShapes Go.ChangeAt Go.RowKit
section
variable {H : Type} {enc : TypeId × Value -> H} {P : Program}
theorem ye (hl:laidOutB P=aeU) {W W':World} (hb:Below W.heap.size W W'): ∀{ts:List TypeId} {vs:List Value} {ds:List (DataW H)} {ps:List MemPlace},(∀t∈ts,P.readableRec t=aeU/\t<P.types.size)->
 DataW.TrodAll enc P W 0 (fun _=>aeU) aeU ts vs ds ps->(∀x∈ps,x.block<W.heap.size)->DataW.TrodAll enc P W' 0 (fun b=>decide (b<W.heap.size)) aeU ts vs ds ps
 | [],vs,ds,ps,_,h,_=>by obtain ⟨rfl,rfl,rfl⟩:=trodAll_nil h;exact trodAll_mk0
 |t::ts,vs,ds,ps,ht,h,cY=>by obtain ⟨v,Kh,d,wb,p,q,rfl,rfl,rfl,h1,h2⟩:=trodAll_cons h;obtain ⟨h3,h4⟩:=ht t (by simp);exact trodAll_cons_mk (Below.trod hl h3 h4 h1 hb fun x hx=>cY x (by simp [hx])) (ye hl hb (fun t' Mk=>ht t' (by simp [Mk])) h2 fun x hx=>cY x (by simp [hx]))
theorem P6 (hl:laidOutB P=aeU) {f:Func} {s:ChangeSpec} {W W':World} {args:Array Value} {ds:List (DataW H)} {before:List MemPlace} {bt:TypeId} (afi:s.vars=[]) (zO:f.resultTypes= #[bt]) (hbt:P.underlying bt=aeS .bool)
 (hp: ∀t∈f.params.toList,P.readableRec t=aeU/\t<P.types.size) (hW:DataW.Whole enc P f.params.toList s.vars aeV W args.toList ds [] before)
 (CN:s.fn H (ds++[])={results:=[.lit (.bool aeU)],args:=ds}) (hb:Below W.heap.size W W'):s.post enc P f aeV aeU aeV aeV W args (.bool aeU) W':=by
 have hW':=hW;obtain ⟨p,q,hA,hV,rfl,Pe,E7⟩:=hW;have cY: ∀x∈p++q,x.block<W.heap.size:=fun x hx=>by simpa using hW'.lt x hx
 refine ⟨ds,[],p++q,[],p,[],hW',?_,?_,?_,hb.frame _,fun h=>by cases h⟩
 · rw [CN,zO]
   exact trodAll_mk1 (shut_bool hbt aeU)
 · rw [CN]
   exact ye hl hb hp hA fun x hx=>cY x (by simp [hx])
 rw [CN,afi]
 rfl
end
def Fj (w:World):Im:=fun b=>w.heap[b]?
theorem NZ {w:World} {b o:Nat} {v:Value} (h:w.cell? ⟨b,o,aeT⟩=aeS v):kV (Fj w) b o=aeS v:=by unfold aeG at h;unfold kV Fj;exact h
theorem N0 {P:Program} {F:jM} {prims:FuncId->Bool} (hT:DD P prims F) (vY:rL P F) (nG:P.follows .mixedOrders=aeU) {f:FuncId} {args:List PV} {s:bS} {z:List Nat} {n:Nat} {us:List Value} {w:World}
 (h:run F n (.func f args [] [])=aeS (.func (.bool aeU) s z)) (xh:eo (Fj w) eZ args us):Calls P f ⟨us⟩ w fun e w'=>e= .returned (.bool aeU)/\Below w.heap.size w w':=by
 refine (A' hT vY nG h (im:=Fj w) (fun b o h=>h) xh).mono fun e w' ⟨u,he,⟨dK,ba,nE,_⟩,h1,h2,h3,h4,h5⟩=>?_
 obtain rfl:=nE.iR;exact ⟨he,⟨h1,h2.eq,h3,h4,h5⟩⟩
end Go.Vm
/- Regions of one order, step by step, for contracts. -/
namespace Go.Vm
def Bb:jL->Bool
 | .call .. | .u4 .. =>aeU
 |_=>aeV
variable {F : jM}
def WS (F:jM) (ops:List bD) (st:St) (Q:St->Prop):Prop:= ∀tr,WO F ops st tr (fun s _=>Q s)
def GR (st:St) (o:bD):Option St:=
 match wanted o.guard st.env with
 |some aeU=>match bq st.env st.az st.fz o.op with
  |some x=>if (XR.loc x).ok st.fz then aeS ((XR.loc x).next o.dst st) else aeT
  |none=>aeT
 |some aeV=>aeS {st with env:=gW o.dst .iI st.env}
 |none=>aeT
theorem GS {rec:Task->Option Out} {e:Env} {az:bS} {fz:List Nat} {op:jL} (h:Bb op=aeV):
 u6 F rec e az fz op=(bq e az fz op).map .loc:=by
 cases op<;>first|rfl|cases h
theorem WS.nil {st:St} {Q:St->Prop} (h:Q st):WS F [] st Q:=fun _=>WO.nil h
theorem WS.cons {o:bD} {r:List bD} {st jE:St} {Q:St->Prop} (h:Bb o.op=aeV) (hs:GR st o=aeS jE) (k:WS F r jE Q):WS F (o::r) st Q:=by
 intro tr;unfold GR at hs;split at hs
 · rename_i hw
   split at hs
   · rename_i x hx
     split at hs
     · rename_i yw
       injection hs with hs;subst hs;exact WO.op x hw (fun rec=>by rw [GS h,hx];rfl) yw (k _)
     cases hs
   cases hs
 · rename_i hw
   injection hs with hs;subst hs;exact WO.skip hw (k _)
 cases hs
theorem WS.one {o:bD} {r:List bD} {st:St} {Q:St->Prop} (x:mC) (hc:Bb o.op=aeV) (hw:wanted o.guard st.env=aeS aeU) (hx:bq st.env st.az st.fz o.op=aeS x) (yw:(XR.loc x).ok st.fz=aeU)
 (k:WS F r ((XR.loc x).next o.dst st) Q):WS F (o::r) st Q:=fun tr=>
 WO.op x hw (fun rec=>by rw [GS hc,hx];rfl) yw (k _)
def CO:List bD->St->Option St
 | [],st=>aeS st
 |o::r,st=>match Bb o.op with
  |true=>aeT
  |false=>match GR st o with
   |some jE=>CO r jE
   |none=>aeT
theorem WS.all: ∀{ops:List bD} {st jE:St} {Q:St->Prop},CO ops st=aeS jE->Q jE->WS F ops st Q
 | [],st,jE,Q,h,hq=>by simp only [CO,ww] at h;subst h;exact WS.nil hq
 |o::r,st,jE,Q,h,hq=>by
  simp only [CO] at h;cases hc:Bb o.op with
  |true=>rw [hc] at h;cases h
  |false=>
   rw [hc] at h;dsimp only at h;cases hs:GR st o with
   |none=>rw [hs] at h;cases h
   |some s1=>rw [hs] at h;exact WS.cons hc hs (WS.all h hq)
theorem WS.pure {d:Option Nat} {g:Option (Nat×Bool)} {f:FuncId} {as:List eL} {r:List bD} {st:St} {Q:St->Prop}
 {args:List PV} {v:PV} (h:Pure F f args v) (hw:wanted g st.env=aeS aeU) (ha:AL st.az (vt st.az deep) (C3 st.env as)=aeS args)
 (k:WS F r {st with env:=gW d v st.env} Q):WS F (⟨d,.call .Sq f as,g⟩::r) st Q:=fun tr=>by
 refine WO.pure h hw ha ?_;have:=k (XR.tr (aeR st.az) (.loc {v,rd:=cQ (cD st.az deep) (C3 st.env as)})::tr);simpa [XR.next,pX,fv] using this
theorem WS.shr {d:Option Nat} {g:Option (Nat×Bool)} {f:FuncId} {as:List eL} {r:List bD} {st:St} {Q:St->Prop}
 (hw:wanted g st.env=aeS aeU) (h:yx F f (C3 st.env as) st.az st.fz fun v s z=>(ad2 (aeR st.az) (aeR s)&&st.fz.all (has z))=aeU/\WS F r {st with env:=gW d v st.env,az:=s,fz:=z} Q):
 WS F (⟨d,.call .shr f as,g⟩::r) st Q:=fun tr=>by
 obtain ⟨n,v,s,z,hr,hc,hk⟩:=h;refine WO.call (.shr v s z) hw ⟨n,?_⟩ rfl (hk _);simp only [u6,ff,hr];rw [rc hc]
end Go.Vm
/- Plain terms for what a function computes: loops, elements of lists, numbers; and the machine's loop over a plain one. -/
namespace Go.Vm
inductive Step (σ ρ:Type) where
 |next (s:σ)
 |done (r:ρ)
section
variable {σ ρ : Type}
def mK (body:σ->Option (Step σ ρ)):Nat->σ->Option ρ
 |0,_=>aeT
 |n+1,x=>match body x with
  |some (.next y)=>mK body n y
  |some (.done r)=>aeS r
  |none=>aeT
open Classical in
noncomputable def KO (body:σ->Option (Step σ ρ)) (x:σ):Option ρ:=
 if h: ∃n r,mK body n x=aeS r then mK body h.choose x else aeT
theorem yM {body:σ->Option (Step σ ρ)}: ∀{n:Nat} {x:σ} {r:ρ},mK body n x=aeS r-> ∀k,mK body (n+k) x=aeS r
 |0,x,r,h,_=>by cases h
 |n+1,x,r,h,k=>by
  rw [show n+1+k=(n+k)+1 by omega];simp only [mK] at h ⊢;split at h
  · exact yM h k
  · exact h
  cases h
theorem N1 {body:σ->Option (Step σ ρ)} {n m:Nat} {x:σ} {r s:ρ} (h:mK body n x=aeS r) (k:mK body m x=aeS s):r=s:=by have h1:=yM h m;have h2:=yM k n;rw [Nat.add_comm m n] at h2;rw [h1] at h2;exact aed h2
theorem BW {body:σ->Option (Step σ ρ)} {x:σ} {r:ρ}:KO body x=aeS r↔ ∃n,mK body n x=aeS r:=by
 unfold KO;constructor
 · intro h
   split at h
   · exact ⟨_,h⟩
   cases h
 rintro ⟨n,hn⟩
 have hex: ∃n r,mK body n x=aeS r:=⟨n,r,hn⟩;rw [dif_pos hex];obtain ⟨s,hs⟩:=hex.choose_spec;rw [hs,N1 hs hn]
end
noncomputable def Mn {σ ρ:Type} (b:Option Nat) (body:σ->Option (Step σ ρ)) (x:σ):Option ρ:=
 match b with
 |none=>KO body x
 |some N=>mK body N x
theorem IG {σ ρ:Type} {b:Option Nat} {body:σ->Option (Step σ ρ)} {x:σ} {r:ρ} (h:Mn b body x=aeS r): ∃n,mK body n x=aeS r:=by
 cases b with
 |none=>exact BW.1 h
 |some N=>exact ⟨_,h⟩
class LP where
 w:Option Nat
abbrev LP.of (n:Nat):LP:=⟨aeS n⟩
noncomputable def aD [LP] {σ ρ:Type} (body:σ->Option (Step σ ρ)) (x:σ):Option ρ:=Mn LP.w body x
def aF [LP]:Option Nat:=LP.w
theorem afj {α β:Type} {x:Option α} {f:α->Option β} {r:β} (h:x.bind f=aeS r): ∃a,x=aeS a/\f a=aeS r:=by
 cases x with
 |none=>cases h
 |some a=>exact ⟨a,rfl,h⟩
def XF {α ρ:Type} (x:Option α) (f:α->Option ρ):Option ρ:=x.bind f
def XG {ρ:Type} (c:Bool) (a b:Option ρ):Option ρ:=cond c a b
theorem KP {α ρ:Type} {x:Option α} {f:α->Option ρ} {y:ρ} (h:XF x f=aeS y): ∃a,x=aeS a/\f a=aeS y:=afj h
theorem KQ {ρ:Type} {c:Bool} {a b:Option ρ} {y:ρ} (h:XG c a b=aeS y):(c=aeU/\a=aeS y)\/(c=aeV/\b=aeS y):=by
 cases c
 · exact .inr ⟨rfl,h⟩
 exact .inl ⟨rfl,h⟩
def aC {α:Type} (l:List α) (i:Int):Option α:=
 match i with
 | .ofNat n=>l[n]?
 | .negSucc _=>aeT
def bP {α:Type} (l:List α) (i:Int) (a:α):List α:=l.set i.toNat a
theorem lY {α:Type} {l:List α} {i:Int} {a:α} (h:aC l i=aeS a): ∃n:Nat,i=aev n/\l[n]? =aeS a:=by
 unfold aC at h;split at h
 · exact ⟨_,rfl,h⟩
 cases h
@[simp] theorem wc {α:Type} (l:List α) (i:Int) (a:α):(bP l i a).length=(aeR l):=by simp [bP]
def bL {α:Type} (l:List α) (m:List α):Option (List α):=if (aeR l)+aeR m<=1048576 then aeS (l++m) else aeT
def zQ {α:Type} (n:Int) (z:α):Option (List α):=if 0<=n/\n<=1048576 then aeS (adB n.toNat z) else aeT
def gD {α:Type} (l:List α) (lo hi:Int):Option (List α):=if 0<=lo/\lo<=hi/\hi<=(aeR l) then aeS ((l.drop lo.toNat).take (hi.toNat-lo.toNat)) else aeT
def cz {α:Type} (l:List α):Option (List α):=if (aeR l)<=1048576 then aeS l else aeT
def YL {α:Type} (l m:List α):Option (List α):=if 1<=aeR l+aeR m/\aeR l+aeR m<=1048576 then aeS (l++m) else aeT
def GU {α:Type} (l:List α) (i:Int) (m:List α):Option (List α):=if 0<=i/\i.toNat<=aeR l/\aeR m=1/\aeR l+1<=1048576 then aeS (l.take i.toNat++m++l.drop i.toNat) else aeT
def DF {α:Type} (f:List α->Option (List α)) (l:List α):Option (List α):=
 if (aeR l)<=1048576 then (match f l with
 |some m=>if (aeR m)=(aeR l) then aeS m else aeT
 |none=>aeT) else aeT
def GV {α:Type} (f:List α->Option (List α)) (n:Nat) (l:List α):Option (List α):=if n<=(aeR l) then (DF f (l.take n)).map (· ++l.drop n) else aeT
def Cs (k:IntKind) (a b:Int):Int:=k.wrap (BitVec.ofInt k.bits a&&&BitVec.ofInt k.bits b).toNat
def bOr (k:IntKind) (a b:Int):Int:=k.wrap (BitVec.ofInt k.bits a|||BitVec.ofInt k.bits b).toNat
def ai4 (k:IntKind) (a b:Int):Int:=k.wrap (BitVec.ofInt k.bits a^^^BitVec.ofInt k.bits b).toNat
def Te (k:IntKind) (a b:Int):Int:=k.wrap (BitVec.ofInt k.bits a&&& ~~~ BitVec.ofInt k.bits b).toNat
def ai5 (k:IntKind) (a b:Int):Int:=k.wrap (a*2^(min b.toNat k.bits))
def my (k:IntKind) (a b:Int):Int:=a.fdiv (2^(min b.toNat k.bits))
def XH (s:ByteArray) (i:Int):Option Int:=
 match i with
 | .ofNat n=>s[n]?.map fun b=>(b.toNat:Int)
 | .negSucc _=>aeT
def Ct (l:List (List Int)) (k:List Int):Bool:=l.any fun m=>k==m
def KR (l:List (List Int)) (k:List Int):List (List Int):=bif Ct l k then l else l++[k]
def mL (a:List Int) (l:List (List Int)):Bool:=l.all fun b=>AC (aeR b) (aeR a)
def IH (l:List (List Int)) (k:List Int):Option Bool:=bif mL k l then aeS (Ct l k) else aeT
def II (l:List (List Int)) (k:List Int):Option (List (List Int)):=bif mL k l then aeS (KR l k) else aeT
def BX {α:Type} (z:α):List (Int×α)->Int->α
 | [],_=>z
 |p::r,k=>bif k==p.1 then p.2 else BX z r k
def BY {α:Type}:List (Int×α)->Int->α->List (Int×α)
 | [],k,a=>[(k,a)]
 |p::r,k,a=>bif k==p.1 then (k,a)::r else p::BY r k a
section
variable {F : jM}
end
end Go.Vm
/- A logical machine over typed values: it turns a function's code into a plain term. What it computes is tied to the logical machine in SvRun. -/
namespace Go.Vm
inductive PT where
 |i (k:IntKind)
 |b
@[reducible] def PT.T : PT -> Type
  | .i _ => Int
  | .b => Bool
@[reducible] def RT : List PT -> Type
  | [] => Unit
  | [p] => p.T
  | p :: q :: r => p.T × RT (q :: r)
inductive SV where
 |ga
 |undef
 |iI
 |dv
 |int (k:IntKind) (n:Int)
 |bool (b:Bool)
 |str (s:ByteArray)
 |agg (cs:List SV)
 |bT (cs:List SV)
 |sl (r:List PT) (l:List (RT r))
 |nil (e:Nat) (c:Bool)
 |own (t:Nat) (ex:Bool)
 |pre (t len cap:Nat) (ex:Bool)
 |part (t off len cap:Nat) (ex:Bool)
 |pa (t:Nat) (r:List PT) (i:Int) (a:RT r) (off:Nat)
 |pb (t:Nat) (i:Int) (off:Nat)
 |bp (t n off:Nat)
 |bw (cs:List SV) (off:Nat)
 |ed (f:FuncId) (a b:List SV)
 |mp (t:Nat)
inductive SB where
 |arr (r:List PT) (l:List (RT r))
 |box (cs:List SV)
 |set (l:List (List Int))
 |bF (p:PT) (l:List (RT [.i .i64,p]))
 |dead
abbrev SE:=List (Nat×SV)
structure nO where
 env:SE
 az:List SB
 fz:List Nat
 kn:Nat
structure Rows where
 r:List PT
 l:List (RT r)
def PT.same:PT->PT->Bool
 | .i k,.i l=>eG k l
 | .b,.b=>aeU
 |_,_=>aeV
def zR:List PT->List PT->Bool
 | [],[]=>aeU
 |p::r,q::s=>p.same q&&zR r s
 |_,_=>aeV
theorem PT.Mo: ∀{p q:PT},p.same q=aeU->p=q
 | .i k,.i l,h=>by rw [eu.1 h]
 | .b,.b,_=>rfl
 | .i _,.b,h=>by cases h
 | .b,.i _,h=>by cases h
theorem th: ∀{r s:List PT},zR r s=aeU->r=s
 | [],[],_=>rfl
 |p::r,q::s,h=>by simp only [zR,v6] at h;rw [PT.Mo h.1,th h.2]
 | [],_::_,h=>by cases h
 |_::_,[],h=>by cases h
def qH (r q:List PT) (l:List (RT r)):Option (List (RT q)):=if h:zR r q=aeU then aeS (th h▸l) else aeT
def PT.pv:(p:PT)->p.T->PV
 | .i k,n=> .int k n
 | .b,x=> .bool x
def RT.pv:(r:List PT)->RT r->List PV
 | [],_=>[]
 | [p],a=>[p.pv a]
 |p::q::r,a=>p.pv a.1::RT.pv (q::r) a.2
def PT.sv:(p:PT)->p.T->SV
 | .i k,n=> .int k n
 | .b,x=> .bool x
def RT.sv:(r:List PT)->RT r->List SV
 | [],_=>[]
 | [p],a=>[p.sv a]
 |p::q::r,a=>p.sv a.1::RT.sv (q::r) a.2
def PT.of:(p:PT)->SV->Option p.T
 | .i k,.int l n=>bif eG l k then aeS n else aeT
 | .b,.bool x=>aeS x
 |_,_=>aeT
def RT.of:(r:List PT)->List SV->Option (RT r)
 | [],[]=>aeS ()
 | [p],[v]=>p.of v
 |p::q::r,v::vs=>match p.of v,RT.of (q::r) vs with
  |some a,aeS b=>aeS (a,b)
  |_,_=>aeT
 |_,_=>aeT
def PT.zero:(p:PT)->p.T
 | .i _=>(0:Int)
 | .b=>aeV
def RT.zero:(r:List PT)->RT r
 | []=>()
 | [p]=>p.zero
 |p::q::r=>(p.zero,RT.zero (q::r))
def bJ:PV->Option PT
 | .int k n=>match n with
  | .ofNat 0=>aeS (.i k)
  |_=>aeT
 | .bool b=>match b with
  |false=>aeS .b
  |true=>aeT
 |_=>aeT
def DG:List PV->Option (List PT)
 | []=>aeS []
 |v::vs=>match bJ v,DG vs with
  |some p,aeS r=>aeS (p::r)
  |_,_=>aeT
def nth {α:Type}:List α->Nat->Option α
 | [],_=>aeT
 |x::_,0=>aeS x
 |_::r,n+1=>nth r n
theorem bM {α:Type}: ∀(l:List α) (n:Nat),nth l n=l[n]?
 | [],n=>by simp [nth]
 |x::r,0=>by simp [nth]
 |x::r,n+1=>by simp [nth,bM r n]
def BZ (t:Nat):SE->SV
 | []=> .undef
 |(s,v)::r=>bif AC s t then v else BZ t r
def yN (t:Nat) (v:SV):SE->SE
 | []=>[]
 |(s,x)::r=>bif AC s t then (s,v)::r else (s,x)::yN t v r
mutual
def Tf:PV->SV
 | .undef=> .undef
 | .iI=> .iI
 | .dv=> .dv
 | .int k n=> .int k n
 | .bool b=> .bool b
 | .str s=> .str s
 | .agg cs=> .agg (zS cs)
 | .bT cs=> .bT (zS cs)
 | .sl e c rows=>match rows with
  | []=> .nil e c
  |_=> .ga
 | .ed f a b=> .ed f (zS a) (zS b)
 |_=> .ga
def zS:List PV->List SV
 | []=>[]
 |x::xs=>Tf x::zS xs
end
def bE (e:SE):eL->SV
 | .t n=>BZ n e
 | .c v=>Tf v
def iT (e:SE):List eL->List SV
 | []=>[]
 |x::xs=>bE e x::iT e xs
def SV.oP:SV->Bool
 | .ga| .undef| .iI| .agg _| .bT _=>aeV
 |_=>aeU
def we:List SV->Bool
 | []=>aeU
 |x::xs=>x.oP&&we xs
def SV.cells:SV->List SV
 | .agg cs=>cs
 |v=>[v]
def SV.stored (v:SV):Option (List SV):=bif we v.cells then aeS v.cells else aeT
def yf (agg:Option Nat) (off:Nat) (cs:List SV):Option SV:=
 match agg with
 |some s=>bif ad2 (off+s) (aeR cs) then aeS (.agg ((cs.drop off).take s)) else aeT
 |none=>nth cs off
def oy (off:Nat) (new old:List SV):List SV:=old.take off++new++old.drop (off+aeR new)
def yg (s:List SB):SV->Option Rows
 | .sl r l=>aeS ⟨r,l⟩
 | .own t _=>match nth s t with
  |some (.arr r l)=>aeS ⟨r,l⟩
  |_=>aeT
 | .pre t len _ _=>match nth s t with
  |some (.arr r l)=>aeS ⟨r,l.take len⟩
  |_=>aeT
 | .part t off len _ _=>match nth s t with
  |some (.arr r l)=>aeS ⟨r,(l.drop off).take len⟩
  |_=>aeT
 |_=>aeT
def ud:SV->List Nat
 | .own t _=>[t]
 | .pre t _ _ _=>[t]
 | .part t _ _ _ _=>[t]
 |_=>[]
structure fh where
 v:SV
 news:List SB:=[]
 wr:List (Nat×SB):=[]
 rd:List Nat:=[]
 fr:List Nat:=[]
def fE (R:Type):= ∀ρ:Type,(R->ρ)->Option ρ
section
variable {R : Type}
def B0 (b:R):fE R:=fun _ w=>aeS (w b)
def aO:fE R:=fun _ _=>aeT
def jW {α:Type} (x:Option α) (f:α->fE R):fE R:=fun ρ w=>XF x fun a=>f a ρ w
def fa (c:Bool) (a b:fE R):fE R:=fun ρ w=>XG c (a ρ w) (b ρ w)
def Tg (v:SV) (k:SV->fE R):fE R:=
 match v with
 | .ga=>k .ga
 | .undef=>k .undef
 | .iI=>k .iI
 | .dv=>k .dv
 | .int a b=>k (.int a b)
 | .bool a=>k (.bool a)
 | .str a=>k (.str a)
 | .agg a=>k (.agg a)
 | .bT a=>k (.bT a)
 | .sl a b=>k (.sl a b)
 | .nil a b=>k (.nil a b)
 | .own a b=>k (.own a b)
 | .pre a b c d=>k (.pre a b c d)
 | .part a b c d x=>k (.part a b c d x)
 | .pa a b c d e=>k (.pa a b c d e)
 | .pb a b c=>k (.pb a b c)
 | .bp a b c=>k (.bp a b c)
 | .bw a b=>k (.bw a b)
 | .ed a b c=>k (.ed a b c)
 | .mp a=>k (.mp a)
theorem GW (v:SV) (k:SV->fE R):Tg v k=k v:=by cases v<;>rfl
def KS (op:BinOp) (k:IntKind) (a b:Int) (c:SV->fE R):fE R:=
 match op with
 | .add=>c (.int k (aj k (a+b)))
 | .sub=>c (.int k (aj k (a-b)))
 | .mul=>c (.int k (aj k (a*b)))
 | .quo=>fa (b==0) aO (c (.int k (aj k (Int.tdiv a b))))
 | .rem=>fa (b==0) aO (c (.int k (Int.tmod a b)))
 | .and=>c (.int k (Cs k a b))
 | .or=>c (.int k (bOr k a b))
 | .xor=>c (.int k (ai4 k a b))
 | .andNot=>c (.int k (Te k a b))
 | .eql=>c (.bool (a==b))
 | .neq=>c (.bool (a !=b))
 | .lss=>c (.bool (aeW (a<b)))
 | .leq=>c (.bool (aeW (a<=b)))
 | .gtr=>c (.bool (aeW (b<a)))
 | .geq=>c (.bool (aeW (b<=a)))
 | .shl| .shr=>aO
def eqS:List SV->List SV->Option Bool
 | [],[]=>aeS aeU
 |x::xs,y::ys=>match x,y with
  | .int k a,.int l b=>bif eG k l then (match xs with
   | []=>(match ys with| []=>aeS (a==b)|_=>aeT)
   |_::_=>match eqS xs ys with
    |some r=>aeS (a==b&&r)
    |none=>aeT) else aeT
  |_,_=>aeT
 |_,_=>aeT
def ug:List (Nat×Nat×SV)->List SV->Option (List SV)
 | [],cs=>aeS cs
 |(off,sz,v)::r,cs=>match v.stored with
  |some w=>bif AC (aeR w) sz&&ad2 (off+sz) (aeR cs) then ug r (oy off w cs) else aeT
  |none=>aeT
def wg (e:SE):List (Nat×Nat×eL)->List (Nat×Nat×SV)
 | []=>[]
 |p::r=>(p.1,p.2.1,bE e p.2.2)::wg e r
def Mp (r:List PT) (e:SE) (n:Nat):List (Nat×eL)->Option (List (Nat×RT r))
 | []=>aeS []
 |p::ps=>match RT.of r (bE e p.2).cells,Mp r e n ps with
  |some a,aeS l=>bif adG p.1 n then aeS ((p.1,a)::l) else aeT
  |_,_=>aeT
def rowAt {α:Type} (i:Nat):α->List (Nat×α)->α
 |z,[]=>z
 |z,(j,a)::r=>rowAt i (bif AC j i then a else z) r
def GX {α:Type} (f:Nat->α):Nat->Nat->List α
 |_,0=>[]
 |i,n+1=>f i::GX f (i+1) n
def Bc (e:SE) (d:Int):Option eL->Option Int
 |none=>aeS d
 |some x=>match bE e x with
  | .int _ n=>aeS n
  |_=>aeT
def mmS (isMax:Bool) (k:IntKind):Int->List SV->Option SV
 |a,[]=>aeS (.int k a)
 |a,x::r=>match x with
  | .int l b=>bif eG k l then mmS isMax k (bif isMax then (if b>a then b else a) else (if b<a then b else a)) r else aeT
  |_=>aeT
def Mq:List SV->Option (List Int)
 | []=>aeS []
 |x::xs=>match x,Mq xs with
  | .int .i64 n,aeS l=>aeS (n::l)
  |_,_=>aeT
def Th (n:Option Nat) (v:SV):Option (List Int):=
 match n,v with
 |none,.int .i64 a=>aeS [a]
 |some n,.agg cs=>bif AC (aeR cs) n&&!Nat.beq n 1 then Mq cs else aeT
 |_,_=>aeT
def IJ (n:Nat) (i:Int) (j:Nat) (f:Nat->fE R):fE R:=
 match n with
 |0=>aO
 |n+1=>fa (i==aev j) (f j) (IJ n i (j+1) f)
def j9 {α:Type} (x:Option α) (k:α->fE R):fE R:=
 match x with
 |some a=>k a
 |none=>aO
def YM (k:fh->fE R) (v:SV):fE R:=k {v}
def XI (s:List SB) (esz:Nat) (x:SV) (i:Int) (k:fh->fE R):fE R:=
 match x with
 | .sl r l=>bif AC (aeR r) esz then jW (aC l i) fun a=>k {v:= .bw (RT.sv r a) 0} else aO
 | .own t _=>match nth s t with
  |some (.arr r l)=>bif AC (aeR r) esz then jW (aC l i) fun a=>k {v:= .pa t r i a 0} else aO
  |_=>aO
 | .pre t len _ _=>match nth s t with
  |some (.arr r l)=>bif AC (aeR r) esz then jW (aC (l.take len) i) fun a=>k {v:= .pa t r i a 0} else aO
  |_=>aO
 | .part t off len _ _=>match nth s t with
  |some (.arr r l)=>bif AC (aeR r) esz then jW (aC ((l.drop off).take len) i) fun a=>k {v:= .pa t r (.ofNat (off+i.toNat)) a 0} else aO
  |_=>aO
 |_=>aO
def XJ (s:List SB) (agg:Option Nat) (p:SV) (k:fh->fE R):fE R:=
 match p with
 | .bp t _ off=>match nth s t with
  |some (.box cs)=>j9 (yf agg off cs) fun v=>k {v,rd:=[t]}
  |_=>aO
 | .pa t r _ a off=>match nth s t with
  |some (.arr _ _)=>j9 (yf agg off (RT.sv r a)) fun v=>k {v,rd:=[t]}
  |_=>aO
 | .pb t i off=>match nth s t with
  |some (.arr r l)=>jW (aC l i) fun a=>j9 (yf agg off (RT.sv r a)) fun v=>k {v,rd:=[t]}
  |_=>aO
 | .bw cs off=>j9 (yf agg off cs) fun v=>k {v}
 |_=>aO
def P7 (s:List SB) (z:List Nat) (sz:Nat) (p v:SV) (k:fh->fE R):fE R:=
 match p with
 | .bp t _ off=>match nth s t with
  |some (.box cs)=>j9 v.stored fun w=>bif AC (aeR w) sz&&ad2 (off+sz) (aeR cs)&&!has z t then k {v:= .undef,wr:=[(t,.box (oy off w cs))]} else aO
  |_=>aO
 | .pa t r i a off=>match nth s t with
  |some (.arr q l)=>bif AC (aeR v.cells) sz&&ad2 (off+sz) (aeR r)&&!has z t then
   j9 (RT.of q (oy off v.cells (RT.sv r a))) fun b=>k {v:= .undef,wr:=[(t,.arr q (bP l i b))]} else aO
  |_=>aO
 | .pb t i off=>match nth s t with
  |some (.arr q l)=>bif AC (aeR v.cells) sz&&ad2 (off+sz) (aeR q)&&!has z t then
   (bif AC sz (aeR q) then j9 (RT.of q v.cells) fun b=>k {v:= .undef,wr:=[(t,.arr q (bP l i b))]}
   else jW (aC l i) fun a=>j9 (RT.of q (oy off v.cells (RT.sv q a))) fun b=>k {v:= .undef,wr:=[(t,.arr q (bP l i b))]}) else aO
  |_=>aO
 |_=>aO
def KT (e:SE) (t off len cap:Nat) (ex:Bool) (lo hi mx:Option eL) (k:fh->fE R):fE R:=
 j9 (Bc e 0 lo) fun a=>j9 (Bc e (.ofNat len) hi) fun b=>match mx with
  |none=>fa (aeW (0<=a)&&aeW (a<=b)&&aeW (b<= .ofNat cap)) (k {v:= .part t (off+a.toNat) (b.toNat-a.toNat) (cap-a.toNat) ex}) aO
  |some m=>match bE e m with
   | .int _ c=>fa (aeW (0<=a)&&aeW (a<=b)&&aeW (b<=c)&&aeW (c<= .ofNat cap)) (k {v:= .part t (off+a.toNat) (b.toNat-a.toNat) (c.toNat-a.toNat) aeU}) aO
   |_=>aO
def afk (e:SE) (s:List SB) (esz:Nat) (x:SV) (lo hi mx:Option eL) (k:fh->fE R):fE R:=
 match x with
 | .sl r l=>match mx with
  |none=>bif AC (aeR r) esz then j9 (Bc e 0 lo) fun a=>j9 (Bc e (aev (aeR l)) hi) fun b=>jW (gD l a b) fun m=>k {v:= .sl r m} else aO
  |some _=>aO
 | .own t ex=>match nth s t with
  |some (.arr r l)=>bif AC (aeR r) esz then (match lo,hi,mx with
   |none,aeT,aeT=>k {v:= .own t ex}
   |none,aeS h,aeT=>match bE e h with
    | .int _ b=>jW (gD l 0 b) fun _=>k {v:= .pre t b.toNat (aeR l) ex}
    |_=>aO
   |lo,hi,mx=>KT e t 0 (aeR l) (aeR l) ex lo hi mx k) else aO
  |_=>aO
 | .pre t len cap ex=>match nth s t with
  |some (.arr r _)=>bif AC (aeR r) esz then (match lo,hi,mx with
   |none,aeT,aeT=>fa (ad2 len cap) (k {v:= .pre t len cap ex}) aO
   |none,aeS h,aeT=>match bE e h with
    | .int _ b=>fa (aeW (0<=b)&&aeW (b<= .ofNat cap)) (k {v:= .pre t b.toNat cap ex}) aO
    |_=>aO
   |lo,hi,mx=>KT e t 0 len cap ex lo hi mx k) else aO
  |_=>aO
 | .part t off len cap ex=>match nth s t with
  |some (.arr r _)=>bif AC (aeR r) esz then KT e t off len cap ex lo hi mx k else aO
  |_=>aO
 |_=>aO
def fV {α:Type} (l:List α) (n:Nat) (m:List α):List α:=l.take n++m++l.drop (n+aeR m)
def SV.YN:SV->Bool
 | .part .. =>aeU
 |_=>aeV
def Mr (s:List SB) (z:List Nat) (esz:Nat) (x y:SV) (k:fh->fE R):fE R:=
 match yg s y with
 |none=>aO
 |some ⟨q,m⟩=>bif AC (aeR q) esz then (match x with
  | .nil _ c=>bif c then jW (cz m) fun m'=>k {v:= .own (aeR s) aeV,news:=[.arr q m'],rd:=ud y} else aO
  | .own t ex=>match nth s t with
   |some (.arr r l)=>match qH q r m with
    |none=>aO
    |some m=>match ex with
     |true=>fa l.isEmpty (jW (cz m) fun m'=>k {v:= .own (aeR s) aeV,news:=[.arr r m'],rd:=t::ud y})
      (fa m.isEmpty (k {v:= .own t aeU,rd:=ud y}) (jW (bL l m) fun l'=>k {v:= .own (aeR s) aeV,news:=[.arr r l'],rd:=t::ud y}))
     |false=>fa m.isEmpty (k {v:= .own t aeV,rd:=ud y})
      (bif has z t then aO else jW (bL l m) fun l'=>k {v:= .own (aeR s) aeV,news:=[.arr r l'],wr:=[(t,.dead)],rd:=ud y})
   |_=>aO
  | .pre t len cap ex=>match nth s t with
   |some (.arr r l)=>match qH q r m with
    |none=>aO
    |some m=>bif ex then aO else fa m.isEmpty (k {v:= .pre t len cap aeV,rd:=ud y})
     (fa (ad2 (len+aeR m) cap) (fa (ad2 (len+aeR m) (aeR l)&&!has z t) (k {v:= .pre t (len+aeR m) cap aeV,wr:=[(t,.arr r (fV l len m))],rd:=ud y}) aO)
      (bif has z t||y.YN then aO else jW (bL (l.take len) m) fun l'=>fa (ad2 len (aeR l)) (k {v:= .own (aeR s) aeV,news:=[.arr r l'],wr:=[(t,.dead)],rd:=ud y}) aO))
   |_=>aO
  |_=>aO) else aO
def P8 (s:List SB) (z:List Nat) (esz:Nat) (zero:Row) (x:SV) (k:fh->fE R):fE R:=
 match x with
 | .part t off len _ _=>match nth s t with
  |some (.arr r l)=>match DG zero with
   |some q=>bif zR q r&&AC (aeR r) esz then fa (AC len 0) (k {v:= .undef})
    (fa (ad2 (off+len) (aeR l)&&!has z t) (k {v:= .undef,wr:=[(t,.arr r (fV l off (adB len (RT.zero r))))]}) aO) else aO
   |none=>aO
  |_=>aO
 |_=>aO
def Ms (n:Option Nat) (zero:PV) (ok:Bool) (t:Nat) (l:List (List Int)) (q:SV) (k:fh->fE R):fE R:=
 match zero,ok with
 | .bool aeV,aeV=>j9 (Th n q) fun a=>jW (IH l a) fun b=>k {v:= .bool b,rd:=[t]}
 |_,_=>aO
def P9 (n:Option Nat) (t:Nat) (l:List (List Int)) (q x:SV) (k:fh->fE R):fE R:=
 match x with
 | .bool aeU=>j9 (Th n q) fun a=>jW (II l a) fun m=>k {v:= .undef,wr:=[(t,.set m)]}
 |_=>aO
def PT.get:(p:PT)->p.T->List (RT [.i .i64,p])->Int->p.T
 | .i _,z,l,k=>BX (α:=Int) z l k
 | .b,z,l,k=>BX (α:=Bool) z l k
def PT.put:(p:PT)->List (RT [.i .i64,p])->Int->p.T->List (RT [.i .i64,p])
 | .i _,l,k,a=>BY (α:=Int) l k a
 | .b,l,k,a=>BY (α:=Bool) l k a
def Mt (n:Option Nat) (zero:PV) (ok:Bool) (t:Nat) (p:PT) (l:List (RT [.i .i64,p])) (q:SV) (k:fh->fE R):fE R:=
 match n with
 |none=>match ok with
  |false=>match q with
   | .int .i64 a=>j9 (p.of (Tf zero)) fun z=>k {v:=p.sv (p.get z l a),rd:=[t]}
   |_=>aO
  |true=>aO
 |some _=>aO
def P' (n:Option Nat) (t:Nat) (p:PT) (l:List (RT [.i .i64,p])) (q x:SV) (k:fh->fE R):fE R:=
 match n with
 |none=>match q with
  | .int .i64 a=>j9 (p.of x) fun v=>k {v:= .undef,wr:=[(t,.bF p (p.put l a v))]}
  |_=>aO
 |some _=>aO
def DH (s:List SB) (z:List Nat) (t:Nat) (r:List PT) (l:List (RT r)) (off len:Nat) (y:SV) (k:fh->fE R):fE R:=
 match yg s y with
 |none=>aO
 |some ⟨q,m⟩=>match qH q r m with
  |none=>aO
  |some m=>fa (m.take len).isEmpty (k {v:= .int .i64 0,rd:=ud y})
   (fa (ad2 (off+(m.take len).length) (aeR l)&&!has z t) (k {v:= .int .i64 (.ofNat (m.take len).length),wr:=[(t,.arr r (fV l off (m.take len)))],rd:=ud y}) aO)
def XK (s:List SB) (z:List Nat) (esz:Nat) (x y:SV) (k:fh->fE R):fE R:=
 match x with
 | .own t _=>match nth s t with
  |some (.arr r l)=>bif AC (aeR r) esz then DH s z t r l 0 (aeR l) y k else aO
  |_=>aO
 | .pre t len _ _=>match nth s t with
  |some (.arr r l)=>bif AC (aeR r) esz then DH s z t r l 0 len y k else aO
  |_=>aO
 | .part t off len _ _=>match nth s t with
  |some (.arr r l)=>bif AC (aeR r) esz then DH s z t r l off len y k else aO
  |_=>aO
 |_=>aO
def kX (e:SE) (s:List SB) (z:List Nat) (op:jL) (k:fh->fE R):fE R:=
 match op with
 | .OV x=>k {v:=bE e x}
 | .pick c a b=>match bE e c with
  | .bool c=>fa c (k {v:=bE e a}) (k {v:=bE e b})
  |_=>aO
 | .bin op x y=>match bE e x with
  | .int ka a=>match bE e y with
   | .int kb b=>match op with
    | .shl=>fa (aeW (b<0)) aO (k {v:= .int ka (ai5 ka a b)})
    | .shr=>fa (aeW (b<0)) aO (k {v:= .int ka (my ka a b)})
    |op=>bif eG ka kb then KS op ka a b (YM k) else aO
   |_=>aO
  |_=>aO
 | .HP neg x y=>match bE e x with
  | .bool a=>match bE e y with
   | .bool b=>k {v:= .bool (bif neg then !(a==b) else a==b)}
   |_=>aO
  |_=>aO
 | .Xc n neg x y=>match bE e x with
  | .agg xs=>match bE e y with
   | .agg ys=>bif AC (aeR xs) n&&AC (aeR ys) n then j9 (eqS xs ys) fun b=>k {v:= .bool (bif neg then !b else b)} else aO
   |_=>aO
  |_=>aO
 | .un op x=>match op with
  | .neg=>match bE e x with
   | .int a n=>k {v:= .int a (aj a (0-n))}
   |_=>aO
  | .not=>match bE e x with
   | .bool b=>k {v:= .bool !b}
   |_=>aO
  |_=>aO
 | .conv a x=>match bE e x with
  | .int _ n=>k {v:= .int a (aj a n)}
  |_=>aO
 | .len x=>match bE e x with
  | .nil _ _=>k {v:= .int .i64 0}
  | .pre _ len _ _=>k {v:= .int .i64 (.ofNat len)}
  | .part _ _ len _ _=>k {v:= .int .i64 (.ofNat len)}
  |v=>j9 (yg s v) fun c=>k {v:= .int .i64 (.ofNat (aeR c.l))}
 | .Kn n=>k {v:= .int .i64 (.ofNat n)}
 | .box x=>j9 (bE e x).stored fun cs=>k {v:= .bp (aeR s) (aeR cs) 0,news:=[.box cs]}
 | .alloc cells=>k {v:= .bp (aeR s) (aeR cells) 0,news:=[.box (zS cells)]}
 | .build zero parts=>j9 (ug (wg e parts) (zS zero)) fun cs=>k {v:= .agg cs}
 | .zt esz n zero parts=>j9 (DG zero) fun r=>bif AC (aeR r) esz then j9 (Mp r e n parts) fun ps=>
  k {v:= .own (aeR s) aeU,news:=[.arr r (GX (fun i=>rowAt i (RT.zero r) ps) 0 n)]} else aO
 | .BM x y=>match bE e x with
  | .sl r l=>match bE e y with
   | .sl q m=>k {v:= .part (aeR s) 0 2 2 aeU,news:=[.box [.sl r l,.sl q m]]}
   |_=>aO
  |_=>aO
 | .load agg p=>XJ s agg (bE e p) k
 | .store sz p v=>P7 s z sz (bE e p) (bE e v) k
 | .HQ x=>match bE e x with
  | .pa t r i a o=>k {v:= .pa t r i a o}
  | .pb t i o=>k {v:= .pb t i o}
  | .bp t n o=>k {v:= .bp t n o}
  | .bw c o=>k {v:= .bw c o}
  | .ed f a b=>k {v:= .ed f a b}
  |_=>aO
 | .HR off p=>match bE e p with
  | .pa t r i a o=>k {v:= .pa t r i a (o+off)}
  | .pb t i o=>k {v:= .pb t i (o+off)}
  | .bp t n o=>k {v:= .bp t n (o+off)}
  | .bw c o=>k {v:= .bw c (o+off)}
  |_=>aO
 | .iq agg off x=>match bE e x with
  | .agg cs=>j9 (yf agg off cs) (YM k)
  |_=>aO
 | .HS esz x i=>match bE e i with
  | .int _ n=>XI s esz (bE e x) n k
  |_=>aO
 | .BN n esz p i=>match bE e i with
  | .int _ j=>match bE e p with
   | .bp t m o=>IJ n j 0 fun j=>k {v:= .bp t m (o+j*esz)}
   | .bw c o=>IJ n j 0 fun j=>k {v:= .bw c (o+j*esz)}
   |_=>aO
  |_=>aO
 | .idx n esz agg x i=>match bE e i with
  | .int _ j=>match bE e x with
   | .agg cs=>IJ n j 0 fun j=>j9 (yf agg (j*esz) cs) (YM k)
   |_=>aO
  |_=>aO
 | .HT x i=>match bE e i with
  | .int _ j=>match bE e x with
   | .str t=>jW (XH t j) fun b=>k {v:= .int .u8 b}
   |_=>aO
  |_=>aO
 | .Nk esz x lo hi mx=>afk e s esz (bE e x) lo hi mx k
 | .clear esz zero x=>P8 s z esz zero (bE e x) k
 | .copy esz x y=>XK s z esz (bE e x) (bE e y) k
 | .Xd esz zero l c=>match bE e l with
  | .int _ n=>match bE e c with
   | .int _ m=>fa (n==m) (j9 (DG zero) fun r=>bif AC (aeR r) esz then jW (zQ n (RT.zero r)) fun x=>k {v:= .own (aeR s) aeU,news:=[.arr r x]} else aO) aO
   |_=>aO
  |_=>aO
 | .Xe fn a b=>k {v:= .ed fn (iT e a) (iT e b)}
 | .Xf z=>match z with
  |none=>k {v:= .mp (aeR s),news:=[.set []]}
  |some z=>j9 (bJ z) fun p=>k {v:= .mp (aeR s),news:=[.bF p []]}
 | .lookup n zero ok m q=>match bE e m with
  | .mp t=>match nth s t with
   |some (.set l)=>Ms n zero ok t l (bE e q) k
   |some (.bF p l)=>Mt n zero ok t p l (bE e q) k
   |_=>aO
  |_=>aO
 | .Gt n m q x=>match bE e m with
  | .mp t=>match nth s t with
   |some (.set l)=>bif has z t then aO else P9 n t l (bE e q) (bE e x) k
   |some (.bF p l)=>bif has z t then aO else P' n t p l (bE e q) (bE e x) k
   |_=>aO
  |_=>aO
 | .ext i x=>match bE e x with
  | .bT vs=>j9 (nth vs i) (YM k)
  |_=>aO
 | .append esz x y=>Mr s z esz (bE e x) (bE e y) k
 | .mm isMax x xs=>match bE e x with
  | .int a n=>j9 (mmS isMax a n (iT e xs)) (YM k)
  |_=>aO
 |_=>aO
end
mutual
def FL (s:List SB) (bx:Nat->Option (List SV)):SV->Option SV
 | .int k n=>aeS (.int k n)
 | .bool b=>aeS (.bool b)
 | .str x=>aeS (.str x)
 | .dv=>aeS .dv
 | .agg cs=>match qI s bx cs with|some l=>aeS (.agg l)|none=>aeT
 | .bT cs=>match qI s bx cs with|some l=>aeS (.bT l)|none=>aeT
 | .sl r l=>aeS (.sl r l)
 | .nil e _=>aeS (.nil e aeV)
 | .own t _=>match nth s t with
  |some (.arr r l)=>aeS (.sl r l)
  |_=>aeT
 | .pre t len _ _=>match nth s t with
  |some (.arr r l)=>aeS (.sl r (l.take len))
  |_=>aeT
 | .part t off len _ _=>match nth s t with
  |some (.arr r l)=>aeS (.sl r ((l.drop off).take len))
  |_=>aeT
 | .pa t r _ a off=>match nth s t with
  |some (.arr _ _)=>aeS (.bw (RT.sv r a) off)
  |_=>aeT
 | .bp t _ off=>match nth s t with
  |some (.box _)=>match bx t with|some l=>aeS (.bw l off)|none=>aeT
  |_=>aeT
 | .bw cs off=>match qI s bx cs with|some l=>aeS (.bw l off)|none=>aeT
 | .ed f a b=>match qI s bx a,qI s bx b with
  |some x,aeS y=>aeS (.ed f x y)
  |_,_=>aeT
 |_=>aeT
def qI (s:List SB) (bx:Nat->Option (List SV)):List SV->Option (List SV)
 | []=>aeS []
 |x::xs=>match FL s bx x,qI s bx xs with
  |some y,aeS ys=>aeS (y::ys)
  |_,_=>aeT
end
def KU (s:List SB) (bx:Nat->Option (List SV)):List SV->Bool
 | []=>aeU
 |x::xs=>match x with
  | .mp _=>KU s bx xs
  |x=>match FL s bx x with
   |some _=>KU s bx xs
   |none=>aeV
def jA (s:List SB):Nat->Nat->Option (List SV)
 |0,_=>aeT
 |n+1,t=>match nth s t with
  |some (.box cs)=>qI s (jA s n) cs
  |_=>aeT
mutual
def KV (bx:Nat->List Nat):SV->List Nat
 | .agg cs=>p7 bx cs
 | .bT cs=>p7 bx cs
 | .own t _=>[t]
 | .pre t _ _ _=>[t]
 | .part t _ _ _ _=>[t]
 | .pa t _ _ _ _=>t::bx t
 | .pb t _ _=>t::bx t
 | .bp t _ _=>t::bx t
 | .bw cs _=>p7 bx cs
 | .mp t=>[t]
 | .ed _ a b=>p7 bx a++p7 bx b
 |_=>[]
def p7 (bx:Nat->List Nat):List SV->List Nat
 | []=>[]
 |x::xs=>KV bx x++p7 bx xs
end
def vz (s:List SB):Nat->Nat->List Nat
 |0,_=>[]
 |n+1,t=>match nth s t with
  |some (.box cs)=>p7 (vz s n) cs
  |_=>[]
mutual
def SV.sure:SV->Bool
 | .ga=>aeV
 | .agg cs=>kU cs
 | .bT cs=>kU cs
 | .bw cs _=>kU cs
 | .ed _ a b=>kU a&&kU b
 |_=>aeU
def kU:List SV->Bool
 | []=>aeU
 |x::xs=>x.sure&&kU xs
end
mutual
def yO:SV->Bool
 | .int _ _| .bool _| .str _=>aeU
 | .agg cs=>p8 cs
 | .bT cs=>p8 cs
 |_=>aeV
def p8:List SV->Bool
 | []=>aeU
 |x::xs=>yO x&&p8 xs
end
mutual
def Qa (s:List SB):SV->Option SV
 | .int k n=>aeS (.int k n)
 | .bool b=>aeS (.bool b)
 | .str x=>aeS (.str x)
 | .agg cs=>match KW s cs with|some l=>aeS (.agg l)|none=>aeT
 | .bT cs=>match KW s cs with|some l=>aeS (.bT l)|none=>aeT
 | .sl r l=>aeS (.sl r l)
 | .nil e _=>aeS (.nil e aeV)
 | .own t _=>match nth s t with
  |some (.arr r l)=>aeS (.sl r l)
  |_=>aeT
 | .pre t len _ _=>match nth s t with
  |some (.arr r l)=>aeS (.sl r (l.take len))
  |_=>aeT
 | .part t off len _ _=>match nth s t with
  |some (.arr r l)=>aeS (.sl r ((l.drop off).take len))
  |_=>aeT
 |_=>aeT
def KW (s:List SB):List SV->Option (List SV)
 | []=>aeS []
 |x::xs=>match Qa s x,KW s xs with
  |some y,aeS ys=>aeS (y::ys)
  |_,_=>aeT
end
mutual
def N2 (s:List SB) (z:List Nat):List Nat->SV->Option (SV×List Nat)
 |seen,.int k n=>aeS (.int k n,seen)
 |seen,.bool b=>aeS (.bool b,seen)
 |seen,.agg cs=>match IK s z seen cs with|some p=>aeS (.agg p.1,p.2)|none=>aeT
 |seen,.bT cs=>match IK s z seen cs with|some p=>aeS (.bT p.1,p.2)|none=>aeT
 |seen,.nil e c=>bif c then aeS (.nil e aeV,seen) else aeT
 |seen,.own t _=>match nth s t with
  |some (.arr r l)=>bif has seen t||has z t then aeT else aeS (.sl r l,t::seen)
  |_=>aeT
 |_,_=>aeT
def IK (s:List SB) (z:List Nat):List Nat->List SV->Option (List SV×List Nat)
 |seen,[]=>aeS ([],seen)
 |seen,x::xs=>match N2 s z seen x with
  |some p=>match IK s z p.2 xs with
   |some q=>aeS (p.1::q.1,q.2)
   |none=>aeT
  |none=>aeT
end
mutual
def wj:Nat->SV->SV×List SB
 |nx,.sl r l=>(.own nx aeV,[.arr r l])
 |nx,.nil e _=>(.own nx aeV,[.arr (adB e (.i .i64)) []])
 |nx,.agg cs=>(.agg (sE nx cs).1,(sE nx cs).2)
 |nx,.bT cs=>(.bT (sE nx cs).1,(sE nx cs).2)
 |_,v=>(v,[])
def sE:Nat->List SV->List SV×List SB
 |_,[]=>([],[])
 |nx,x::xs=>((wj nx x).1::(sE (nx+(wj nx x).2.length) xs).1,(wj nx x).2++(sE (nx+(wj nx x).2.length) xs).2)
end
def DI:SB->List Nat
 | .box cs=>p7 rh cs
 |_=>[]
def xo:SB->Bool
 | .box cs=>kU cs
 |_=>aeU
def Bd (s:List SB):Nat->List Nat->List Nat->Option (List Nat)
 |_,[],seen=>aeS seen
 |0,_::_,_=>aeT
 |n+1,t::ts,seen=>
  bif has seen t then Bd s n ts seen
  else match nth s t with
   |some b=>bif xo b then Bd s n (DI b++ts) (seen++[t]) else aeT
   |none=>aeT
mutual
def oW (m:List Nat):SV->Option SV
 | .agg cs=>match rN m cs with|some l=>aeS (.agg l)|none=>aeT
 | .bT cs=>match rN m cs with|some l=>aeS (.bT l)|none=>aeT
 | .own t ex=>match idxOf t m with|some u=>aeS (.own u ex)|none=>aeT
 | .pre t len cap ex=>match idxOf t m with|some u=>aeS (.pre u len cap ex)|none=>aeT
 | .part t off len cap ex=>match idxOf t m with|some u=>aeS (.part u off len cap ex)|none=>aeT
 | .pa t _ i _ off=>match idxOf t m with|some u=>aeS (.pb u i off)|none=>aeT
 | .pb t i off=>match idxOf t m with|some u=>aeS (.pb u i off)|none=>aeT
 | .bp t n off=>match idxOf t m with|some u=>aeS (.bp u n off)|none=>aeT
 | .bw cs off=>match rN m cs with|some l=>aeS (.bw l off)|none=>aeT
 | .mp t=>match idxOf t m with|some u=>aeS (.mp u)|none=>aeT
 | .ed f a b=>match rN m a,rN m b with
  |some x,aeS y=>aeS (.ed f x y)
  |_,_=>aeT
 | .ga=>aeT
 |v=>aeS v
def rN (m:List Nat):List SV->Option (List SV)
 | []=>aeS []
 |x::xs=>match oW m x,rN m xs with
  |some y,aeS ys=>aeS (y::ys)
  |_,_=>aeT
end
def KX (m:List Nat):SB->Option SB
 | .box cs=>match rN m cs with|some l=>aeS (.box l)|none=>aeT
 |b=>aeS b
def Fk (s:List SB) (m:List Nat):List Nat->Option (List SB)
 | []=>aeS []
 |t::ts=>match nth s t with
  |some b=>match KX m b,Fk s m ts with
   |some b',aeS r=>aeS (b'::r)
   |_,_=>aeT
  |none=>aeT
def rowOf (rk:List (Nat×List PT)) (esz:Nat):List PT:=
 match rk with
 | []=>adB esz (.i .i64)
 |(n,r)::q=>bif AC n esz&&AC (aeR r) esz then r else rowOf q esz
def GY:Option Nat->SV->SV
 |some _,.own t _=> .own t aeV
 |some _,.pre t l c _=> .pre t l c aeV
 |some _,.part t o l c _=> .part t o l c aeV
 |_,v=>v
def vg (rk:List (Nat×List PT)) (e:SE) (m:List Nat):Nat->List (Nat×Option Nat)->Option (SE×List SB)
 |_,[]=>aeS ([],[])
 |nx,(s,k)::r=>
  match k,BZ s e with
  |some esz,.nil _ aeU=>match vg rk e m (nx+1) r with
   |some p=>aeS ((s,.own nx aeV)::p.1,.arr (rowOf rk esz) []::p.2)
   |none=>aeT
  |_,v=>match oW m v,vg rk e m nx r with
   |some v',aeS p=>aeS ((s,GY k v')::p.1,p.2)
   |_,_=>aeT
def DJ (rk:List (Nat×List PT)) (st:nO) (t c esz:Nat):nO:=
 match nth st.az t with
 |some (.box cs)=>match nth cs c with
  |some (.nil _ aeU)=>{st with az:=st.az.set t (.box (cs.set c (.own (aeR st.az) aeV)))++[.arr (rowOf rk esz) []]}
  |_=>st
 |_=>st
def Qb:SV->Option Nat
 | .bp t _ 0=>aeS t
 |_=>aeT
def Ti:SV->Option Nat
 | .ed _ _ (x::_)=>Qb x
 |x=>Qb x
def kK (rk:List (Nat×List PT)):List (Nat×Option Nat)->nO->nO
 | [],st=>st
 |(s,k)::r,st=>match k with
  |some n=>bif ad2 1000 n then (match Ti (BZ s st.env) with
   |some t=>kK rk r (DJ rk st t (n / 1000-1) (n%1000))
   |none=>kK rk r st) else kK rk r st
  |none=>kK rk r st
def FM (s:List SB) (v:SV):SV:=
 match v with
 | .own t ex=>match nth s t with
  |some (.arr _ l)=> .pre t (aeR l) (aeR l) ex
  |_=>v
 |_=>v
def Mu (s:List SB) (c:Nat):SE->SE
 | []=>[]
 |(t,v)::r=>bif AC t c then (t,FM s v)::r else (t,v)::Mu s c r
def zT:List (Nat×Option Nat)->nO->nO
 | [],st=>st
 |(t,_)::r,st=>bif ad2 1000000 t then zT r {st with env:=Mu st.az (t-1000000) st.env} else zT r st
def zU (e:SE):List (Nat×Option Nat)->Bool
 | []=>aeU
 |(s,_)::r=>(BZ s e).sure&&zU e r
def DK (e:SE):List (Nat×Option Nat)->List Nat
 | []=>[]
 |(s,_)::r=>KV rh (BZ s e)++DK e r
def KY:List SB->Nat->List Nat
 |b::r,n+1=>DI b++KY r n
 |_,_=>[]
def DL:List SB->Nat->Bool
 |b::r,n+1=>xo b&&DL r n
 |_,_=>aeU
def DM (rk:List (Nat×List PT)) (live:List (Nat×Option Nat)) (st:nO):Option nO:=
 bif zU st.env live&&DL st.az st.kn then
  match Bd st.az 4096 (KY st.az st.kn++DK st.env live) (sY st.kn) with
  |none=>aeT
  |some m=>match Fk st.az m m,vg rk st.env m (aeR m) live with
   |some s1,aeS (e1,s2)=>aeS (zT live (kK rk live {env:=e1,az:=s1++s2,fz:=vI st.fz 0 m,kn:=st.kn}))
   |_,_=>aeT
 else aeT
def DN (rk:List (Nat×List PT)) (live:List (Nat×Option Nat)) (st:nO):Option nO:=
 match DM rk live st with
 |some s=>bif live.any fun p=>p.2.isSome then DM rk live s else aeS s
 |none=>aeT
inductive AK where
 |i
 |b
 |n
 |l (r:List PT)
 |s
@[reducible] def AK.T : AK -> Type
  | .i => Int
  | .b => Bool
  | .n => Nat
  | .l r => List (RT r)
  | .s => List (List Int)
@[reducible] def gj : List AK -> Type
  | [] => Unit
  | [a] => a.T
  | a :: q :: r => a.T × gj (q :: r)
inductive vD where
 |i (n:Int)
 |b (x:Bool)
 |n (x:Nat)
 |l (r:List PT) (x:List (RT r))
 |s (x:List (List Int))
def vD.k:vD->AK
 | .i _=> .i
 | .b _=> .b
 | .n _=> .n
 | .l r _=> .l r
 | .s _=> .s
def AK.at:(a:AK)->a.T->vD
 | .i,x=> .i x
 | .b,x=> .b x
 | .n,x=> .n x
 | .l r,x=> .l r x
 | .s,x=> .s x
def AK.of:(a:AK)->vD->Option a.T
 | .i,.i x=>aeS x
 | .b,.b x=>aeS x
 | .n,.n x=>aeS x
 | .l r,.l q x=>qH q r x
 | .s,.s x=>aeS x
 |_,_=>aeT
def jX:(ks:List AK)->gj ks->List vD
 | [],_=>[]
 | [a],x=>[a.at x]
 |a::q::r,x=>a.at x.1::jX (q::r) x.2
def ke:(ks:List AK)->List vD->Option (gj ks)
 | [],[]=>aeS ()
 | [a],[x]=>a.of x
 |a::q::r,x::xs=>match a.of x,ke (q::r) xs with
  |some y,aeS ys=>aeS (y,ys)
  |_,_=>aeT
 |_,_=>aeT
mutual
def Be:SV->List vD
 | .int _ n=>[.i n]
 | .bool b=>[.b b]
 | .agg cs=>Bg cs
 | .bT cs=>Bg cs
 | .sl r l=>[.l r l]
 | .pre _ len cap _=>[.n len,.n cap]
 | .part _ off len cap _=>[.n off,.n len,.n cap]
 | .pb _ i _=>[.i i]
 | .bw cs _=>Bg cs
 | .ed _ a b=>Bg a++Bg b
 |_=>[]
def Bg:List SV->List vD
 | []=>[]
 |x::xs=>Be x++Bg xs
end
def Qc:SB->List vD
 | .arr r l=>[.l r l]
 | .box cs=>Bg cs
 | .set l=>[.s l]
 | .bF p l=>[.l [.i .i64,p] l]
 | .dead=>[]
def GZ:List SB->List vD
 | []=>[]
 |b::r=>Qc b++GZ r
def N3:SE->List vD
 | []=>[]
 |(_,v)::r=>Be v++N3 r
def mM (st:nO):List vD:=N3 st.env++GZ st.az
mutual
def vj:SV->SV->Bool
 | .undef,.undef=>aeU
 | .iI,.iI=>aeU
 | .dv,.dv=>aeU
 | .int k _,.int l _=>eG k l
 | .bool _,.bool _=>aeU
 | .agg a,.agg b=>wm a b
 | .bT a,.bT b=>wm a b
 | .sl r _,.sl q _=>zR r q
 | .nil e c,.nil f d=>AC e f&&c==d
 | .own t x,.own u y=>AC t u&&x==y
 | .pre t _ _ x,.pre u _ _ y=>AC t u&&x==y
 | .part t _ _ _ x,.part u _ _ _ y=>AC t u&&x==y
 | .pb t _ o,.pb u _ p=>AC t u&&AC o p
 | .bp t n o,.bp u m p=>AC t u&&AC n m&&AC o p
 | .bw a o,.bw b p=>wm a b&&AC o p
 | .ed f a b,.ed g c d=>AC f g&&wm a c&&wm b d
 | .mp t,.mp u=>AC t u
 | .ga,.ga=>aeU
 |_,_=>aeV
def wm:List SV->List SV->Bool
 | [],[]=>aeU
 |x::xs,y::ys=>vj x y&&wm xs ys
 |_,_=>aeV
end
def XL:SB->SB->Bool
 | .arr r _,.arr q _=>zR r q
 | .box a,.box b=>wm a b
 | .set _,.set _=>aeU
 | .bF p _,.bF q _=>p.same q
 | .dead,.dead=>aeU
 |_,_=>aeV
def DO:List SB->List SB->Bool
 | [],[]=>aeU
 |x::xs,y::ys=>XL x y&&DO xs ys
 |_,_=>aeV
def Mv:SE->SE->Bool
 | [],[]=>aeU
 |(t,x)::xs,(u,y)::ys=>AC t u&&vj x y&&Mv xs ys
 |_,_=>aeV
def Mw:List Nat->List Nat->Bool
 | [],[]=>aeU
 |x::xs,y::ys=>AC x y&&Mw xs ys
 |_,_=>aeV
def yP (a b:nO):Bool:=Mv a.env b.env&&DO a.az b.az&&Mw a.fz b.fz&&AC a.kn b.kn
mutual
def ru:SV->List vD->SV×List vD
 | .int k _,.i n::q=>(.int k n,q)
 | .bool _,.b x::q=>(.bool x,q)
 | .agg cs,q=>(.agg (p9 cs q).1,(p9 cs q).2)
 | .bT cs,q=>(.bT (p9 cs q).1,(p9 cs q).2)
 | .sl _ _,.l r l::q=>(.sl r l,q)
 | .pre t _ _ x,.n len:: .n cap::q=>(.pre t len cap x,q)
 | .part t _ _ _ x,.n off:: .n len:: .n cap::q=>(.part t off len cap x,q)
 | .pb t _ o,.i i::q=>(.pb t i o,q)
 | .bw cs o,q=>(.bw (p9 cs q).1 o,(p9 cs q).2)
 | .ed f a b,q=>(.ed f (p9 a q).1 (p9 b (p9 a q).2).1,(p9 b (p9 a q).2).2)
 |v,q=>(v,q)
def p9:List SV->List vD->List SV×List vD
 | [],q=>([],q)
 |x::xs,q=>((ru x q).1::(p9 xs (ru x q).2).1,(p9 xs (ru x q).2).2)
end
def KZ:SB->List vD->SB×List vD
 | .arr _ _,.l r l::q=>(.arr r l,q)
 | .box cs,q=>(.box (p9 cs q).1,(p9 cs q).2)
 | .set _,.s l::q=>(.set l,q)
 | .bF _ _,.l [.i .i64,p] l::q=>(.bF p l,q)
 |b,q=>(b,q)
def yQ:List SB->List vD->List SB×List vD
 | [],q=>([],q)
 |b::r,q=>((KZ b q).1::(yQ r (KZ b q).2).1,(yQ r (KZ b q).2).2)
def IL:SE->List vD->SE×List vD
 | [],q=>([],q)
 |(t,v)::r,q=>((t,(ru v q).1)::(IL r (ru v q).2).1,(IL r (ru v q).2).2)
def ti (st:nO) (q:List vD):nO:={st with env:=(IL st.env q).1,az:=(yQ st.az (IL st.env q).2).1}
def Qd:List vD->List AK
 | []=>[]
 |a::r=>a.k::Qd r
def ptK {β:Type 1} (p:PT) (c:PT->β):β:=
 match p with
 | .i k=>c (.i k)
 | .b=>c .b
def rK {β:Type 1}:List PT->(List PT->β)->β
 | [],c=>c []
 |p::r,c=>ptK p fun p=>rK r fun r=>c (p::r)
def Tj {β:Type 1}:List AK->(List AK->β)->β
 | [],c=>c []
 | .i::r,c=>Tj r fun r=>c (.i::r)
 | .b::r,c=>Tj r fun r=>c (.b::r)
 | .n::r,c=>Tj r fun r=>c (.n::r)
 | .l q::r,c=>rK q fun q=>Tj r fun r=>c (.l q::r)
 | .s::r,c=>Tj r fun r=>c (.s::r)
mutual
def qc:SV->Option PV
 | .int k n=>aeS (.int k n)
 | .bool b=>aeS (.bool b)
 | .str x=>aeS (.str x)
 | .dv=>aeS .dv
 | .agg cs=>match oz cs with|some l=>aeS (.agg l)|none=>aeT
 | .bT cs=>match oz cs with|some l=>aeS (.bT l)|none=>aeT
 | .sl r l=>aeS (.sl (aeR r) aeV (l.map (RT.pv r)))
 | .nil e c=>aeS (.sl e c [])
 | .bw cs off=>match oz cs with|some l=>aeS (.bw l off)|none=>aeT
 | .ed f a b=>match oz a,oz b with
  |some x,aeS y=>aeS (.ed f x y)
  |_,_=>aeT
 |_=>aeT
def oz:List SV->Option (List PV)
 | []=>aeS []
 |x::xs=>match qc x,oz xs with
  |some y,aeS ys=>aeS (y::ys)
  |_,_=>aeT
end
structure cj (α:Type) where
 enc:α->List SV
 dec:List SV->Option (α×List SV)
 law: ∀{vs:List SV} {a:α} {rest:List SV} {ps:List PV},dec vs=aeS (a,rest)->oz vs=aeS ps-> ∃p q,ps=p++q/\oz (enc a)=aeS p/\oz rest=aeS q
structure Arg (α:Type) where
 enc:α->SV
 dec:SV->Option α
 law: ∀{v:SV} {a:α} {p:PV},dec v=aeS a->qc v=aeS p->qc (enc a)=aeS p
structure ay (α:Type) where
 enc:α->List SV
 dec:List SV->Option α
 law: ∀{vs:List SV} {a:α} {ps:List PV},dec vs=aeS a->oz vs=aeS ps->oz (enc a)=aeS ps
inductive Kd where
 |pure
 |vA
 |own
structure qt where
 {α β:Type}
 args:ay α
 res:Arg β
 fn:α->Option β
 kd:Kd
 ow:Bool
structure eJ where
 ka:List AK
 ta:List SV
 tb:List SB
 ko:List AK
 tv:SV
 to:List SB
 fn:gj ka->Option (gj ko)
def zV:(p:PT)->PV->Option p.T
 | .i k,.int l n=>bif eG l k then aeS n else aeT
 | .b,.bool x=>aeS x
 |_,_=>aeT
def Fl:(r:List PT)->List PV->Option (RT r)
 | [],[]=>aeS ()
 | [p],[v]=>zV p v
 |p::q::r,v::vs=>match zV p v,Fl (q::r) vs with
  |some a,aeS b=>aeS (a,b)
  |_,_=>aeT
 |_,_=>aeT
def zW (r:List PT):List (List PV)->Option (List (RT r))
 | []=>aeS []
 |x::xs=>match Fl r x,zW r xs with
  |some a,aeS l=>aeS (a::l)
  |_,_=>aeT
structure Srt where
 r:List PT
 g:Option FuncId
 fn:List (RT r)->Option (List (RT r))
def Tk:Option FuncId->List PV->Bool
 |none,[]=>aeU
 |some g,[.ed h [] []]=>AC h g
 |_,_=>aeV
def Qe (q:Srt) (args:List PV) (az:bS) (fz:List Nat):Option (PV×bS×List Nat):=
 match args with
 | .own t e off len _ _::r=>match az[t]? with
  |some (.arr e1 rows)=>if AC e (aeR q.r)&&AC off 0&&ad2 len (aeR rows)&&ad2 len kI&&!has fz t&&Tk q.g r then
   (match zW q.r (rows.take len) with
   |some l=>match q.fn l with
    |some m=>if AC (aeR m) (aeR l) then aeS (.bT [],az.set t (.arr e1 (m.map (RT.pv q.r)++rows.drop len)),fz) else aeT
    |none=>aeT
   |none=>aeT) else aeT
  |_=>aeT
 |_=>aeT
inductive Cd where
 |code (x:aL)
 |ins (esz:Nat)
 |YO (q:Srt)
 |cat
instance:Coe aL Cd:=⟨.code⟩
def Cd.ent:Cd->Sr
 | .code x=> .code x
 | .ins n=> .Nl (O8 n)
 | .YO q=> .Nl (Qe q)
 | .cat=> .Nl Yc
structure Ctx where
 lp:Option Nat
 XM:FuncId->List qt
 fpc:FuncId->List eJ
 code:FuncId->Option Cd
 rk:List (Nat×List PT)
 jn:Bool
inductive XRS where
 |loc (r:fh)
 |shr (v:SV) (s:List SB) (z:List Nat)
def SV.YP:SV->Bool
 | .own .. | .pre .. | .part .. | .pa .. | .pb .. | .bp .. | .mp .. =>aeU
 |_=>aeV
def yR:List SV->Bool
 | []=>aeV
 |x::xs=>x.YP||yR xs
mutual
def SA (ts:List Nat):SV->SV
 | .pa t r i a off=>bif has ts t then .pb t i off else .pa t r i a off
 | .agg cs=> .agg (Qf ts cs)
 | .bT cs=> .bT (Qf ts cs)
 | .bw cs off=> .bw (Qf ts cs) off
 | .ed f a b=> .ed f (Qf ts a) (Qf ts b)
 |v=>v
def Qf (ts:List Nat):List SV->List SV
 | []=>[]
 |x::xs=>SA ts x::Qf ts xs
end
def dgE (ts:List Nat):SE->SE
 | []=>[]
 |(t,v)::r=>(t,SA ts v)::dgE ts r
def Tl (ts:List Nat):SB->SB
 | .box cs=> .box (Qf ts cs)
 |b=>b
def AO (ts:List Nat):List SB->List SB
 | []=>[]
 |b::r=>Tl ts b::AO ts r
def Qg:List SB->Nat->SB->List SB
 | [],_,_=>[]
 |_::r,0,b=>b::r
 |x::r,n+1,b=>x::Qg r n b
def pJ:List (Nat×SB)->List SB->List SB
 | [],s=>s
 |(t,b)::r,s=>pJ r (Qg s t b)
def wq:List (Nat×SB)->List Nat
 | []=>[]
 |(t,_)::r=>t::wq r
def G0 (d:Option Nat) (v:SV) (e:SE):SE:=
 match d with
 |some t=>(t,v)::e
 |none=>e
def YQ:List SB->List SB->List SB
 | [],l=>l
 |b::r,l=>b::YQ r l
def fh.next (d:Option Nat) (st:nO) (r:fh):nO:=
 match r.wr with
 | []=>{env:=G0 d r.v st.env,az:=YQ st.az r.news,fz:=r.fr++st.fz,kn:=st.kn}
 |w=>{env:=G0 d r.v (dgE (wq w) st.env),az:=YQ (AO (wq w) (pJ w st.az)) r.news,fz:=r.fr++st.fz,kn:=st.kn}
def fh.ok (z:List Nat) (r:fh):Bool:=(wq r.wr).all fun t=>!has z t
def fh.tr (nx:Nat) (r:fh):Tr:=
 ⟨r.rd++r.fr,wq r.wr,!r.news.isEmpty,aeV,(r.rd++r.fr).all (adG · nx)&&(wq r.wr).all (adG · nx),nx,nx+aeR r.news⟩
def Qh:Tr:=⟨[],[],aeU,aeU,aeU,0,0⟩
def oA {R:Type}:List SB->List SB->fE R->fE R
 | [],_,k=>k
 |x::xs,y::ys,k=>match x with
  | .arr r l=>match y with
   | .arr q m=>bif zR r q then fa (aeR m==aeR l) (oA xs ys k) aO else aO
   | .dead=>oA xs ys k
   |_=>aO
  | .dead=>match y with
   | .dead=>oA xs ys k
   |_=>aO
  | .box _=>match y with
   | .box _=>oA xs ys k
   | .dead=>oA xs ys k
   |_=>aO
  |_=>oA xs ys k
 |_,_,_=>aO
abbrev Tm:=FuncId->List SV->List SB->List Nat-> ∀R:Type,(SV->List SB->List Nat->fE R)->fE R
section
variable {R : Type}
def afl (_:FuncId) (_:List SV):fE R:=aO
def ai7 (_:FuncId) (_:List SV) (_:List SB):fE R:=aO
def K0 (f:FuncId) (m:Bool) (s:List SB) (tk:List Nat) (vs:List SV) (k:XRS->fE R):List qt->fE R
 | []=>afl f vs
 |c::r=>match c.args.dec vs with
  |some a=>bif m==c.ow then jW (c.fn a) fun b=>match c.kd with
   | .pure=>k (.loc {v:=c.res.enc b,rd:=tk})
   | .vA=>k (.loc {v:=c.res.enc b,rd:=tk,fr:=tk})
   | .own=>k (.loc {v:=(wj (aeR s) (c.res.enc b)).1,news:=(wj (aeR s) (c.res.enc b)).2,rd:=tk}) else K0 f m s tk vs k r
  |none=>K0 f m s tk vs k r
mutual
def IM (g:Nat->Nat):SV->SV
 | .agg cs=> .agg (B2 g cs)
 | .bT cs=> .bT (B2 g cs)
 | .own t ex=> .own (g t) ex
 | .pre t len cap ex=> .pre (g t) len cap ex
 | .part t off len cap ex=> .part (g t) off len cap ex
 | .pa t _ i _ off=> .pb (g t) i off
 | .pb t i off=> .pb (g t) i off
 | .bp t n off=> .bp (g t) n off
 | .bw cs off=> .bw (B2 g cs) off
 | .mp t=> .mp (g t)
 | .ed f a b=> .ed f (B2 g a) (B2 g b)
 |v=>v
def B2 (g:Nat->Nat):List SV->List SV
 | []=>[]
 |x::xs=>IM g x::B2 g xs
end
def Qi (g:Nat->Nat):SB->SB
 | .box cs=> .box (B2 g cs)
 |b=>b
def yh (g:Nat->Nat):List Nat->List SB->List (Nat×SB)
 |t::r,b::s=>(t,Qi g b)::yh g r s
 |_,_=>[]
def XN (k:Nat) (v:SV) (s:List SB):Bool:=(KV rh v++s.flatMap DI).all fun t=>adG t k
def fpS (f : FuncId) (n : Nat) (tk : List Nat) (vs : List SV) (s0 : List SB) (k : XRS -> fE R) : List eJ -> fE R
  | [] => ai7 f vs s0
  | c :: r => bif wm c.ta vs && DO c.tb s0 then (match ke c.ka (Bg vs ++ GZ s0) with
      | some a => jW (c.fn a) fun b =>
          k (.loc { v := IM (ji tk n) (ru c.tv (jX c.ko b)).1, wr := yh (ji tk n) tk (yQ c.to (ru c.tv (jX c.ko b)).2).1 })
      | none => fpS f n tk vs s0 k r) else fpS f n tk vs s0 k r
def FN (cx:Ctx) (inl:Tm) (e:SE) (s:List SB) (z:List Nat) (op:jL) (k:XRS->fE R):fE R:=
 match op with
 | .call m f args=>match m with
  | .Sq=>match qI s (jA s deep) (iT e args) with
   |some vs=>K0 f aeV s (p7 (vz s deep) (iT e args)) vs k (cx.XM f)
   |none=>aO
  | .own=>match qI s (jA s deep) (iT e args) with
   |some vs=>K0 f aeU s (p7 (vz s deep) (iT e args)) vs k (cx.XM f)
   |none=>aO
  | .shr=>inl f (iT e args) s z R fun v s' z'=>k (.shr v s' z')
  | .fp=>match KU s (jA s deep) (iT e args) with
   |false=>aO
   |true=>let tk:=nI (p7 (vz s deep) (iT e args))
    bif tk.all (fun t=>!has z t) then (match rN tk (iT e args),Fk s tk tk with
     |some vs,aeS s0=>fpS f (aeR s) tk vs s0 k (cx.fpc f)
     |_,_=>aO) else aO
 | .u4 x args=>match bE e x with
  | .ed f a b=>bif yR (iT e args++b) then inl f (a++iT e args++b) s z R fun v s' z'=>k (.shr v s' z')
   else match qI s (jA s deep) (a++iT e args++b) with
   |some vs=>K0 f aeV s (p7 (vz s deep) (a++iT e args++b)) vs k (cx.XM f)
   |none=>aO
  |_=>aO
 |op=>kX e s z op fun r=>k (.loc r)
def Mx (d:Option Nat) (st:nO) (tr:List Tr) (k:nO->List Tr->fE R) (x:XRS):fE R:=
 match x with
 | .loc r=>bif r.ok st.fz then Tg r.v fun v=>k ({r with v}.next d st) (r.tr (aeR st.az)::tr) else aO
 | .shr v s z=>Tg v fun v=>oA st.az s (bif st.fz.all (has z) then k {env:=G0 d v (dgE (sY (aeR st.az)) st.env),az:=s,fz:=z,kn:=st.kn} (Qh::tr) else aO)
def nP (cx:Ctx) (inl:Tm):List bD->nO->List Tr->(nO->List Tr->fE R)->fE R
 | [],st,tr,k=>k st tr
 |o::r,st,tr,k=>
  let run:=fun st:nO=>match o.op with
   | .pick (.t c) a b=>match BZ c st.env with
    | .bool x=>fa x (Mx o.dst {st with env:=yN c (.bool aeU) st.env} tr (nP cx inl r · · k) (.loc {v:=bE st.env a}))
     (Mx o.dst {st with env:=yN c (.bool aeV) st.env} tr (nP cx inl r · · k) (.loc {v:=bE st.env b}))
    |_=>aO
   |op=>FN cx inl st.env st.az st.fz op (Mx o.dst st tr (nP cx inl r · · k))
  let skip:=fun st:nO=>nP cx inl r {st with env:=G0 o.dst .iI st.env} (Tr.idle::tr) k
  match o.guard with
  |none=>run st
  |some (s,want)=>match BZ s st.env with
   | .bool x=>bif want then fa x (run {st with env:=yN s (.bool aeU) st.env}) (skip {st with env:=yN s (.bool aeV) st.env})
    else fa x (skip {st with env:=yN s (.bool aeU) st.env}) (run {st with env:=yN s (.bool aeV) st.env})
   | .iI=>skip st
   |_=>aO
def IN (e:SE):List Nat->(SE->fE R)->fE R
 | [],k=>k []
 |s::r,k=>Tg (BZ s e) fun v=>IN e r fun e'=>k ((s,v)::e')
def jnV:SV->SV->SV
 | .undef,_=> .ga
 |_,v=>v
def YR (o:SE):SE->SE
 | []=>[]
 |(t,v)::r=>(t,jnV (BZ t o) v)::YR o r
def jnL (o:SE):List Nat->SE
 | []=>[]
 |t::r=>(t,jnV (BZ t o) (BZ t o))::jnL o r
def N4 (o:SE) (fc:List Nat) (st:nO):nO:={st with env:=jnL o fc}
def guards:List bD->Nat
 | []=>0
 |o::r=>match o.guard with
  |none=>guards r
  |some _=>guards r+1
def jnC:iF->Bool
 | .seq (.region _ ops _) (.cond _ _ _)=>ad2 8 (guards ops)
 |_=>aeV
def jnK:iF->List Nat
 | .seq (.region _ _ fc) _=>fc
 |_=>[]
noncomputable def wz (cx:Ctx) (inl:Tm):(c:iF)->(R:Type)->nO->(gg->nO->fE R)->fE R
 | .skip,_,st,k=>k .normal st
 | .region d ops fc,_,st,k=>nP cx inl ops st [] fun jE tr=>
  let fin:=IN jE.env fc fun e=>k .normal {jE with env:=e}
  match d with
  |none=>fin
  |some bf=>match pY 0 (tr.reverse.zip bf) with
   |true=>fin
   |false=>aO
 | .seq a b,R,st,k=>match cx.jn&&jnC a with
  |false=>wz cx inl a R st fun e jE=>match e with
   | .normal=>wz cx inl b R jE k
   |e=>k e jE
  |true=>Tj (Qd (mM (N4 st.env (jnK a) st))) fun ks=>match ke ks (mM (N4 st.env (jnK a) st)) with
   |none=>aO
   |some y0=>fun ρ w=>Mn cx.lp (fun y:Bool×gj ks=>fa y.1
    (wz cx inl a (Step (Bool×gj ks) ρ) st fun e st2=>match e with
     | .normal=>bif yP (N4 st.env (jnK a) st) {st2 with env:=YR st.env st2.env} then (match ke ks (mM {st2 with env:=YR st.env st2.env}) with
      |some y'=>B0 (.next (aeV,y'))
      |none=>aO) else aO
     |e=>fun vE w'=>k e st2 vE fun r=>w' (.done (w r)))
    (fun vE w'=>wz cx inl b R (ti (N4 st.env (jnK a) st) (jX ks y.2)) k vE fun r=>w' (.done (w r))) (Step (Bool×gj ks) ρ) fun z=>z) (aeU,y0)
 | .cond c a b,R,st,k=>match bE st.env c with
  | .bool x=>fa x (wz cx inl a R st k) (wz cx inl b R st k)
  |_=>aO
 | .block id b,R,st,k=>wz cx inl b R st fun e jE=>match e with
  | .exit j=>bif AC j id then k .normal jE else k (.exit j) jE
  |e=>k e jE
 | .loop live b,_,st,k=>match DN cx.rk live st with
  |none=>aO
  |some st1=>Tj (Qd (mM st1)) fun ks=>match ke ks (mM st1) with
   |none=>aO
   |some y0=>fun ρ w=>Mn cx.lp (fun y:gj ks=>wz cx inl b (Step (gj ks) ρ) (ti st1 (jX ks y)) (fun e st2=>match e with
    | .normal=>match DN cx.rk live st2 with
     |some K1=>bif yP st1 K1 then (match ke ks (mM K1) with
      |some y'=>B0 (.next y')
      |none=>aO) else aO
     |none=>aO
    |e=>fun vE w'=>k e st2 vE fun r=>w' (.done (w r))) (Step (gj ks) ρ) fun z=>z) y0
 | .exit id,_,st,k=>k (.exit id) st
 | .ret,_,st,k=>k .ret st
def K2 (st:nO):RV->Option SV
 | .tmp t=>aeS (BZ t st.env)
 | .cell t agg=>match BZ t st.env with
  | .bp t _ off=>match nth st.az t with
   |some (.box cs)=>yf agg off cs
   |_=>aeT
  | .bw cs off=>yf agg off cs
  |_=>aeT
def xp (st:nO):List RV->Option (List SV)
 | []=>aeS []
 |r::rs=>match K2 st r,xp st rs with
  |some v,aeS vs=>aeS (v::vs)
  |_,_=>aeT
def Bh:List SV->SV
 | [v]=>v
 |vs=> .bT vs
def K3:Nat->List SV->SE
 |_,[]=>[]
 |i,v::r=>(i,v)::K3 (i+1) r
noncomputable def IP (cx:Ctx) (inl:Tm) (x:aL) (R:Type) (args:List SV) (s:List SB) (z:List Nat) (k:SV->List SB->List Nat->fE R):fE R:=
 bif AC (aeR args) x.BO then wz cx inl x.code R {env:=K3 0 args,az:=s,fz:=z,kn:=aeR s} fun e st=>match e with
  | .exit _=>aO
  |_=>match xp st x.res with
   |some vs=>k (Bh vs) st.az st.fz
   |none=>aO
 else aO
def fh.lZ (s:List SB) (r:fh):List SB:=
 match r.wr with
 | []=>YQ s r.news
 |w=>YQ (AO (wq w) (pJ w s)) r.news
def B3:Option FuncId->List SV->Bool
 |none,[]=>aeU
 |some g,[.ed h [] []]=>AC h g
 |_,_=>aeV
structure afm where
 t:Nat
 r:List PT
 l:List (RT r)
 i:Int
 m:List (RT r)
def Tn (esz:Nat) (args:List SV) (s:List SB) (z:List Nat):Option afm:=
 match args with
 | [.own t _,.int .i64 i,.own u _]=>match nth s t with
  |some (.arr r l)=>match nth s u with
   |some (.arr q m)=>match qH q r m with
    |some m=>bif AC (aeR r) esz&&!Nat.beq t u&&!has z t then aeS ⟨t,r,l,i,m⟩ else aeT
    |none=>aeT
   |_=>aeT
  |_=>aeT
 |_=>aeT
def YS (esz:Nat) (args:List SV) (s:List SB) (z:List Nat) (k:SV->List SB->List Nat->fE R):fE R:=
 match Tn esz args s z with
 |some a=>jW (GU a.l a.i a.m) fun l'=>k (.own (aeR s) aeV) (fh.lZ s {v:= .own (aeR s) aeV,news:=[.arr a.r l'],wr:=[(a.t,.dead)]}) z
 |none=>aO
structure afn where
 t:Nat
 r:List PT
 l:List (RT r)
 m:List (RT r)
def To (args:List SV) (s:List SB) (z:List Nat):Option afn:=
 match args with
 | [.part t off len _ _]=>match nth s t with
  |some (.box [.sl r l,.sl q m])=>match qH q r m with
   |some m=>bif AC (aeR r) 1&&AC off 0&&AC len 2&&!has z t then aeS ⟨t,r,l,m⟩ else aeT
   |none=>aeT
  |_=>aeT
 |_=>aeT
def YT (args:List SV) (s:List SB) (z:List Nat) (k:SV->List SB->List Nat->fE R):fE R:=
 match To args s z with
 |some a=>jW (YL a.l a.m) fun l'=>k (.own (aeR s) aeV) (fh.lZ s {v:= .own (aeR s) aeV,news:=[.arr a.r l'],wr:=[(a.t,.dead)]}) z
 |none=>aO
def Tp (r:List PT) (g:Option FuncId) (args:List SV) (s:List SB) (z:List Nat):Option (Nat×Option Nat×List (RT r)):=
 match args with
 | .own t _::a=>match nth s t with
  |some (.arr q l)=>match qH q r l with
   |some l=>bif !has z t&&B3 g a then aeS (t,aeT,l) else aeT
   |none=>aeT
  |_=>aeT
 | .pre t len _ _::a=>match nth s t with
  |some (.arr q l)=>match qH q r l with
   |some l=>bif !has z t&&B3 g a then aeS (t,aeS len,l) else aeT
   |none=>aeT
  |_=>aeT
 |_=>aeT
def YU (q:Srt) (args:List SV) (s:List SB) (z:List Nat) (k:SV->List SB->List Nat->fE R):fE R:=
 match Tp q.r q.g args s z with
 |some (t,aeT,l)=>jW (DF q.fn l) fun m=>k (.bT []) (fh.lZ s {v:= .bT [],wr:=[(t,.arr q.r m)]}) z
 |some (t,aeS len,l)=>jW (GV q.fn len l) fun m=>k (.bT []) (fh.lZ s {v:= .bT [],wr:=[(t,.arr q.r m)]}) z
 |none=>aO
noncomputable def Qj (cx:Ctx):Nat->Tm
 |0=>fun _ _ _ _ _ _=>aO
 |n+1=>fun f args s z R k=>match cx.code f with
  |some (.code x)=>IP cx (Qj cx n) x R args s z k
  |some (.ins e)=>YS e args s z k
  |some (.YO q)=>YU q args s z k
  |some .cat=>YT args s z k
  |none=>aO
def Qk (kd:Kd) {β:Type} (res:Arg β) (v:SV) (s:List SB) (z:List Nat):fE β:=
 match kd with
 | .pure=>bif yO v then j9 (res.dec v) B0 else aO
 | .vA=>bif yO v then aO else j9 (Qa s v) fun u=>j9 (res.dec u) B0
 | .own=>j9 (N2 s z [] v) fun u=>j9 (res.dec u.1) B0
noncomputable def XO (cx:Ctx) (x:aL) {α β:Type} (args:ay α) (res:Arg β) (kd:Kd) (a:α):Option β:=
 IP cx (Qj cx 8) x β (args.enc a) [] [] (Qk kd res) β fun b=>b
def DP:List SB->Bool
 | []=>aeU
 |b::r=>xo b&&DP r
def zX {R:Type}:List SB->List SB->fE R->fE R
 | [],[],k=>k
 |x::xs,y::ys,k=>match x with
  | .arr r l=>match y with
   | .arr q m=>bif zR r q then fa (aeR m==aeR l) (zX xs ys k) aO else aO
   |_=>aO
  | .dead=>match y with
   | .dead=>zX xs ys k
   |_=>aO
  | .box _=>match y with
   | .box _=>zX xs ys k
   |_=>aO
  | .set _=>match y with
   | .set _=>zX xs ys k
   |_=>aO
  | .bF _ _=>match y with
   | .bF _ _=>zX xs ys k
   |_=>aO
 |_,_,_=>aO
noncomputable def ai8 (wd:Bool) (cx:Ctx) (x:aL) (ka:List AK) (ta:List SV) (tb:List SB) (ko:List AK) (tv:SV) (to:List SB) (a:gj ka):Option (gj ko):=
 IP cx (Qj cx 8) x (gj ko) (p9 ta (jX ka a)).1 (yQ tb (p9 ta (jX ka a)).2).1 [] (fun v s z=>match z with
  | []=>let u:=bif wd then FM s v else v
   let s1:=s.take (aeR tb)
   bif vj tv u&&DO to s1&&XN (aeR tb) u s1&&u.sure&&DP s1 then zX (yQ tb (p9 ta (jX ka a)).2).1 s1 (j9 (ke ko (Be u++GZ s1)) B0) else aO
  |_=>aO) (gj ko) fun b=>b
end
end Go.Vm
