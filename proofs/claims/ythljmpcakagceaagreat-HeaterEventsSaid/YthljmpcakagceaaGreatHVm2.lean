/- The logical machine, part 2: VmCall3, VmFp, VmRun, VmInv, VmStep, VmShr, VmOp, VmReg, VmReg2, VmNorm, VmNorm2, VmCode, VmSound, VmPrim, VmIns, VmTab, VmComp, VmLaw, VmSym, SvBase, SvDef. -/
import Derived.Test.YthljmpcakagceaaGreatHVm1
import Derived.Orders
import Derived.Laws.Sem
import Derived.Laws.Externs
import Derived.Lib.SliceRun
import Derived.Laws.CopyRow
import Derived.ProofKit
import Derived.Carry
import Derived.OpenShut
import Derived.Deep.Slices
import Derived.Deep.Grids
open List renaming getElem?_eq_getElem->v6,getElem?_eq_some_iff->If,getElem?_append_left->NE,getElem?_append_right->aa9,mem_append->aaq,all_eq_true->aar,mem_singleton->aat,take_of_length_le->aau,length_append->aaA,replicate->aaE,mem_cons->aaF,mem_cons_of_mem->aaV,getD_eq_getElem?_getD->aba,pairwise_iff_getElem->abe,flatMap_cons->abo,drop_of_length_le->abp,mem_append_right->abt,getElem?_set_ne->abx,mem_append_left->abz,mem_of_mem_take->abK,mem_of_mem_drop->abQ,flatMap_append->acj,nodup_append->acr,getElem?_set->adc,any_eq_true->agc,length_set->age,drop_zero->agq,length->agD
open Bool renaming and_eq_true->ww,false_eq_true->UV,not_eq_true'->aa2,or_eq_true->abr,true->agP,false->agS
open Option.some renaming injEq->AC,inj->abq
open Nat renaming beq->Do,le_refl->IR,lt_trichotomy->aa6,le_trans->aai,ble->aak,lt_or_ge->aam,zero_le->aap,eq_or_lt_of_le->aas,lt_of_lt_of_le->aay,blt->aaS,le_of_lt->ab0,ble_eq->ab5,add_mul->abI,mul_le_mul_right->abW,lt_or_gt_of_ne->acl,le_total->acm
open Option renaming map_eq_some_iff->EQ,some->agF,none->agO
open Prod.mk renaming injEq->M2
open Array renaming getElem?_eq_some_iff->PP,getElem?_setIfInBounds->aaj,getD_eq_getD_getElem?->aal,getElem?_setIfInBounds_self_of_lt->aav,replicate->aaw,getElem?_eq_getElem->abg,size_replicate->abE,size_append->agb,ext'->agm
open Int renaming ofNat_eq_natCast->aaX,ofNat->abY
open Go.Sem renaming run_bind->ab1,run_pure->agB
open Go.Result renaming andThen_ok->abj
open Go.World renaming cell?->agd
open Decidable renaming decide->ah5
/- A pure call, whole. -/
namespace Go.Vm
structure sR (im:Im) (loc:Loc) (aA:bW) (w:World) (v:PV) (vg:bW) (I0:List Nat) (dP:Im) (bg:Loc) (w':World) (u:Value):Prop where
 fY:nE im dP
 dw:lX loc bg
 vr:VR dP bg v u
 sr:SR dP bg vg I0 w'
 os:w'.os=w.os
 tape:Tape w w'
 output:w'.output=w.output
 size:w.heap.size<=w'.heap.size
 frame: ∀b,b<w.heap.size->(∀t li k,loc t=agF li->aA[t]? =agF k->k.bA=agP->li.de≠b)->w'.heap[b]? =w.heap[b]?
 dB: ∀b o,dP b=agF o->im b=agF o\/w.heap.size<=b\/ ∃t li k,loc t=agF li/\aA[t]? =agF k/\k.bA=agP/\li.de=b
 mJ: ∀t li,bg t=agF li->loc t=agF li\/agD aA<=t
 own: ∀t li k,bg t=agF li->vg[t]? =agF k->k.bA=agP->(w.heap.size<=li.de\/ ∃u lu ku,loc u=agF lu/\aA[u]? =agF ku/\ku.bA=agP/\lu.de=li.de)
def tC (P:Program) (f:FuncId) (us:Array Value) (w:World) (R:Value->World->Prop):Prop:=
 (∃v w',(callFunc f us).run P w= .ok (.value v) w'/\R v w')\/
 ((callFunc f us).run P w= .ok (.enter f us) w/\Calls P f us w fun e w'=> ∃v,e= .returned v/\R v w')
theorem tC.mono {P:Program} {f:FuncId} {us:Array Value} {w:World} {R R':Value->World->Prop} (h:tC P f us w R) (hr: ∀v w',R v w'->R' v w'):tC P f us w R':=by
 rcases h with ⟨v,w',h1,h2⟩|⟨h1,h2⟩
 · exact .inl ⟨v,w',h1,hr _ _ h2⟩
 exact .inr ⟨h1,h2.mono fun e w' ⟨v,he,hv⟩=>⟨v,he,hr _ _ hv⟩⟩
def B2 (P : Program) (rec : Task -> Option Out) : Prop :=
  ∀ (f : FuncId) (args : List PV) (aA : bW) (fz : List Nat) (v : PV) (vg : bW) (I0 : List Nat), rec (.func f args aA fz) = agF (.func v vg I0) ->
    ∀ (im : Im) (loc : Loc) (w : World) (us : List Value), SR im loc aA fz w -> eG im loc args us ->
      tC P f ⟨us⟩ w fun u w' => ∃ dP bg, sR im loc aA w v vg I0 dP bg w' u
def zP (P : Program) (f : FuncId) (p : List PV -> Option (PV × bW)) : Prop :=
  ∀ (args : List PV) (v : PV) (news : bW), p args = agF (v, news) -> ∀ (im : Im) (w : World) (us : List Value), SR im fE [] [] w -> eG im fE args us ->
    tC P f ⟨us⟩ w fun u w' => ∃ dP bg, sR im fE [] w v news [] dP bg w' u
def OZ (P : Program) (f : FuncId) (p : List PV -> bW -> List Nat -> Option (PV × bW × List Nat)) : Prop :=
  ∃ fn c, P.funcs[f]? = agF fn /\ (fn.name == "runtime.NumGoroutine") = agS /\ fn.body = agF c /\
    ∀ (args : List PV) (aA : bW) (fz : List Nat) (v : PV) (vg : bW) (I0 : List Nat), p args aA fz = agF (v, vg, I0) ->
      ∀ (im : Im) (loc : Loc) (w : World) (us : List Value), SR im loc aA fz w -> eG im loc args us ->
        tC P f ⟨us⟩ w fun u w' => ∃ dP bg, sR im loc aA w v vg I0 dP bg w' u
def sS (P:Program) (F:kH):Prop:=(∀f k p,F f=agF (.iZ k p)->k=agS/\zP P f p)/\ ∀f p,F f=agF (.OH p)->OZ P f p
section
variable {P : Program} {F : kH} {rec : Task -> Option Out} {im : Im} {loc : Loc} {aA : bW} {w : World}
theorem SR.empty (h: ∀b o,im b=agF o->w.heap[b]? =agF o):SR im fE [] [] w where
 bq:=h
 de:=fun t li h=>by cases h
 iE:=fun t u li lj k k' h=>by cases h
 free:=fun t li k h=>by cases h
theorem O0 {r:nB} {v:PV} {u:Value} {nJ:bW} {Ge:List Nat} {im0 DJ:Im} {cR:Loc} {w1:World} (hk:jj im loc aA w r) (hr:r.v=v) (hn:r.news=[]) (hw:r.wr=[]) (hno:v.jt=agP)
 (hp:sR im0 fE [] w v nJ Ge DJ cR w1 u): ∃dP bg,VR dP bg r.v u/\sM im loc aA w r dP bg w1:=by
 refine ⟨im,loc,by rw [hr];exact Jt hno hp.vr,?_⟩;have qt: ∀b,b<w.heap.size->w1.heap[b]? =w.heap[b]?:=fun b hb=>hp.frame b hb fun t li k h=>by cases h
 exact {
  fY:= .refl _,dw:= .refl _
  bq:=fun b o h=>by have h1:=hk.bq b o h;have df:b<w.heap.size:=(PP.1 h1).1;rw [qt b df];exact h1
  dB:=fun _ _ h=> .inl h
  os:=hp.os,tape:=hp.tape,output:=hp.output,size:=hp.size
  frame:=fun b hb _=>qt b hb
  OJ:=fun t k h=>by rw [hw] at h;cases h
  wr:=fun t k li h=>by rw [hw] at h;cases h
  kJ:=fun _ _ h=> .inl h
  news:=fun j k li h=>by rw [hn] at h;simp at h
  distinct:=fun i j ki kj li lj h=>by rw [hn] at h;simp at h}
theorem QV {r:nB} {v v':PV} {u:Value} {nJ:bW} {Ge tk:List Nat} {DJ:Im} {cR:Loc} {w1:World} (hr:r.v=v') (hn:r.news=[]) (hw:r.wr=[]) (hf:r.fr=tk)
 (hp:sR (grow im w (zN loc aA tk)) fE [] w v nJ Ge DJ cR w1 u) (hi:w5 nJ v=agF v'): ∃dP bg,VR dP bg r.v u/\sM im loc aA w r dP bg w1:=by
 have qt: ∀b,b<w.heap.size->w1.heap[b]? =w.heap[b]?:=fun b hb=>hp.frame b hb fun t li k h=>by cases h
 let DK:Im:=fun b=>match DJ b with
  |some o=>agF o
  |none=>if (zN cR nJ (ja sC v)).contains b&&aak w.heap.size b then w1.heap[b]? else agO
 have kY:nE DJ DK:=fun b o h=>by simp only [DK,h]
 have zC: ∀b o,DK b=agF o->w1.heap[b]? =agF o:=by
  intro b o h;simp only [DK] at h;split at h
  · rename_i o' ho;injection h with h;subst h;exact hp.sr.bq b _ ho
  split at h
  · exact h
  cases h
 have ahU: ∀t,t∈ja sC v->Over DJ DK cR nJ w1 t:=by
  intro t ht li hl;obtain ⟨k,iF,sF⟩:=hp.sr.de t li hl;refine ⟨k,iF,sF,fun hs=>?_⟩;have hge:w.heap.size<=li.de:=by
   rcases hp.own t li k hl iF hs with h|⟨u,lu,ku,h,_⟩
   · exact h
   cases h
  simp only [DK];split
  · rename_i o ho;exact (hp.sr.bq _ _ ho).symm
  rw [rc]
  simp only [ww,ab5];exact ⟨by simpa using zO.2 ⟨t,li,k,ht,hl,iF,hs,rfl⟩,hge⟩
 refine ⟨DK,loc,by rw [hr];exact QS kY ahU hp.vr hi,?_⟩;exact {
  fY:=(HN im w _).trans (hp.fY.trans kY),dw:= .refl _
  bq:=zC
  dB:=fun b o h=>by
   simp only [DK] at h;split at h
   · rename_i o' ho
     injection h with h;subst h;rcases hp.dB b _ ho with h1|h1|⟨t,li,k,h1,_⟩
     · rcases QR h1 with h2|h2
       · exact .inl h2
       obtain ⟨t,li,k,ht,hl,wK,hs,hb⟩:=zO.1 h2
       exact .inr (.inr ⟨t,li,k,by rw [hf];exact o9.2 ht,hl,wK,hs,hb⟩)
     · exact .inr (.inl h1)
     cases h1
   split at h
   · rename_i hc
     simp only [ww,ab5] at hc;exact .inr (.inl hc.2)
   cases h
  os:=hp.os,tape:=hp.tape,output:=hp.output,size:=hp.size
  frame:=fun b hb _=>qt b hb
  OJ:=fun t k h=>by rw [hw] at h;cases h
  wr:=fun t k li h=>by rw [hw] at h;cases h
  kJ:=fun _ _ h=> .inl h
  news:=fun j k li h=>by rw [hn] at h;simp at h
  distinct:=fun i j ki kj li lj h=>by rw [hn] at h;simp at h}
theorem Nj {r:nB} {v v':PV} {u:Value} {nJ:bW} {Ge seen':List Nat} {im0 DJ:Im} {cR:Loc} {w1:World} {news:bW} (hk:jj im loc aA w r) (hr:r.v=v') (hn:r.news=news) (hw:r.wr=[])
 (hp:sR im0 fE [] w v nJ Ge DJ cR w1 u) (hi:yY nJ Ge (agD aA) [] v=agF (v',news,seen')): ∃dP bg,VR dP bg r.v u/\sM im loc aA w r dP bg w1:=by
 have qt: ∀b,b<w.heap.size->w1.heap[b]? =w.heap[b]?:=fun b hb=>hp.frame b hb fun t li k h=>by cases h
 obtain ⟨Ju,ts,h1,h2⟩:=QU (fun t li hl=>hp.sr.de t li hl) hp.vr hi
 let qw:Loc:=fun t=>if t<(agD aA) then loc t else match Ju[t-(agD aA)]? with
  |some li=>agF li
  |none=>loc t
 have AH: ∀(j:Nat) (li:LI),Ju[j]? =agF li->qw (agD aA+j)=agF li:=by intro j li hj;simp only [qw];rw [ut (by omega),show (agD aA)+j-(agD aA)=j by omega,hj]
 have kY:lX loc qw:=by
  intro t li hl;simp only [qw];split
  · exact hl
  rename_i df
  split
  · rename_i l2 GF
    have hj:=(If.1 GF).1;have:=hk.fresh (t-(agD aA)) (by rw [hn,<- h1.HP];exact hj);rw [show (agD aA)+(t-(agD aA))=t by omega,hl] at this;cases this
  exact hl
 have hli: ∀(j:Nat) (k:jL),news[j]? =agF k-> ∃li,Ju[j]? =agF li:=by intro j k hj;have:=(If.1 hj).1;exact ⟨_,v6 (by rw [h1.HP];exact this)⟩
 have hts: ∀(j:Nat) (k:jL),news[j]? =agF k->k.bA=agP-> ∃t,ts[j]? =agF (agF t):=by
  intro j k hj hs;have df:=(If.1 hj).1;cases hg:ts[j]? with
  |none=>have:=List.getElem?_eq_none_iff.1 hg;have:=h1.I';omega
  |some x=>
   cases x with
   |some t=>exact ⟨t,rfl⟩
   |none=>rw [h1.dum j k hj hg] at hs;cases hs
 refine ⟨im,qw,by rw [hr];exact h2 im qw AH,?_⟩;exact {
  fY:= .refl _,dw:=kY
  bq:=fun b o h=>by have h1:=hk.bq b o h;have df:b<w.heap.size:=(PP.1 h1).1;rw [qt b df];exact h1
  dB:=fun _ _ h=> .inl h
  os:=hp.os,tape:=hp.tape,output:=hp.output,size:=hp.size
  frame:=fun b hb _=>qt b hb
  OJ:=fun t k h=>by rw [hw] at h;cases h
  wr:=fun t k li h=>by rw [hw] at h;cases h
  kJ:=fun t li h=>by
   simp only [qw] at h;split at h
   · exact .inl h
   rename_i df
   split at h
   · rename_i l2 GF
     have hj:=(If.1 GF).1;exact .inr ⟨by omega,by rw [hn,<- h1.HP];omega⟩
   exact .inl h
  news:=BU fun j k hj=>by
   rw [hn] at hj;obtain ⟨li,hl⟩:=hli j k hj;obtain ⟨⟨e,rows,rfl⟩,sF⟩:=h1.br j k li hj hl;refine ⟨li,AH j li hl,sF,fun hs=>?_⟩;obtain ⟨t,ht⟩:=hts j _ hj hs;obtain ⟨a1,a2,a3,_,_⟩:=h1.own j _ li t hj hl ht;have hge:w.heap.size<=li.de:=by
    rcases hp.own t li _ a1 a2 hs with h|⟨u,lu,ku,h,_⟩
    · exact h
    cases h
   refine ⟨?_,.inl hge⟩;cases hb:im li.de with
   |none=>rfl
   |some o=>have:=(PP.1 (hk.bq _ _ hb)).1;omega
  distinct:=fun i j ki kj li lj qk T7 Uh O1 alq alr Jr=>by rw [hn] at qk T7;obtain ⟨l1,M9⟩:=hli i ki qk;obtain ⟨l2,GF⟩:=hli j kj T7;have e1:=AH i l1 M9;have e2:=AH j l2 GF;rw [alq] at e1;rw [alr] at e2;injection e1 with e1;injection e2 with e2;subst e1 e2;obtain ⟨t1,ht1⟩:=hts i ki qk Uh;obtain ⟨t2,ht2⟩:=hts j kj T7 O1;obtain ⟨a1,a2,_⟩:=h1.own i ki li t1 qk M9 ht1;obtain ⟨b1,b2,_⟩:=h1.own j kj lj t2 T7 GF ht2;have:=hp.sr.iE t1 t2 li lj ki kj a1 b1 a2 b2 Uh O1 Jr;subst this;exact h1.inj i j t1 ht1 ht2}
theorem zQ {own:Bool} {f:FuncId} {mU:List PV} {tk:List Nat} {r:nB}
 (h:(match rec (.func f mU [] []) with
  |some (.func v s1 z1)=>
   if own then match yY s1 z1 (agD aA) [] v with
    |some (v',n2,_)=>agF {v:=v',news:=n2,rd:=tk}
    |none=>agO
   else if v.jt then agF {v,rd:=tk}
   else match w5 s1 v with
    |some v'=>agF {v:=v',rd:=tk,fr:=tk}
    |none=>agO
  |_=>agO)=agF r):r.rd=tk:=by
 split at h
 · split at h
   · split at h
     · injection h with h;subst h;rfl
     cases h
   split at h
   · injection h with h;subst h;rfl
   split at h
   · injection h with h;subst h;rfl
   cases h
 cases h
theorem xz (vd:B2 P rec) {own:Bool} {f:FuncId} {mU:List PV} {tk:List Nat} {r:nB} {us:List Value}
 (h:(match rec (.func f mU [] []) with
  |some (.func v s1 z1)=>
   if own then match yY s1 z1 (agD aA) [] v with
    |some (v',n2,_)=>agF {v:=v',news:=n2,rd:=tk}
    |none=>agO
   else if v.jt then agF {v,rd:=tk}
   else match w5 s1 v with
    |some v'=>agF {v:=v',rd:=tk,fr:=tk}
    |none=>agO
  |_=>agO)=agF r) (ha:eG (grow im w (zN loc aA tk)) fE mU us) (hk:jj im loc aA w r):
 tC P f ⟨us⟩ w fun u w'=> ∃dP bg,VR dP bg r.v u/\sM im loc aA w r dP bg w':=by
 cases hr:rec (.func f mU [] []) with
 |none=>rw [hr] at h;cases h
 |some o=>
  rw [hr] at h;cases o with
  |code e st=>cases h
  |func v s1 z1=>
   dsimp only at h;refine (vd f mU [] [] v s1 z1 hr _ fE w us (SR.empty (Ng hk.bq)) ha).mono fun u w' hq=>?_
   obtain ⟨DJ,cR,hp⟩:=hq;split at h
   · cases hio:yY s1 z1 (agD aA) [] v with
     |none=>rw [hio] at h;cases h
     |some q2=>obtain ⟨v',n2,s2⟩:=q2;rw [hio] at h;simp only [AC] at h;subst h;exact Nj hk rfl rfl rfl hp hio
   split at h
   · rename_i hno
     simp only [AC] at h;subst h;exact O0 hk rfl rfl rfl hno hp
   cases hif:w5 s1 v with
   |none=>rw [hif] at h;cases h
   |some v'=>rw [hif] at h;simp only [AC] at h;subst h;exact QV rfl rfl rfl rfl hp hif
theorem HR (vd:B2 P rec) (xA:sS P F) {own:Bool} {f:FuncId} {args:List PV} {fz:List Nat} {r:nB} {us:List Value}
 (h:cC F rec own f args aA fz=agF r) (ha:eG im loc args us) (hk:jj im loc aA w r):
 tC P f ⟨us⟩ w fun u w'=> ∃dP bg,VR dP bg r.v u/\sM im loc aA w r dP bg w':=by
 have alu: ∀(rd:List Nat),(∀b o,im b=agF o->w.heap[b]? =agF o)-> ∀b o,grow im w (zN loc aA rd) b=agF o->w.heap[b]? =agF o:=fun rd h=>Ng h
 have Lr: ∀(mU:List PV),BH aA (wU aA deep) args=agF mU->(∀t,t∈cW (cK aA deep) args-> ∀li,loc t=agF li-> ∃k,aA[t]? =agF k/\BR im loc w li k)->(∀b o,im b=agF o->w.heap[b]? =agF o)->
  eG (grow im w (zN loc aA (cW (cK aA deep) args))) fE mU us:=by
  intro mU hx alv zC;refine xy (w:=w) (HN _ _ _) (fun t=>Nh (HN _ _ _) deep t) (fun t ht li hl=>?_) ha hx;obtain ⟨k,iF,sF⟩:=alv t ht li hl;exact ⟨k,iF,sF,fun hs=>Uf zC (zO.2 ⟨t,li,k,ht,hl,iF,hs,rfl⟩)⟩
 unfold cC at h;cases hx:BH aA (wU aA deep) args with
 |none=>rw [hx] at h;cases h
 |some mU=>
  rw [hx] at h;dsimp only at h;cases hF:F f with
  |none=>rw [hF] at h;dsimp only at h;have Gj:r.rd=cW (cK aA deep) args:=zQ h;exact xz vd h (Lr mU hx (fun t ht=>hk.tok t (.inl (by rw [Gj];exact ht))) hk.bq) hk
  |some en=>
   rw [hF] at h;cases en with
   |iZ M3 p=>
    dsimp only at h;obtain ⟨rfl,hpo⟩:=xA.1 f M3 p hF;cases Lv:p mU with
    |none=>rw [Lv] at h;cases h
    |some q=>
     obtain ⟨v,news⟩:=q;rw [Lv] at h;dsimp only at h;cases hio:yY news [] (agD aA) [] v with
     |none=>rw [hio] at h;cases h
     |some q2=>
      obtain ⟨v',n2,s2⟩:=q2;rw [hio] at h;simp only [UV,if_false,AC] at h;subst h;refine (hpo mU v news Lv _ w us (SR.empty (alu _ hk.bq)) (Lr mU hx (fun t ht=>hk.tok t (.inl ht)) hk.bq)).mono fun u w' hq=>?_
      obtain ⟨DJ,cR,hp⟩:=hq;exact Nj hk rfl rfl rfl hp hio
   |code x=>dsimp only at h;have Gj:r.rd=cW (cK aA deep) args:=zQ h;exact xz vd h (Lr mU hx (fun t ht=>hk.tok t (.inl (by rw [Gj];exact ht))) hk.bq) hk
   |OH x=>dsimp only at h;have Gj:r.rd=cW (cK aA deep) args:=zQ h;exact xz vd h (Lr mU hx (fun t ht=>hk.tok t (.inl (by rw [Gj];exact ht))) hk.bq) hk
end
end Go.Vm
/- A call that works on the blocks that its arguments lead to, numbered anew: what it does to the memory. -/
namespace Go.Vm
theorem gA {α:Type} {l:List α} {i:Nat} {x:α} (h:l[i]? =agF x):i<(agD l):=(If.1 h).1
theorem B3: ∀{l:List Nat} {t:Nat},t∈oy l↔t∈l
 | [],t=>by simp [oy]
 |a::r,t=>by
  rw [oy];split
  · rename_i h
    rw [B3];have:=o9.1 h;constructor
    · exact fun h=>by simp [h]
    intro h
    rcases aaF.1 h with h|h
    · subst h;exact this
    exact h
  simp [B3]
theorem sT: ∀{l:List Nat},(oy l).Nodup
 | []=>by simp [oy]
 |a::r=>by
  rw [oy];split
  · exact sT
  rename_i h
  rw [List.nodup_cons];exact ⟨fun hm=>h (o9.2 (B3.1 hm)),sT⟩
theorem El: ∀{a b:bW},uY a b=agP-> ∀(i:Nat) (x:jL),a[i]? =agF x-> ∃y,b[i]? =agF y/\x.bA=y.bA
 | [],_,_,i,x,h=>by simp at h
 |c::r,d::q,hf,i,x,h=>by
  simp only [uY,ww] at hf;cases i with
  |zero=>simp at h;subst h;refine ⟨d,rfl,?_⟩;have:=hf.1;split at this<;>first|(rename_i h1 h2;rw [h1,h2])|cases this
  |succ i=>simpa using El hf.2 i x (by simpa using h)
 |_::_,[],hf,_,_,_=>by cases hf
theorem Em {g:Nat->Nat}: ∀{tk:List Nat} {s:bW} {t:Nat} {k:jL},(t,k)∈oB g tk s↔ ∃(i:Nat) (b:jL),tk[i]? =agF t/\s[i]? =agF b/\k=za g b
 | [],s,t,k=>by simp [oB]
 |a::r,[],t,k=>by simp [oB]
 |a::r,b::s,t,k=>by
  simp only [oB,aaF,M2,Em];constructor
  · rintro (⟨rfl,rfl⟩|⟨i,c,h1,h2,h3⟩)
    · exact ⟨0,b,rfl,rfl,rfl⟩
    exact ⟨i+1,c,by simpa using h1,by simpa using h2,h3⟩
  rintro ⟨i,c,h1,h2,h3⟩
  cases i with
  |zero=>simp at h1 h2;subst h1;subst h2;exact .inl ⟨rfl,h3⟩
  |succ i=>exact .inr ⟨i,c,by simpa using h1,by simpa using h2,h3⟩
theorem GJ {g:Nat->Nat}: ∀(s:bW) (i:Nat),(AA g s)[i]? =(s[i]?).map (za g)
 | [],i=>by simp [AA]
 |b::r,0=>by simp [AA]
 |b::r,i+1=>by simpa [AA] using GJ r i
theorem AN {g:Nat->Nat}: ∀(s:bW),(AA g s).length=agD s
 | []=>rfl
 |b::r=>by simp [AA,AN r]
section
variable {P : Program} {F : kH} {rec : Task -> Option Out} {im : Im} {loc : Loc} {aA : bW} {w : World} {tk : List Nat} {g : Nat -> Nat} {l1 l2 : Loc}
mutual
theorem VR.zd: ∀{x:PV} {v:Value},VR im l1 x v->(∀u,u∈ja sC x-> ∀li,l1 u=agF li->l2 (g u)=agF li)->VR im l2 (BO g x) v
 |_,_,.undef v,_=> .undef v
 |_,_,.jl,_=> .jl
 |_,_,.int k n,_=> .int k n
 |_,_,.bool b,_=> .bool b
 |_,_,.str s,_=> .str s
 |_,_,.agg cs vs h,hg=> .agg _ vs (eG.zd h (fun u hu=>hg u (by simpa [ja] using hu)))
 |_,_,.bS cs vs h,hg=> .bS _ vs (eG.zd h (fun u hu=>hg u (by simpa [ja] using hu)))
 |_,_,.sl esz qn rows a cap hc hk h,_=> .sl esz qn rows a cap hc hk h
 |_,_,.own t esz off len cap ex li a cD h1 h2 h3 h4 h5 h6 h7,hg=> .own _ esz off len cap ex li a cD (hg _ (by simp [ja]) _ h1) h2 h3 h4 h5 h6 h7
 |_,_,.ptr t esz row off li h1 h2 h3,hg=> .ptr _ esz row off li (hg _ (by simp [ja]) _ h1) h2 h3
 |_,_,.bu cs off b o vs h hv,hg=> .bu _ off b o vs (eG.zd h (fun u hu=>hg u (by simpa [ja] using hu))) hv
 |_,_,.mp t li h,hg=> .mp _ li (hg _ (by simp [ja]) _ h)
 |_,_,.eh fn a b as bs ha hb,hg=> .eh fn _ _ as bs (eG.zd ha (fun u hu=>hg u (by simp [ja,hu]))) (eG.zd hb (fun u hu=>hg u (by simp [ja,hu])))
 |_,_,.dz,_=> .dz
theorem eG.zd: ∀{x:List PV} {v:List Value},eG im l1 x v->(∀u,u∈cW sC x-> ∀li,l1 u=agF li->l2 (g u)=agF li)->eG im l2 (wG g x) v
 |_,_,.nil,_=> .nil
 |_,_,.cons x v xs vs h hs,hg=> .cons _ v _ vs (VR.zd h (fun u hu=>hg u (by simp [cW,hu]))) (eG.zd hs (fun u hu=>hg u (by simp [cW,hu])))
end
theorem VR.BO {x:PV} {v:Value} (hg: ∀u,u∈ja sC x-> ∀li,l1 u=agF li->l2 (g u)=agF li) (h:VR im l1 x v):VR im l2 (Vm.BO g x) v:=h.zd hg
theorem eG.BO {x:List PV} {v:List Value} (hg: ∀u,u∈cW sC x-> ∀li,l1 u=agF li->l2 (g u)=agF li) (h:eG im l1 x v):eG im l2 (wG g x) v:=h.zd hg
theorem AO: ∀(x:List PV),(wG g x).length=agD x
 | []=>rfl
 |x::xs=>by simp [wG,AO xs]
theorem BR.BO {li:LI} {k:jL} (hg: ∀u,u∈qH k-> ∀li,l1 u=agF li->l2 (g u)=agF li) (h:BR im l1 w li k):BR im l2 w li (za g k):=by
 cases k with
 |arr e rows=>exact h
 |box cs=>obtain ⟨a1,a2,a3,vs,el,a4,a5,a6⟩:=h;exact ⟨by rw [AO];exact a1,a2,a3,vs,el,a4,a5,a6.BO hg⟩
 |map es=>exact h
 |dead=>trivial
theorem xB (k:jL):(za g k).bA=k.bA:=by cases k<;>rfl
theorem Lw (vd:B2 P rec) {f:FuncId} {args:List PV} {fz:List Nat} {r:nB} {us:List Value}
 (h:tu rec f args aA fz=agF r) (ha:eG im loc args us) (hk:jj im loc aA w r):
 tC P f ⟨us⟩ w fun u w'=> ∃dP bg,VR dP bg r.v u/\sM im loc aA w r dP bg w':=by
 unfold tu at h;have Gf:(oy (cW (cK aA deep) args)).Nodup:=sT;generalize Ay:oy (cW (cK aA deep) args)=tk at h Gf;split at h
 · cases h
 rename_i a s0 En;unfold T0 at En;split at En
 case isFalse=>cases En
 rename_i alw;simp only [aar,aa2] at alw;split at En
 case h_2=>cases En
 rename_i a' s0' hra T9;simp only [AC,M2] at En;obtain ⟨rfl,rfl⟩:=En;split at h
 case h_2=>cases h
 rename_i v s hr;unfold D7 at h;split at h
 case isFalse=>cases h
 rename_i QW;injection h with h;obtain ⟨IZ,Dn⟩:=BQ T9;have hf0:=El QW;have kY:(agD tk)<=(agD s):=by
  rcases Nat.eq_zero_or_pos (agD tk) with h0|h0
  · omega
  obtain ⟨y,hy,_⟩:=hf0 (agD tk-1) (s0'[agD tk-1]'(by omega)) (v6 _)
  have:=gA hy;omega
 let Lx:Loc:=fun u=>match tk[u]? with|some t=>loc t|none=>agO
 have Eo:Ren tk loc Lx:=fun u t hu=>by simp only [Lx,hu]
 have hC: ∀u li,Lx u=agF li-> ∃t,tk[u]? =agF t/\loc t=agF li:=by
  intro u li hl;simp only [Lx] at hl;split at hl
  · rename_i t ht;exact ⟨t,ht,hl⟩
  cases hl
 have QX: ∀t k,(t,k)∈r.wr↔ ∃(i:Nat) (b:jL),tk[i]? =agF t/\s[i]? =agF b/\k=za (jV tk (agD aA)) b:=fun t k=>by rw [<- h];exact Em
 have aby: ∀u t,tk[u]? =agF t->(t∈r.rd\/ ∃b,(t,b)∈r.wr):=fun u t ht=>by have:=gA ht;exact .inr ⟨_,(QX t _).2 ⟨u,_,ht,v6 (by omega),rfl⟩⟩
 have zH: ∀(u t:Nat) (k:jL),tk[u]? =agF t->s0'[u]? =agF k-> ∃k0:jL,aA[t]? =agF k0/\k.bA=k0.bA:=fun u t k ht hs=>by obtain ⟨k0,k',g1,g2,g3⟩:=Dn u t ht;rw [hs] at g3;injection g3 with g3;subst g3;exact ⟨k0,g1,AE g2⟩
 have hSR:SR im Lx s0' [] w:={
  bq:=hk.bq
  de:=fun u li hl=>by obtain ⟨t,h1,h2⟩:=hC u li hl;obtain ⟨k,iF,sF⟩:=hk.tok t (aby u t h1) li h2;obtain ⟨k0,k',g1,g2,g3⟩:=Dn u t h1;rw [iF] at g1;injection g1 with g1;subst g1;exact ⟨k',g3,GB Eo g2 sF⟩
  iE:=fun t u li lj k k' hl kM hs uw Dp aly hb=>by
   obtain ⟨a1,h1,h2⟩:=hC t li hl;obtain ⟨a2,h3,h4⟩:=hC u lj kM;obtain ⟨k0,g1,g2⟩:=zH t a1 k h1 hs;obtain ⟨k0',g1',g2'⟩:=zH u a2 k' h3 uw;have:=hk.iE a1 a2 li lj k0 k0' (aby t a1 h1) (aby u a2 h3) h2 h4 g1 g1' (by rw [<- g2];exact Dp) (by rw [<- g2'];exact aly) hb;subst this;have pw:=abe.1 Gf;obtain ⟨l1,e1⟩:=If.1 h1;obtain ⟨l2,e2⟩:=If.1 h3;rcases aa6 t u with h|h|h
   · exact absurd (e1.trans e2.symm) (pw t u l1 l2 h)
   · exact h
   exact absurd (e2.trans e1.symm) (pw u t l2 l1 h)
  free:=fun t li k hl hs Dp _=>by obtain ⟨a1,h1,h2⟩:=hC t li hl;obtain ⟨k0,g1,g2⟩:=zH t a1 k h1 hs;have df:=gA h1;exact hk.free a1 _ ((QX a1 _).2 ⟨t,_,h1,v6 (by omega),rfl⟩) li k0 h2 g1 (by rw [<- g2];exact Dp)}
 refine (vd f a' s0' [] v s [] hr im Lx w us hSR (sL Eo ha hra)).mono fun u w' ⟨dP,Jv,hf⟩=>?_
 let bg:Loc:=fun t=>match loc t with
  |some li=>agF li
  |none=>if (agD aA)<=t/\t-(agD aA)<(agD r.news) then Jv (t-(agD aA)+agD tk) else agO
 have ahZ:lX loc bg:=fun t li hl=>by simp only [bg,hl]
 have Gk:(gZ (agD tk) v s=agP/\r.news=[])\/(gZ (agD tk) v s=agS/\r.news=AA (jV tk (agD aA)) (s.drop (agD tk))):=by
  rw [<- h];cases OU:gZ (agD tk) v s with
  |true=>exact .inl ⟨rfl,by simp⟩
  |false=>exact .inr ⟨rfl,by simp⟩
 have ah0:gZ (agD tk) v s=agS->agD r.news=agD s-(agD tk):=fun h1=>by
  rcases Gk with ⟨h2,_⟩|⟨_,h2⟩
  · rw [h1] at h2;cases h2
  rw [h2];simp [AN]
 have alz: ∀u li,Jv u=agF li->u<(agD s):=fun u li hl=>let ⟨k,iF,_⟩:=hf.sr.de u li hl;gA iF
 have QY: ∀j li,bg (agD aA+j)=agF li->j<agD r.news->Jv (agD tk+j)=agF li:=fun j li hl hj=>by simp only [bg,hk.fresh j hj] at hl;rw [rc ⟨by omega,by omega⟩] at hl;rw [show (agD aA)+j-(agD aA)+agD tk=agD tk+j by omega] at hl;exact hl
 have hg: ∀u,(u<agD tk\/gZ (agD tk) v s=agS)-> ∀li,Jv u=agF li->bg (jV tk (agD aA) u)=agF li:=by
  intro u Ui li hl;unfold jV;split
  · rename_i t ht
    rcases hf.mJ u li hl with h1|h1
    · obtain ⟨t',h2,h3⟩:=hC u li h1
      rw [ht] at h2;injection h2 with h2;subst h2;exact ahZ _ _ h3
    have:=gA ht;omega
  rename_i hn
  have hu:(agD tk)<=u:=by simpa using hn
  rcases Ui with Ui|Ui
  · omega
  have df:=alz u li hl;have Gk:=ah0 Ui;simp only [bg,hk.fresh (u-(agD tk)) (by omega)];rw [rc ⟨by omega,by omega⟩,show (agD aA)+(u-(agD tk)) -(agD aA)+agD tk=u by omega];exact hl
 have OU: ∀u,gZ (agD tk) v s=agP->(u∈ja sC v\/ ∃i b,i<agD tk/\s[i]? =agF b/\u∈qH b)->u<(agD tk):=fun u h1 h2=>by
  unfold gZ at h1;have h3:=aar.1 h1 u (by
   rcases h2 with h2|⟨i,b,g1,g2,g3⟩
   · simp [h2]
   refine aaq.2 (.inr (List.mem_flatMap.2 ⟨b,?_,g3⟩))
   exact List.mem_of_getElem? (i:=i) (by rw [List.getElem?_take];simp [g1,g2]))
  simpa using h3
 have hgv: ∀u,u∈ja sC v-> ∀li,Jv u=agF li->bg (jV tk (agD aA) u)=agF li:=fun u hu=>hg u (by
  cases hq:gZ (agD tk) v s with
  |true=>exact .inl (OU u hq (.inl hu))
  |false=>exact .inr rfl)
 have hgb: ∀i b,i<agD tk->s[i]? =agF b-> ∀u,u∈qH b-> ∀li,Jv u=agF li->bg (jV tk (agD aA) u)=agF li:=fun i b hi hb u hu=>hg u (by
  cases hq:gZ (agD tk) v s with
  |true=>exact .inl (OU u hq (.inr ⟨i,b,hi,hb,hu⟩))
  |false=>exact .inr rfl)
 have hMC: ∀u t li,tk[u]? =agF t->loc t=agF li->Jv u=agF li:=fun u t li ht hl=>hf.dw u li (by simp only [Lx,ht];exact hl)
 refine ⟨dP,bg,by rw [<- h];exact hf.vr.BO hgv,?_⟩;have QZ: ∀(j:Nat) (k:jL),r.news[j]? =agF k-> ∃b,s[agD tk+j]? =agF b/\k=za (jV tk (agD aA)) b:=fun j k hj=>by
  rcases Gk with ⟨_,h0⟩|⟨_,h0⟩
  · rw [h0] at hj;simp at hj
  rw [h0] at hj;simp only [GJ,List.getElem?_drop,EQ] at hj;obtain ⟨b,h1,h2⟩:=hj;exact ⟨b,h1,h2.symm⟩
 have Uj: ∀t li,Jv t=agF li->agD tk<=t-> ∀k,s[t]? =agF k->k.bA=agP->w.heap.size<=li.de:=by
  intro t li hl ht k hs Dp;rcases hf.own t li k hl hs Dp with h1|⟨u,lu,ku,h1,h2,h3,h4⟩
  · exact h1
  exfalso
  obtain ⟨a1,g1,g2⟩:=hC u lu h1;obtain ⟨y,y1,y2⟩:=hf0 u ku h2;have:=hf.sr.iE u t lu li y k (hMC u a1 lu g1 g2) hl y1 hs (by rw [<- y2];exact h3) Dp h4;subst this;have:=gA g1;omega
 exact {
  fY:=hf.fY,dw:=ahZ
  bq:=hf.sr.bq
  dB:=fun b o hb=>by
   rcases hf.dB b o hb with h1|h1|⟨t,li,k,h1,h2,h3,h4⟩
   · exact .inl h1
   · exact .inr (.inl h1)
   exfalso
   obtain ⟨a1,g1,g2⟩:=hC t li h1;obtain ⟨y,y1,y2⟩:=hf0 t k h2;have:=hf.sr.free t li y (hMC t a1 li g1 g2) y1 (by rw [<- y2];exact h3) rfl;rw [h4,hb] at this;cases this
  os:=hf.os,tape:=hf.tape,output:=hf.output,size:=hf.size
  frame:=fun b hb hh=>hf.frame b hb fun t li k hl hs Dp=>by obtain ⟨a1,g1,g2⟩:=hC t li hl;obtain ⟨k0,e1,e2⟩:=zH t a1 k g1 hs;have df:=gA g1;exact hh a1 _ li k0 ((QX a1 _).2 ⟨t,_,g1,v6 (by omega),rfl⟩) g2 e1 (by rw [<- e2];exact Dp)
  OJ:=fun t k hm Dp=>by obtain ⟨i,b,g1,g2,rfl⟩:=(QX t k).1 hm;rw [xB] at Dp;have df:=gA g1;have e:=v6 (l:=s0') (i:=i) (by omega);obtain ⟨y,y1,y2⟩:=hf0 i _ e;rw [g2] at y1;injection y1 with y1;subst y1;obtain ⟨k0,e1,e2⟩:=zH i t _ g1 e;exact ⟨k0,e1,by rw [<- e2,y2];exact Dp⟩
  wr:=fun t k li hm hl=>by obtain ⟨i,b,g1,g2,rfl⟩:=(QX t k).1 hm;obtain ⟨k',iF,sF⟩:=hf.sr.de i li (hMC i t li g1 hl);rw [g2] at iF;injection iF with iF;subst iF;exact sF.BO (hgb i b (gA g1) g2)
  kJ:=fun t li hl=>by
   simp only [bg] at hl;cases IZ:loc t with
   |some lj=>rw [IZ] at hl;exact .inl hl
   |none=>
    rw [IZ] at hl;dsimp only at hl;split at hl
    · rename_i hn
      exact .inr ⟨hn.1,by omega⟩
    cases hl
  news:=fun j k li hj hl=>by
   have Lo:j<(agD r.news):=gA hj;obtain ⟨b,hb,rfl⟩:=QZ j k hj;have IZ:=QY j li hl Lo;obtain ⟨k',iF,sF⟩:=hf.sr.de _ li IZ;rw [hb] at iF;injection iF with iF;subst iF;have hq:gZ (agD tk) v s=agS:=by
    rcases Gk with ⟨_,h0⟩|⟨h0,_⟩
    · rw [h0] at Lo;simp at Lo
    exact h0
   refine ⟨sF.BO (fun u _=>hg u (.inr hq)),fun Dp=>?_⟩;rw [xB] at Dp;exact ⟨hf.sr.free _ li b IZ hb Dp rfl,.inl (Uj _ li IZ (by omega) b hb Dp)⟩
  distinct:=fun i j ki kj li lj hi hj Uh O1 hli hlj hb=>by obtain ⟨b1,e1,rfl⟩:=QZ i ki hi;obtain ⟨b2,e2,rfl⟩:=QZ j kj hj;rw [xB] at Uh O1;have h1:=QY i li hli (gA hi);have h2:=QY j lj hlj (gA hj);have:=hf.sr.iE _ _ li lj b1 b2 h1 h2 e1 e2 Uh O1 hb;omega}
end
end Go.Vm
/- A region's run in the order of the text, step by step; what a block holds when agF of its operations are done. -/
namespace Go.Vm
structure xC (F:kH) (rec:Task->Option Out) (ops:List bE) (S:Nat->St) (X:Nat->Option XR):Prop where
 steps: ∀(i:Nat) (o:bE),ops[i]? =agF o->
  (wanted o.guard (S i).env=agF agP/\ ∃x,wH F rec (S i).env (S i).aA (S i).fz o.op=agF x/\x.ok (S i).fz=agP/\X i=agF x/\S (i+1)=x.next o.dst (S i))\/
  (wanted o.guard (S i).env=agF agS/\X i=agO/\S (i+1)={S i with env:=iK o.dst .jl (S i).env})
def y7 (x:Option XR) (s:St):Tr:=
 match x with
 |some x=>x.tr (agD s.aA)
 |none=>Tr.idle
def ze (S:Nat->St) (X:Nat->Option XR) (n:Nat):List Tr:=(List.range n).map fun i=>y7 (X i) (S i)
theorem Ly (S:Nat->St) (X:Nat->Option XR) (n:Nat):ze S X (n+1)=y7 (X 0) (S 0)::ze (fun i=>S (i+1)) (fun i=>X (i+1)) n:=by unfold ze;rw [List.range_succ_eq_map];simp [List.map_map,Function.comp_def]
theorem B4 {F:kH} {rec:Task->Option Out}: ∀(ops:List bE) (st:St) (tr:List Tr) (kA:St) (O2:List Tr),mf F rec ops st tr=agF (kA,O2)->
 ∃S X,S 0=st/\S (agD ops)=kA/\xC F rec ops S X/\O2=(ze S X (agD ops)).reverse++tr
 | [],st,tr,kA,O2,h=>by simp only [mf,AC,M2] at h;obtain ⟨rfl,rfl⟩:=h;exact ⟨fun _=>st,fun _=>agO,rfl,rfl,⟨fun i o h=>by simp at h⟩,by simp [ze]⟩
 |o::l,st,tr,kA,O2,h=>by
  simp only [mf] at h;have mk: ∀(s1:St) (x:Option XR) (t1:Tr),y7 x st=t1->mf F rec l s1 (t1::tr)=agF (kA,O2)->
   ((wanted o.guard st.env=agF agP/\ ∃y,wH F rec st.env st.aA st.fz o.op=agF y/\y.ok st.fz=agP/\x=agF y/\s1=y.next o.dst st)\/
    (wanted o.guard st.env=agF agS/\x=agO/\s1={st with env:=iK o.dst .jl st.env}))->
   ∃S X,S 0=st/\S (o::l).length=kA/\xC F rec (o::l) S X/\O2=(ze S X (o::l).length).reverse++tr:=by
   intro s1 x t1 ht he hs;obtain ⟨S,X,h0,hn,bI,htr⟩:=B4 l s1 (t1::tr) kA O2 he;refine ⟨fun i=>match i with|0=>st|i+1=>S i,fun i=>match i with|0=>x|i+1=>X i,rfl,hn,⟨fun i o' ho=>?_⟩,?_⟩
   · cases i with
     |zero=>
      simp at ho;subst ho;rcases hs with ⟨a,y,b,c,d,e⟩|⟨a,b,c⟩
      · exact .inl ⟨a,y,b,c,d,by rw [<- e];exact h0⟩
      exact .inr ⟨a,b,by rw [<- c];exact h0⟩
     |succ i=>exact bI.steps i o' (by simpa using ho)
   rw [List.length_cons,Ly,htr]
   simp [ht]
  cases hw:wanted o.guard st.env with
  |none=>rw [hw] at h;cases h
  |some b=>
   rw [hw] at h;cases b with
   |false=>exact mk _ agO _ rfl h (.inr ⟨hw,rfl,rfl⟩)
   |true=>
    dsimp only at h;cases hx:wH F rec st.env st.aA st.fz o.op with
    |none=>rw [hx] at h;cases h
    |some x=>
     rw [hx] at h;dsimp only at h;split at h
     · rename_i zC
       exact mk _ (agF x) _ rfl h (.inl ⟨hw,x,hx,zC,rfl,rfl⟩)
     cases h
theorem ft: ∀(wr:List (Nat×jL)) (s:bW),(fR wr s).length=agD s
 | [],s=>rfl
 |(t,b)::r,s=>by rw [fR,ft r];simp
theorem tD: ∀(wr:List (Nat×jL)) (s:bW) (t:Nat),(∀k,(t,k)∉wr)->(fR wr s)[t]? =s[t]?
 | [],s,t,_=>rfl
 |(u,b)::r,s,t,h=>by
  rw [fR,tD r _ t (fun k hk=>h k (by simp [hk]))];have:u≠t:=fun e=>h b (by rw [e];simp)
  rw [abx this]
theorem Ep: ∀(wr:List (Nat×jL)) (s:bW),uZ wr=agP-> ∀{t:Nat} {k:jL},(t,k)∈wr->t<agD s->(fR wr s)[t]? =agF k
 |(u,b)::r,s,hn,t,k,hm,df=>by
  simp only [uZ,ww,aar,aa2] at hn;rw [fR];rcases aaF.1 hm with h|h
  · injection h with h1 h2
    subst h1 h2;rw [tD r _ t fun k' hk=>by simpa using hn.1 (t,k') hk];simp [df]
  exact Ep r _ hn.2 h (by simpa using df)
section
variable {F : kH} {rec : Task -> Option Out} {ops : List bE} {S : Nat -> St} {X : Nat -> Option XR}
def W (X:Nat->Option XR) (i t:Nat):Prop:=
 match X i with
 |some (.loc r)=> ∃k,(t,k)∈r.wr
 |some (.shr ..)=>True
 |none=>False
def FR (X:Nat->Option XR) (i t:Nat):Prop:=
 match X i with
 |some (.loc r)=>t∈r.fr
 |some (.shr _ _ z)=>t∈z
 |none=>False
def AP (S:Nat->St) (X:Nat->Option XR) (n:Nat) (done:Nat->Prop) (t:Nat) (k:jL):Prop:=
 ∃m,m<=n/\(∀i,i<n->W X i t->(done i↔i<m))/\(∀c,c<n->(S c).aA.length<=t->t<(S (c+1)).aA.length->c<m)/\(S m).aA[t]? =agF k
theorem Nk {e:Env} {aA:bW} {fz:List Nat} {op:kG} {v:PV} {s:bW} {z:List Nat} (h:wH F rec e aA fz op=agF (.shr v s z)):(agD aA)<=agD s/\ ∀t,t∈fz->t∈z:=by
 have key: ∀{f:FuncId} {args:List PV},fI rec f args aA fz=agF (.shr v s z)->agD aA<=agD s/\ ∀t,t∈fz->t∈z:=by
  intro f args h;unfold fI at h;split at h
  · split at h
    · rename_i hc
      simp only [ww,ab5,aar] at hc;simp only [AC,XR.shr.injEq] at h;obtain ⟨rfl,rfl,rfl⟩:=h;exact ⟨hc.1,fun t ht=>o9.1 (hc.2 t ht)⟩
    cases h
  cases h
 cases op with
 |call m f args=>
  cases m with
  |TN=>simp [wH] at h
  |own=>simp [wH] at h
  |shr=>exact key h
  |fp=>simp [wH] at h
 |wF x args=>
  simp only [wH] at h;split at h
  · split at h
    · exact key h
    simp at h
  cases h
 |_=>simp [wH] at h
theorem xC.abA (hr:xC F rec ops S X) {i:Nat} (hi:i<agD ops):(S i).aA.length<=(S (i+1)).aA.length:=by
 rcases hr.steps i _ (v6 hi) with ⟨_,x,hx,_,_,hn⟩|⟨_,_,hn⟩
 · rw [hn]
   cases x with
   |loc r=>simp [XR.next,qK,ft]
   |shr v s z=>exact (Nk hx).1
 rw [hn];exact IR _
theorem xC.hJ (hr : xC F rec ops S X) {i j : Nat} (k9 : i <= j) (hj : j <= (agD ops)) : (S i).aA.length <= (S j).aA.length := by
  induction j with
  | zero => have : i = 0 := by omega
            subst this; exact IR _
  | succ j ih =>
    rcases aas k9 with h | h
    · subst h; exact IR _
    exact aai (ih (by omega) (by omega)) (hr.abA (by omega))
theorem xC.same (hr:xC F rec ops S X) {i t:Nat} (hi:i<agD ops) (hw: ¬W X i t) (ht:t<(S i).aA.length):(S (i+1)).aA[t]? =(S i).aA[t]?:=by
 rcases hr.steps i _ (v6 hi) with ⟨_,x,hx,_,hX,hn⟩|⟨_,_,hn⟩
 · rw [hn]
   cases x with
   |loc r=>simp only [XR.next,qK];rw [NE (by rw [ft];exact ht)];exact tD _ _ _ fun k hk=>hw (by unfold W;rw [hX];exact ⟨k,hk⟩)
   |shr v s z=>exact absurd (by unfold W;rw [hX];trivial) hw
 rw [hn]
theorem xC.yz (hr : xC F rec ops S X) {m m' t : Nat} (hm : m <= m') (zR : m' <= (agD ops)) (hw : ∀ i, m <= i -> i < m' -> ¬ W X i t) (ht : t < (S m).aA.length) : (S m').aA[t]? = (S m).aA[t]? := by
  induction m' with
  | zero => have : m = 0 := by omega
            subst this; rfl
  | succ j ih =>
    rcases aas hm with h | h
    · subst h; rfl
    rw [hr.same (by omega) (hw j (by omega) (by omega)) (aay ht (hr.hJ (by omega) (by omega)))]
    exact ih (by omega) (by omega) fun i h1 h2 => hw i h1 (by omega)
theorem cm {α:Type} {l:List α} {i:Nat} {x:α} (h:l[i]? =agF x):i<(agD l):=(If.1 h).1
theorem AP.unique (hr:xC F rec ops S X) {done:Nat->Prop} {t:Nat} {k k':jL} (h:AP S X (agD ops) done t k) (h':AP S X (agD ops) done t k'):k=k':=by
 obtain ⟨m,hm,hw,hc,hs⟩:=h;obtain ⟨m',zR,TV,AI,uw⟩:=h';rcases acm m m' with h|h
 · have:=hr.yz h zR (fun i h1 h2 hW=>by
    have a:=hw i (by omega) hW;have b:=TV i (by omega) hW;have:=a.1 (b.2 h2);omega) (cm hs)
   rw [hs,uw] at this;exact (abq this).symm
 have:=hr.yz h hm (fun i h1 h2 hW=>by
  have a:=hw i (by omega) hW;have b:=TV i (by omega) hW;have:=b.1 (a.2 h2);omega) (cm uw)
 rw [hs,uw] at this;exact abq this
theorem xC.Q0 (hr:xC F rec ops S X) {i t:Nat} (hi:i<agD ops) (hd:(ops[i]).dst≠agF t):lk t (S (i+1)).env=lk t (S i).env:=by
 have key: ∀(d:Option Nat) (v:PV) (e:Env),d≠agF t->lk t (iK d v e)=lk t e:=by
  intro d v e h;cases d with
  |none=>rfl
  |some s=>simp only [iK];rw [qM,ut (fun e=>h (by rw [e]))]
 rcases hr.steps i _ (v6 hi) with ⟨_,x,hx,_,hX,hn⟩|⟨_,_,hn⟩
 · rw [hn]
   cases x with
   |loc r=>exact key _ _ _ hd
   |shr v s z=>exact key _ _ _ hd
 rw [hn];exact key _ _ _ hd
theorem xC.Lz (hr : xC F rec ops S X) {m m' t : Nat} (hm : m <= m') (zR : m' <= (agD ops)) (hd : ∀ i (hi : i < (agD ops)), m <= i -> i < m' -> (ops[i]).dst ≠ agF t) : lk t (S m').env = lk t (S m).env := by
  induction m' with
  | zero => have : m = 0 := by omega
            subst this; rfl
  | succ j ih =>
    rcases aas hm with h | h
    · subst h; rfl
    rw [hr.Q0 (by omega) (hd j (by omega) (by omega) (by omega))]
    exact ih (by omega) (by omega) fun i hi h1 h2 => hd i hi h1 (by omega)
end
end Go.Vm
/- A region: what holds while agF of its operations are done, and that one more keeps it. -/
namespace Go.Vm
def ar (x:bE):List Nat:=(x.op.eQ.filterMap fun| .t n=>agF n| .c _=>agO)++(match x.guard with|some (s,_)=>[s]|none=>[])
def uA (ops:Array Oper):Option (Nat×Bool)->Option (Nat×Bool)->Bool
 |none,agO=>agP
 |some (s,b),agF (j,c)=>b==c&&((ops[j]?).bind (·.dst))==agF s
 |_,_=>agS
def qN (P:Program) (prims:FuncId->Bool) (nt:Nat) (ops:Array Oper) (x:bE) (o:Oper):Bool:=
 x.dst==o.dst&&(match x.dst with|some d=>aaS d nt|none=>agP)&&uA ops x.guard o.guard&&wJ P prims o.type x.op o.op
def qF (X:Nat->Option XR) (i:Nat):Prop:= ∃v s z,X i=agF (.shr v s z)
def gM (X:Nat->Option XR) (i:Nat):Prop:=
 match X i with
 |some (.loc r)=>r.rd≠[]\/r.fr≠[]\/r.wr≠[]\/r.news≠[]
 |some (.shr ..)=>True
 |none=>False
def A (X:Nat->Option XR) (i t:Nat):Prop:=
 match X i with
 |some (.loc r)=>t∈r.rd\/t∈r.fr
 |_=>False
structure Ord (ops:List bE) (S:Nat->St) (X:Nat->Option XR) (wW:Nat->Nat->Prop):Prop where
 Er: ∀(i j t:Nat) (x y:bE),i<j->ops[i]? =agF x->ops[j]? =agF y->x.dst=agF t->(t∈ar y\/y.dst=agF t)->wW i j
 Q1: ∀(i j t:Nat) (x y:bE),i<j->ops[i]? =agF x->ops[j]? =agF y->y.dst=agF t->t∈ar x->wW i j
 LA: ∀i j t,i<j->j<agD ops->W X i t->(A X j t\/W X j t)->wW i j
 abB: ∀i j t,i<j->j<agD ops->A X i t->W X j t->wW i j
 abC: ∀i j t,i<j->j<agD ops-> ¬qF X i->(S i).aA.length<=t->t<(S (i+1)).aA.length-> ¬qF X j->W X j t->wW i j
 I9: ∀i j,i<j->j<agD ops->(qF X i/\gM X j\/gM X i/\qF X j)->wW i j
 cl: ∀i t,i<agD ops-> ¬qF X i->(A X i t\/W X i t)->t<(S i).aA.length\/ ∀c,i<c->c<agD ops->wW i c
structure Inv (ops:List bE) (S:Nat->St) (X:Nat->Option XR) (im0:Im) (loc0:Loc) (w0:World) (nt:Nat) (done:Nat->Prop) (im:Im) (loc:Loc) (a:Act) (w:World):Prop where
 tm: ∀t,∃m,m<=agD ops/\(∀i x,ops[i]? =agF x->x.dst=agF t->(done i↔i<m))/\VR im loc (lk t (S m).env) (a.tmps.getD t Go.undef)
 bq: ∀b o,im b=agF o->w.heap[b]? =agF o
 tok: ∀t li,loc t=agF li-> ∃k,AP S X (agD ops) done t k/\BR im loc w li k
 iE: ∀t u li lj k k',loc t=agF li->loc u=agF lj->AP S X (agD ops) done t k->AP S X (agD ops) done u k'->k.bA=agP->k'.bA=agP->li.de=lj.de->t=u
 free: ∀t li k,loc t=agF li->AP S X (agD ops) done t k->k.bA=agP->t∉(S 0).fz->(∀i,i<agD ops->done i-> ¬FR X i t)->im li.de=agO
 fresh: ∀i,i<agD ops-> ¬done i-> ∀t,(S i).aA.length<=t->t<(S (i+1)).aA.length->loc t=agO
 fY:nE im0 im
 dw:lX loc0 loc
 os:w.os=w0.os
 tape:Tape w0 w
 output:w.output=w0.output
 size:w0.heap.size<=w.heap.size
 frame: ∀b,b<w0.heap.size->(∀t li k,loc0 t=agF li->(S 0).aA[t]? =agF k->k.bA=agP->li.de≠b)->w.heap[b]? =w0.heap[b]?
 dB: ∀b o,im b=agF o->im0 b=agF o\/w0.heap.size<=b\/ ∃t li k,loc0 t=agF li/\(S 0).aA[t]? =agF k/\k.bA=agP/\li.de=b
 mJ: ∀t li,loc t=agF li->loc0 t=agF li\/(S 0).aA.length<=t
 own: ∀t li k,loc t=agF li->AP S X (agD ops) done t k->k.bA=agP->(w0.heap.size<=li.de\/ ∃u lu ku,loc0 u=agF lu/\(S 0).aA[u]? =agF ku/\ku.bA=agP/\lu.de=li.de)
 defers:a.defers=[]
 Lh:a.tmps.size=nt
def plus (done:Nat->Prop) (i:Nat):Nat->Prop:=fun j=>done j\/j=i
section
variable {F : kH} {rec : Task -> Option Out} {ops : List bE} {S : Nat -> St} {X : Nat -> Option XR} {wW : Nat -> Nat -> Prop} {im0 : Im} {loc0 : Loc} {w0 : World} {nt : Nat}
  {done : Nat -> Prop} {im : Im} {loc : Loc} {a : Act} {w : World} {i : Nat}
structure Place (ops:List bE) (wW:Nat->Nat->Prop) (done:Nat->Prop) (i:Nat):Prop where
 lt:i<agD ops
 nd: ¬done i
 pre: ∀j,j<agD ops->wW j i->done j
 eh: ∀k,k<agD ops->done k-> ∀j,j<agD ops->wW j k->done j
theorem Place.later (hp:Place ops wW done i) {k:Nat} (hk:k<agD ops) (h:wW i k): ¬done k:=fun hd=>hp.nd (hp.eh k hk hd i hp.lt h)
theorem Inv.slot (hr:xC F rec ops S X) (ho:Ord ops S X wW) (hv:Inv ops S X im0 loc0 w0 nt done im loc a w) (hp:Place ops wW done i) {x:bE} (hx:ops[i]? =agF x) {t:Nat} (ht:t∈ar x):
 VR im loc (lk t (S i).env) (a.tmps.getD t Go.undef):=by
 obtain ⟨m,hm,hd,ot⟩:=hv.tm t;have hwr: ∀j y,ops[j]? =agF y->y.dst=agF t->(done j↔j<i):=by
  intro j y hy Nl;rcases aa6 j i with h|h|h
  · exact ⟨fun _=>h,fun _=>hp.pre j (cm hy) (ho.Er j i t y x h hy hx Nl (.inl ht))⟩
  · subst h;exact ⟨fun hd=>absurd hd hp.nd,fun h=>by omega⟩
  exact ⟨fun Jw=>absurd Jw (hp.later (cm hy) (ho.Q1 i j t x y h hx hy Nl ht)),fun h'=>by omega⟩
 have same:lk t (S i).env=lk t (S m).env:=by
  rcases acm m i with h|h
  · refine hr.Lz h (ab0 hp.lt) fun j hj h1 h2 sG=>?_
    have a1:=hd j _ (v6 hj) sG;have a2:=hwr j _ (v6 hj) sG;have:=a1.1 (a2.2 h2);omega
  refine (hr.Lz h hm fun j hj h1 h2 sG=>?_).symm
  have a1:=hd j _ (v6 hj) sG;have a2:=hwr j _ (v6 hj) sG;have:=a2.1 (a1.2 h2);omega
 rw [same];exact ot
theorem Inv.cur (hr:xC F rec ops S X) (ho:Ord ops S X wW) (hv:Inv ops S X im0 loc0 w0 nt done im loc a w) (hp:Place ops wW done i) {t:Nat} {li:LI} (hl:loc t=agF li)
 (ht:(A X i t\/W X i t)) {k:jL} (hc:AP S X (agD ops) done t k):(S i).aA[t]? =agF k:=by
 obtain ⟨m,hm,hw,hcr,hs⟩:=hc;have bY:t<(S i).aA.length:=by
  rcases aam t (S i).aA.length with h|h
  · exact h
  exfalso
  have hmi:i<m:=by
   rcases aam i m with h'|h'
   · exact h'
   have:=hr.hJ h' (ab0 hp.lt);have:=cm hs;omega
  have: ∃c,i<=c/\c<m/\(S c).aA.length<=t/\t<(S (c+1)).aA.length:=by
   have hex: ∀d,i+d<=m->t<(S (i+d)).aA.length-> ∃c,i<=c/\c<i+d/\(S c).aA.length<=t/\t<(S (c+1)).aA.length:=by
    intro d
    induction d with
    |zero=>intro _ h2;exact absurd h2 (by simpa using h)
    |succ d ih=>
     intro h1 h2;rcases aam t (S (i+d)).aA.length with h3|h3
     · obtain ⟨c,c1,c2,c3,c4⟩:=ih (by omega) h3
       exact ⟨c,c1,by omega,c3,c4⟩
     exact ⟨i+d,by omega,by omega,h3,h2⟩
   obtain ⟨c,c1,c2,c3,c4⟩:=hex (m-i) (by omega) (by rw [show i+(m-i)=m by omega];exact cm hs);exact ⟨c,c1,by omega,c3,c4⟩
  obtain ⟨c,c1,c2,c3,c4⟩:=this;have hcn:c<(agD ops):=by omega
  have alE: ¬done c:=by
   intro hdc;rcases aas c1 with e|e
   · subst e;exact hp.nd hdc
   by_cases hsh:qF X i
   · refine hp.later hcn (ho.I9 i c e hcn (.inl ⟨hsh,?_⟩)) hdc
     rcases hr.steps c _ (v6 hcn) with ⟨_,x,hx,_,hX,hn⟩|⟨_,_,hn⟩
     · unfold gM;rw [hX]
       cases x with
       |loc r=>refine .inr (.inr (.inr fun xx=>?_));rw [hn] at c4;simp [XR.next,qK,ft,xx] at c4;omega
       |shr v s z=>trivial
     rw [hn] at c4;simp at c4;omega
   rcases ho.cl i t hp.lt hsh ht with h'|h'
   · omega
   exact hp.later hcn (h' c e hcn) hdc
  have:=hv.fresh c hcn alE t c3 c4;rw [hl] at this;cases this
 have hwr: ∀j,j<agD ops->W X j t->(done j↔j<i):=by
  intro j hj hW;rcases aa6 j i with h|h|h
  · exact ⟨fun _=>h,fun _=>hp.pre j hj (ho.LA j i t h hp.lt hW ht)⟩
  · subst h;exact ⟨fun hd=>absurd hd hp.nd,fun h=>by omega⟩
  refine ⟨fun Jw=>absurd Jw (hp.later hj ?_),fun h'=>by omega⟩
  rcases ht with ht|ht
  · exact ho.abB i j t h hj ht hW
  exact ho.LA i j t h hj ht (.inr hW)
 rcases acm m i with h|h
 · rw [hr.yz h (ab0 hp.lt) (fun j h1 h2 hW=>by
    have a1:=hw j (by have:=hp.lt;omega) hW;have a2:=hwr j (by have:=hp.lt;omega) hW;have:=a1.1 (a2.2 h2);omega) (cm hs)]
   exact hs
 rw [<- hr.yz h hm (fun j h1 h2 hW=>by
  have a1:=hw j (by omega) hW;have a2:=hwr j (by omega) hW;have:=a2.1 (a1.2 h2);omega) bY]
 exact hs
end
end Go.Vm
/- A region: one more operation keeps what holds. -/
namespace Go.Vm
theorem BR.ah1 {im dP:Im} {loc bg:Loc} {w w':World} {li:LI} {k:jL} (h:BR im loc w li k) (hi:nE im dP) (hl:lX loc bg)
 (hw:k.bA=agP->w'.heap[li.de]? =w.heap[li.de]?):BR dP bg w' li k:=by
 cases hs:k.bA with
 |true=>exact h.mono hi hl (hw hs)
 |false=>
  cases k with
  |arr e rows=>
   cases rows with
   |nil=>exact ⟨h.1,h.2.1,fun dE=>absurd rfl dE⟩
   |cons _ _=>cases hs
  |box _=>cases hs
  |map _=>cases hs
  |dead=>trivial
section
variable {F : kH} {rec : Task -> Option Out} {ops : List bE} {S : Nat -> St} {X : Nat -> Option XR} {wW : Nat -> Nat -> Prop} {im0 : Im} {loc0 : Loc} {w0 : World} {nt : Nat}
  {done : Nat -> Prop} {im : Im} {loc : Loc} {a : Act} {w : World} {i : Nat}
theorem xC.ah2 (hr:xC F rec ops S X) {j:Nat} (hj:j<agD ops): ∀t,t∈(S j).fz->t∈(S (j+1)).fz:=by
 intro t ht;rcases hr.steps j _ (v6 hj) with ⟨_,x,hx,_,_,hn⟩|⟨_,_,hn⟩
 · rw [hn]
   cases x with
   |loc r=>simp only [XR.next];exact abt _ ht
   |shr v s z=>exact (Nk hx).2 t ht
 rw [hn];exact ht
theorem xC.DL (hr : xC F rec ops S X) {m m' : Nat} (h : m <= m') (hm : m' <= (agD ops)) : ∀ t, t ∈ (S m).fz -> t ∈ (S m').fz := by
  induction m' with
  | zero => have : m = 0 := by omega
            subst this; exact fun _ h => h
  | succ j ih =>
    rcases aas h with e | e
    · subst e; exact fun _ h => h
    exact fun t ht => hr.ah2 (by omega) t (ih (by omega) (by omega) t ht)
theorem xC.aaB (hr:xC F rec ops S X) {j:Nat} (hj:j<agD ops) {t:Nat} (h:FR X j t):t∈(S (j+1)).fz:=by
 rcases hr.steps j _ (v6 hj) with ⟨_,x,hx,_,hX,hn⟩|⟨_,hX,_⟩
 · rw [hn]
   unfold FR at h;rw [hX] at h;cases x with
   |loc r=>exact abz _ h
   |shr v s z=>exact h
 unfold FR at h;rw [hX] at h;exact h.elim
theorem ah3 {j t:Nat} (h:FR X j t):A X j t\/W X j t:=by
 unfold FR at h;unfold A W;cases hX:X j with
 |none=>rw [hX] at h;exact h.elim
 |some x=>
  rw [hX] at h;cases x with
  |loc r=>exact .inl (.inr h)
  |shr v s z=>exact .inr trivial
theorem Inv.Es (hr:xC F rec ops S X) (ho:Ord ops S X wW) (hp:Place ops wW done i) {t:Nat} (hW:W X i t) (hz:t∉(S i).fz):
 t∉(S 0).fz/\ ∀j,j<agD ops->done j-> ¬FR X j t:=by
 refine ⟨fun h=>hz (hr.DL (aap _) (ab0 hp.lt) t h),fun j hj hd hf=>?_⟩;rcases aa6 j i with h|h|h
 · exact hz (hr.DL h (ab0 hp.lt) t (hr.aaB hj hf))
 · subst h;exact hp.nd hd
 exact hp.later hj (ho.LA i j t h hj hW (ah3 hf)) hd
theorem Inv.known (hr:xC F rec ops S X) (ho:Ord ops S X wW) (hv:Inv ops S X im0 loc0 w0 nt done im loc a w) (hp:Place ops wW done i) {r:nB} (hX:X i=agF (.loc r)) (zC:(XR.loc r).ok (S i).fz=agP)
 (hn:(S (i+1)).aA.length=(S i).aA.length+agD r.news):jj im loc (S i).aA w r where
 bq:=hv.bq
 tok:=fun t ht li hl=>by
  obtain ⟨k,hc,sF⟩:=hv.tok t li hl;refine ⟨k,hv.cur hr ho hp hl ?_ hc,sF⟩;rcases ht with ht|ht
  · exact .inl (by unfold A;rw [hX];exact .inl ht)
  exact .inr (by unfold W;rw [hX];exact ht)
 free:=fun t k hm li k' hl hs lJ=>by
  have hW:W X i t:=by unfold W;rw [hX];exact ⟨k,hm⟩
  simp only [XR.ok,ww,aar,aa2] at zC;have hz:t∉(S i).fz:=jw.1 (zC.1 (t,k) hm);obtain ⟨h0,h1⟩:=Inv.Es hr ho hp hW hz;obtain ⟨k2,hc,_⟩:=hv.tok t li hl;have:=hv.cur hr ho hp hl (.inr hW) hc;rw [hs] at this;injection this with this;subst this;exact hv.free t li k' hl hc lJ h0 h1
 fresh:=fun j hj=>hv.fresh i hp.lt hp.nd _ (by omega) (by omega)
 iE:=fun t u li lj k k' ht hu hl kM hs uw lJ GK hb=>by
  have aw: ∀t,(t∈r.rd\/ ∃b,(t,b)∈r.wr)->A X i t\/W X i t:=fun t h=>by
   rcases h with h|h
   · exact .inl (by unfold A;rw [hX];exact .inl h)
   exact .inr (by unfold W;rw [hX];exact h)
  obtain ⟨k1,Aw,_⟩:=hv.tok t li hl;obtain ⟨k2,Gd,_⟩:=hv.tok u lj kM;have e1:=hv.cur hr ho hp hl (aw t ht) Aw;have e2:=hv.cur hr ho hp kM (aw u hu) Gd;rw [hs] at e1;injection e1 with e1;subst e1;rw [uw] at e2;injection e2 with e2;subst e2;exact hv.iE t u li lj _ _ hl kM Aw Gd lJ GK hb
theorem Inv.AQ (hr:xC F rec ops S X) (ho:Ord ops S X wW) (hv:Inv ops S X im0 loc0 w0 nt done im loc a w) (hp:Place ops wW done i) {x:bE} (hx:ops[i]? =agF x) {r:nB} (hX:X i=agF (.loc r))
 (zC:(XR.loc r).ok (S i).fz=agP) (hS:S (i+1)=(XR.loc r).next x.dst (S i)) {v':Value} {dP:Im} {bg:Loc} {w':World} (ot:VR dP bg r.v v') (he:sM im loc (S i).aA w r dP bg w')
 (sG: ∀d,x.dst=agF d->d<nt):Inv ops S X im0 loc0 w0 nt (plus done i) dP bg (a.put x.dst v') w':=by
 have bY:(S (i+1)).aA.length=(S i).aA.length+(agD r.news):=by rw [hS];simp [XR.next,qK,ft]
 have wX:=hp.lt;have AG:uZ r.wr=agP:=by simp only [XR.ok,ww] at zC;exact zC.2
 have pO:(S (i+1)).aA=fR r.wr (S i).aA++r.news:=by rw [hS];exact qK _ _
 have ah4: ∀t k,(t,k)∈r.wr->t<(S i).aA.length->(S (i+1)).aA[t]? =agF k:=by intro t k hm df;rw [pO,NE (by rw [ft];exact df)];exact Ep _ _ AG hm df
 have abD: ∀j k,r.news[j]? =agF k->(S (i+1)).aA[(S i).aA.length+j]? =agF k:=by intro j k hj;rw [pO,aa9 (by rw [ft];omega),ft,show (S i).aA.length+j- (S i).aA.length=j by omega];exact hj
 have wlt: ∀t li,loc t=agF li->W X i t->t<(S i).aA.length:=by intro t li hl hW;obtain ⟨k,hc,_⟩:=hv.tok t li hl;exact cm (hv.cur hr ho hp hl (.inr hW) hc)
 have HS: ∀t k li,(t,k)∈r.wr->loc t=agF li->AP S X (agD ops) (plus done i) t k:=by
  intro t k li hm hl;have hW:W X i t:=by unfold W;rw [hX];exact ⟨k,hm⟩
  have df:=wlt t li hl hW;refine ⟨i+1,wX,fun j hj Nn=>?_,fun c hc h1 h2=>?_,ah4 t k hm df⟩
  · rcases aa6 j i with h|h|h
    · exact ⟨fun _=>by omega,fun _=> .inl (hp.pre j hj (ho.LA j i t h wX Nn (.inr hW)))⟩
    · subst h;exact ⟨fun _=>by omega,fun _=> .inr rfl⟩
    refine ⟨fun hd=>?_,fun h'=>by omega⟩
    rcases hd with hd|hd
    · exact absurd hd (hp.later hj (ho.LA i j t h hj hW (.inr Nn)))
    omega
  rcases aam c (i+1) with h|h
  · exact h
  have:=hr.hJ (show i<=c by omega) (by omega);omega
 have yA: ∀j k,r.news[j]? =agF k->AP S X (agD ops) (plus done i) ((S i).aA.length+j) k:=by
  intro j k hj;have Lo:=cm hj;refine ⟨i+1,wX,fun q hq hWq=>?_,fun c hc h1 h2=>?_,abD j k hj⟩
  · rcases aa6 q i with h|h|h
    · refine ⟨fun _=>by omega,fun _=> .inl ?_⟩
      by_cases hs:qF X q
      ·
       refine hp.pre q hq (ho.I9 q i h wX (.inl ⟨hs,?_⟩));unfold gM;rw [hX];exact .inr (.inr (.inr (by intro e;rw [e] at hj;simp at hj)))
      rcases ho.cl q _ hq hs (.inr hWq) with h'|h'
      · have:=hr.hJ (show q<=i by omega) (by omega);omega
      exact hp.pre q hq (h' i h wX)
    · subst h;exact ⟨fun _=>by omega,fun _=> .inr rfl⟩
    refine ⟨fun hd=>?_,fun h'=>by omega⟩
    rcases hd with hd|hd
    · exfalso
      by_cases hs:qF X q
      · refine hp.later hq (ho.I9 i q h hq (.inr ⟨?_,hs⟩)) hd
        unfold gM;rw [hX];exact .inr (.inr (.inr (by intro e;rw [e] at hj;simp at hj)))
      exact hp.later hq (ho.abC i q _ h hq (by rintro ⟨v,s,z,e⟩;rw [hX] at e;cases e) (by omega) (by omega) hs hWq) hd
    omega
  rcases aam c (i+1) with h|h
  · exact h
  have:=hr.hJ (show i+1<=c by omega) (by omega);omega
 have No: ∀t k,¬W X i t->AP S X (agD ops) done t k->AP S X (agD ops) (plus done i) t k:=by
  intro t k hW hc;obtain ⟨m,hm,h1,h2,h3⟩:=hc;refine ⟨m,hm,fun j hj Nn=>?_,h2,h3⟩;have dE:j≠i:=fun e=>hW (e▸Nn)
  have:=h1 j hj Nn;exact ⟨fun hd=>this.1 (hd.resolve_right dE),fun h=> .inl (this.2 h)⟩
 have akx: ¬qF X i:=by rintro ⟨v,s,z,e⟩;rw [hX] at e;cases e
 have yB: ∀t li,bg t=agF li->(∃j k,t=(S i).aA.length+j/\r.news[j]? =agF k/\loc t=agO)\/loc t=agF li:=by
  intro t li hl;rcases he.kJ t li hl with h|⟨h1,h2⟩
  · exact .inr h
  refine .inl ⟨t- (S i).aA.length,r.news[t- (S i).aA.length],by omega,v6 (by omega),?_⟩
  exact hv.fresh i wX hp.nd t h1 (by omega)
 have old: ∀t li k,loc t=agF li->AP S X (agD ops) (plus done i) t k->k.bA=agP-> ∃k0,AP S X (agD ops) done t k0/\k0.bA=agP/\BR im loc w li k0/\(¬W X i t->k0=k)/\(W X i t->(t,k)∈r.wr):=by
  intro t li k hl hc hs;obtain ⟨k0,Gg,sF⟩:=hv.tok t li hl
  by_cases hW:W X i t
  · have hW2:=hW
    unfold W at hW2;rw [hX] at hW2;obtain ⟨k2,hm⟩:=hW2;have e:=(HS t k2 li hm hl).unique hr hc;subst e;obtain ⟨k3,h3,h4⟩:=he.OJ t k2 hm hs;have:=hv.cur hr ho hp hl (.inr hW) Gg;rw [h3] at this;injection this with this;subst this;exact ⟨k3,Gg,h4,sF,fun h=>absurd hW h,fun _=>hm⟩
  have e:=(No t k0 hW Gg).unique hr hc
  subst e;exact ⟨k0,Gg,hs,sF,fun _=>rfl,fun h=>absurd h hW⟩
 have HT: ∀t k li k0,(t,k)∈r.wr->loc t=agF li->(S i).aA[t]? =agF k0->AP S X (agD ops) done t k0:=by intro t k li k0 hm hl hs;obtain ⟨k1,Aw,_⟩:=hv.tok t li hl;have:=hv.cur hr ho hp hl (.inr (by unfold W;rw [hX];exact ⟨k,hm⟩)) Aw;rw [hs] at this;injection this with this;subst this;exact Aw
 have Q2: ∀t li k0,t∈r.fr->loc t=agF li->(S i).aA[t]? =agF k0->AP S X (agD ops) done t k0:=by intro t li k0 hm hl hs;obtain ⟨k1,Aw,_⟩:=hv.tok t li hl;have:=hv.cur hr ho hp hl (.inl (by unfold A;rw [hX];exact .inr hm)) Aw;rw [hs] at this;injection this with this;subst this;exact Aw
 refine {
  tm:=fun t=>?_
  bq:=he.bq
  tok:=fun t li hl=>?_
  iE:=fun t u li lj k k' hl kM hc AI hs uw hb=>?_
  free:=fun t li k hl hc hs h0 hf=>?_
  fresh:=fun j hj Gf t h1 h2=>?_
  fY:=hv.fY.trans he.fY
  dw:=hv.dw.trans he.dw
  os:=he.os.trans hv.os
  tape:=he.tape.trans hv.tape
  output:=he.output.trans hv.output
  size:=aai hv.size he.size
  frame:=fun b hb hh=>?_
  dB:=fun b o hb=>?_
  mJ:=fun t li hl=>?_
  own:=fun t li k hl hc hs=>?_
  defers:=by cases hd:x.dst<;>simp [Act.put,hv.defers]
  Lh:=by cases hd:x.dst<;>simp [Act.put,hv.Lh]}
 ·
  by_cases hd:x.dst=agF t
  · refine ⟨i+1,wX,fun j y hy Nl=>?_,?_⟩
    · rcases aa6 j i with h|h|h
      · exact ⟨fun _=>by omega,fun _=> .inl (hp.pre j (cm hy) (ho.Er j i t y x h hy hx Nl (.inr hd)))⟩
      · subst h;exact ⟨fun _=>by omega,fun _=> .inr rfl⟩
      refine ⟨fun Jw=>?_,fun h'=>by omega⟩
      rcases Jw with Jw|Jw
      · exact absurd Jw (hp.later (cm hy) (ho.Er i j t x y h hx hy hd (.inr Nl)))
      omega
    rw [hS]
    simp only [XR.next,hd,iK,qM,if_true,Act.put];have:=sG t hd;simp [hv.Lh,this,ot]
  obtain ⟨m,hm,h1,h2⟩:=hv.tm t
  refine ⟨m,hm,fun j y hy Nl=>?_,?_⟩
  · have dE:j≠i:=by intro e;subst e;rw [hx] at hy;injection hy with hy;subst hy;exact hd Nl
    have:=h1 j y hy Nl;exact ⟨fun Jw=>this.1 (Jw.resolve_right dE),fun h=> .inl (this.2 h)⟩
  have:=h2.mono he.fY he.dw
  cases hxd:x.dst with
  |none=>simpa [Act.put] using this
  |some d=>
   have dE:d≠t:=fun e=>hd (by rw [hxd,e])
   simpa [Act.put,aaj,dE] using this
 ·
  rcases yB t li hl with ⟨j,k,rfl,hj,_⟩|OW
  · obtain ⟨h2,_⟩:=he.news j k li hj hl
    exact ⟨k,yA j k hj,h2⟩
  obtain ⟨k0,Gg,sF⟩:=hv.tok t li OW
  by_cases hW:W X i t
  · have hW2:=hW
    unfold W at hW2;rw [hX] at hW2;obtain ⟨k2,hm⟩:=hW2;exact ⟨k2,HS t k2 li hm OW,he.wr t k2 li hm OW⟩
  refine ⟨k0,No t k0 hW Gg,sF.ah1 he.fY he.dw fun hs=>?_⟩
  refine he.frame _ (sF.lt hs) fun t2 k2 l2 k3 hm GF hs3 lJ Jr=>?_
  have:=hv.iE t2 t l2 li k3 k0 GF OW (HT t2 k2 l2 k3 hm GF hs3) Gg lJ hs Jr;subst this;exact hW (by unfold W;rw [hX];exact ⟨k2,hm⟩)
 ·
  have Q3: ∀t u li lj k k',(∃j k,t=(S i).aA.length+j/\r.news[j]? =agF k/\loc t=agO)->loc u=agF lj->bg t=agF li->AP S X (agD ops) (plus done i) t k->AP S X (agD ops) (plus done i) u k'->
   k.bA=agP->k'.bA=agP->li.de=lj.de->False:=by
   intro t u li lj k k' hj hlu hl hc AI hs uw hb;obtain ⟨j,k1,rfl,hj,_⟩:=hj;have e:=(yA j k1 hj).unique hr hc;subst e;obtain ⟨h2,h3⟩:=he.news j k1 li hj hl;obtain ⟨k0,Gg,Gn,abF,hk0,hw0⟩:=old u lj k' hlu AI uw;have df:=abF.lt Gn;rcases (h3 hs).2 with h|⟨td,lt,kd,hm,hld,hsd,Q4,hbd⟩
   · omega
   have:=hv.iE td u lt lj kd k0 hld hlu (HT td _ lt kd hm hld hsd) Gg Q4 Gn (by rw [hbd,hb])
   subst this;have QP:=hw0 (by unfold W;rw [hX];exact ⟨_,hm⟩);have e2:=(HS td _ lj hm hlu).unique hr (HS td _ lj QP hlu);subst e2;cases uw
  rcases yB t li hl with h1|h1
  · rcases yB u lj kM with h2|h2
    · obtain ⟨j1,k1,rfl,hj1,_⟩:=h1
      obtain ⟨j2,k2,rfl,hj2,_⟩:=h2;have e1:=(yA j1 k1 hj1).unique hr hc;have e2:=(yA j2 k2 hj2).unique hr AI;subst e1 e2;rw [he.distinct j1 j2 k1 k2 li lj hj1 hj2 hs uw hl kM hb]
    exact (Q3 t u li lj k k' h1 h2 hl hc AI hs uw hb).elim
  rcases yB u lj kM with h2|h2
  · exact (Q3 u t lj li k' k h2 h1 kM AI hc uw hs hb.symm).elim
  obtain ⟨k0,Gg,Gn,_⟩:=old t li k h1 hc hs
  obtain ⟨k1,Aw,hs1,_⟩:=old u lj k' h2 AI uw;exact hv.iE t u li lj k0 k1 h1 h2 Gg Aw Gn hs1 hb
 ·
  rcases yB t li hl with ⟨j,k1,rfl,hj,_⟩|OW
  · have e:=(yA j k1 hj).unique hr hc
    subst e;obtain ⟨h2,h3⟩:=he.news j k1 li hj hl;exact (h3 hs).1
  obtain ⟨k0,Gg,Gn,abF,_,_⟩:=old t li k OW hc hs
  have hn:=hv.free t li k0 OW Gg Gn h0 (fun j hj hd=>hf j hj (.inl hd));cases hb:dP li.de with
  |none=>rfl
  |some o=>
   rcases he.dB _ _ hb with h|h|⟨t2,l2,k2,h1,h2,h3,h4,h5⟩
   · rw [hn] at h;cases h
   · have:=abF.lt Gn;omega
   have hm:=o9.1 h1
   have:=hv.iE t2 t l2 li k2 k0 h2 OW (Q2 t2 l2 k2 hm h2 h3) Gg h4 Gn h5;subst this;exact absurd (by unfold FR;rw [hX];exact hm) (hf i wX (.inr rfl))
 ·
  have Uk:j≠i:=fun e=>Gf (.inr e)
  have abG: ¬done j:=fun h=>Gf (.inl h)
  cases hl:bg t with
  |none=>rfl
  |some li=>
   exfalso;rcases he.kJ t li hl with h|⟨h3,h4⟩
   · rw [hv.fresh j hj abG t h1 h2] at h;cases h
   rcases acl Uk with h|h
   · have:=hr.hJ (show j+1<=i by omega) (by omega);omega
   have:=hr.hJ (show i+1<=j by omega) (by omega);omega
 ·
  have TW:b<w.heap.size:=aay hb hv.size;rw [he.frame b TW (fun t k li k0 hm hl hs lJ Jr=>?_)]
  · exact hv.frame b hb hh
  rcases hv.own t li k0 hl (HT t k li k0 hm hl hs) lJ with h|⟨u,lu,ku,h1,h2,h3,h4⟩
  · omega
  exact hh u lu ku h1 h2 h3 (by omega)
 · rcases he.dB b o hb with h|h|⟨t,li,k,h1,h2,h3,h4,h5⟩
   · exact hv.dB b o h
   · exact .inr (.inl (aai hv.size h))
   rcases hv.own t li k h2 (Q2 t li k (o9.1 h1) h2 h3) h4 with h|⟨u,lu,ku,g1,g2,g3,g4⟩
   · exact .inr (.inl (by omega))
   exact .inr (.inr ⟨u,lu,ku,g1,g2,g3,by omega⟩)
 · rcases he.kJ t li hl with h|⟨h,_⟩
   · exact hv.mJ t li h
   exact .inr (aai (hr.hJ (aap _) (by omega)) h)
 rcases yB t li hl with ⟨j,k1,rfl,hj,_⟩|OW
 · have e:=(yA j k1 hj).unique hr hc
   subst e;obtain ⟨h2,h3⟩:=he.news j k1 li hj hl;rcases (h3 hs).2 with h|⟨td,lt,kd,hm,hld,hsd,Q4,hbd⟩
   · exact .inl (aai hv.size h)
   rcases hv.own td lt kd hld (HT td _ lt kd hm hld hsd) Q4 with h|⟨u,lu,ku,g1,g2,g3,g4⟩
   · exact .inl (by omega)
   exact .inr ⟨u,lu,ku,g1,g2,g3,by omega⟩
 obtain ⟨k0,Gg,Gn,_⟩:=old t li k OW hc hs
 exact hv.own t li k0 OW Gg Gn
end
end Go.Vm
/- A region: a call that works on the blocks themselves, and a skipped operation. -/
namespace Go.Vm
section
variable {F : kH} {rec : Task -> Option Out} {ops : List bE} {S : Nat -> St} {X : Nat -> Option XR} {wW : Nat -> Nat -> Prop} {im0 : Im} {loc0 : Loc} {w0 : World} {nt : Nat}
  {done : Nat -> Prop} {im : Im} {loc : Loc} {a : Act} {w : World} {i : Nat}
theorem GL {v:PV} {s:bW} {z:List Nat} (hX:X i=agF (.shr v s z)) (t:Nat):W X i t:=by unfold W;rw [hX];trivial
theorem vj {j t:Nat} (h:W X j t):gM X j:=by
 unfold W at h;unfold gM;cases hX:X j with
 |none=>rw [hX] at h;exact h.elim
 |some x=>
  rw [hX] at h;cases x with
  |loc r=>obtain ⟨k,hk⟩:=h;exact .inr (.inr (.inl (by intro e;rw [e] at hk;cases hk)))
  |shr v s z=>trivial
theorem Inv.sr (hr:xC F rec ops S X) (ho:Ord ops S X wW) (hv:Inv ops S X im0 loc0 w0 nt done im loc a w) (hp:Place ops wW done i) {v:PV} {s:bW} {z:List Nat} (hX:X i=agF (.shr v s z)):
 SR im loc (S i).aA (S i).fz w where
 bq:=hv.bq
 de:=fun t li hl=>by obtain ⟨k,hc,hb⟩:=hv.tok t li hl;exact ⟨k,hv.cur hr ho hp hl (.inr (GL hX t)) hc,hb⟩
 iE:=fun t u li lj k k' hl kM hs uw h h' hb=>by obtain ⟨k1,Aw,_⟩:=hv.tok t li hl;obtain ⟨k2,Gd,_⟩:=hv.tok u lj kM;have e1:=hv.cur hr ho hp hl (.inr (GL hX t)) Aw;have e2:=hv.cur hr ho hp kM (.inr (GL hX u)) Gd;rw [hs] at e1;injection e1 with e1;subst e1;rw [uw] at e2;injection e2 with e2;subst e2;exact hv.iE t u li lj _ _ hl kM Aw Gd h h' hb
 free:=fun t li k hl hs h hz=>by obtain ⟨k1,Aw,_⟩:=hv.tok t li hl;have e1:=hv.cur hr ho hp hl (.inr (GL hX t)) Aw;rw [hs] at e1;injection e1 with e1;subst e1;obtain ⟨h0,h1⟩:=Inv.Es hr ho hp (GL hX t) (jw.1 hz);exact hv.free t li _ hl Aw h h0 h1
theorem Inv.Q5 {S:Nat->St} (ho:Ord ops S X wW) (hp:Place ops wW done i) {x:bE} (hx:ops[i]? =agF x) {v:PV} {v':Value} {dP:Im} {bg:Loc}
 (hv:Inv ops S X im0 loc0 w0 nt done im loc a w) (hi:nE im dP) (hl:lX loc bg) (hS:(S (i+1)).env=iK x.dst v (S i).env) (ot:VR dP bg v v') (sG: ∀d,x.dst=agF d->d<nt):
 ∀t,∃m,m<=agD ops/\(∀j y,ops[j]? =agF y->y.dst=agF t->(plus done i j↔j<m))/\VR dP bg (lk t (S m).env) ((a.put x.dst v').tmps.getD t Go.undef):=by
 intro t;have wX:=hp.lt
 by_cases hd:x.dst=agF t
 · refine ⟨i+1,wX,fun j y hy Nl=>?_,?_⟩
   · rcases aa6 j i with h|h|h
     · exact ⟨fun _=>by omega,fun _=> .inl (hp.pre j (cm hy) (ho.Er j i t y x h hy hx Nl (.inr hd)))⟩
     · subst h;exact ⟨fun _=>by omega,fun _=> .inr rfl⟩
     refine ⟨fun Jw=>?_,fun h'=>by omega⟩
     rcases Jw with Jw|Jw
     · exact absurd Jw (hp.later (cm hy) (ho.Er i j t x y h hx hy hd (.inr Nl)))
     omega
   rw [hS]
   simp only [hd,iK,qM,if_true,Act.put];have:=sG t hd;simp [hv.Lh,this,ot]
 obtain ⟨m,hm,h1,h2⟩:=hv.tm t
 refine ⟨m,hm,fun j y hy Nl=>?_,?_⟩
 · have dE:j≠i:=by intro e;subst e;rw [hx] at hy;injection hy with hy;subst hy;exact hd Nl
   have:=h1 j y hy Nl;exact ⟨fun Jw=>this.1 (Jw.resolve_right dE),fun h=> .inl (this.2 h)⟩
 have:=h2.mono hi hl
 cases hxd:x.dst with
 |none=>simpa [Act.put] using this
 |some d=>
  have dE:d≠t:=fun e=>hd (by rw [hxd,e])
  simpa [Act.put,aaj,dE] using this
theorem put_defers (a:Act) (d:Option Nat) (v:Value):(a.put d v).defers=a.defers:=by cases d<;>rfl
theorem Jx (a:Act) (d:Option Nat) (v:Value):(a.put d v).tmps.size=a.tmps.size:=by cases d<;>simp [Act.put]
theorem Inv.Q6 (hr:xC F rec ops S X) (ho:Ord ops S X wW) (hv:Inv ops S X im0 loc0 w0 nt done im loc a w) (hp:Place ops wW done i) {x:bE} (hx:ops[i]? =agF x) {v:PV} {s:bW} {z:List Nat}
 (hX:X i=agF (.shr v s z)) (hS:S (i+1)=(XR.shr v s z).next x.dst (S i)) {v':Value} {dP:Im} {bg:Loc} {w':World} (hf:sR im loc (S i).aA w v s z dP bg w' v')
 (sG: ∀d,x.dst=agF d->d<nt):Inv ops S X im0 loc0 w0 nt (plus done i) dP bg (a.put x.dst v') w':=by
 have wX:=hp.lt;have pO:(S (i+1)).aA=s:=by rw [hS];rfl
 have abH: ∀t li,loc t=agF li-> ∀k,(S i).aA[t]? =agF k->AP S X (agD ops) done t k:=by intro t li hl k hs;obtain ⟨k1,Aw,_⟩:=hv.tok t li hl;have e1:=hv.cur hr ho hp hl (.inr (GL hX t)) Aw;rw [hs] at e1;injection e1 with e1;subst e1;exact Aw
 have Ul: ∀t k,s[t]? =agF k->AP S X (agD ops) (plus done i) t k:=by
  intro t k hs;refine ⟨i+1,wX,fun j hj Nn=>?_,fun c hc h1 h2=>?_,by rw [pO];exact hs⟩
  · rcases aa6 j i with h|h|h
    · exact ⟨fun _=>by omega,fun _=> .inl (hp.pre j hj (ho.I9 j i h wX (.inr ⟨vj Nn,⟨v,s,z,hX⟩⟩)))⟩
    · subst h;exact ⟨fun _=>by omega,fun _=> .inr rfl⟩
    refine ⟨fun hd=>?_,fun h'=>by omega⟩
    rcases hd with hd|hd
    · exact absurd hd (hp.later hj (ho.I9 i j h hj (.inl ⟨⟨v,s,z,hX⟩,vj Nn⟩)))
    omega
  rcases aam c (i+1) with h|h
  · exact h
  have:=hr.hJ (show i+1<=c by omega) (by omega)
  have:=cm hs;rw [pO] at*;omega
 have HU: ∀t li,bg t=agF li-> ∀k,AP S X (agD ops) (plus done i) t k->s[t]? =agF k:=by intro t li hl k hc;obtain ⟨k1,h1,_⟩:=hf.sr.de t li hl;have:=hc.unique hr (Ul t k1 h1);subst this;exact h1
 refine {
  tm:=Inv.Q5 ho hp hx hv hf.fY hf.dw (by rw [hS];rfl) hf.vr sG
  bq:=hf.sr.bq
  tok:=fun t li hl=>by obtain ⟨k,h1,h2⟩:=hf.sr.de t li hl;exact ⟨k,Ul t k h1,h2⟩
  iE:=fun t u li lj k k' hl kM hc AI hs uw hb=>hf.sr.iE t u li lj k k' hl kM (HU t li hl k hc) (HU u lj kM k' AI) hs uw hb
  free:=fun t li k hl hc hs h0 qt=>by refine hf.sr.free t li k hl (HU t li hl k hc) hs (jw.2 ?_);have:=qt i wX (.inr rfl);unfold FR at this;rw [hX] at this;exact this
  fresh:=fun j hj Gf t h1 h2=>?_
  fY:=hv.fY.trans hf.fY
  dw:=hv.dw.trans hf.dw
  os:=hf.os.trans hv.os
  tape:=hf.tape.trans hv.tape
  output:=hf.output.trans hv.output
  size:=aai hv.size hf.size
  frame:=fun b hb hh=>?_
  dB:=fun b o hb=>?_
  mJ:=fun t li hl=>?_
  own:=fun t li k hl hc hs=>?_
  defers:=by rw [put_defers];exact hv.defers
  Lh:=by rw [Jx];exact hv.Lh}
 · have Uk:j≠i:=fun e=>Gf (.inr e)
   have abG: ¬done j:=fun h=>Gf (.inl h)
   cases hl:bg t with
   |none=>rfl
   |some li=>
    exfalso;obtain ⟨k,hk,_⟩:=hf.sr.de t li hl;have df:=cm hk;rcases hf.mJ t li hl with h|h
    · rw [hv.fresh j hj abG t h1 h2] at h;cases h
    rcases acl Uk with h'|h'
    · have:=hr.hJ (show j+1<=i by omega) (by omega);omega
    have:=hr.hJ (show i+1<=j by omega) (by omega)
    rw [pO] at this;omega
 · rw [hf.frame b (aay hb hv.size) fun t li k hl hs lJ Jr=>?_]
   · exact hv.frame b hb hh
   rcases hv.own t li k hl (abH t li hl k hs) lJ with h|⟨u,lu,ku,g1,g2,g3,g4⟩
   · omega
   exact hh u lu ku g1 g2 g3 (by omega)
 · rcases hf.dB b o hb with h|h|⟨t,li,k,h1,h2,h3,h4⟩
   · exact hv.dB b o h
   · exact .inr (.inl (aai hv.size h))
   rcases hv.own t li k h1 (abH t li h1 k h2) h3 with h|⟨u,lu,ku,g1,g2,g3,g4⟩
   · exact .inr (.inl (by omega))
   exact .inr (.inr ⟨u,lu,ku,g1,g2,g3,by omega⟩)
 · rcases hf.mJ t li hl with h|h
   · exact hv.mJ t li h
   exact .inr (aai (hr.hJ (aap _) (by omega)) h)
 rcases hf.own t li k hl (HU t li hl k hc) hs with h|⟨u,lu,ku,h1,h2,h3,h4⟩
 · exact .inl (aai hv.size h)
 rcases hv.own u lu ku h1 (abH u lu h1 ku h2) h3 with h|⟨u',lu',ku',g1,g2,g3,g4⟩
 · exact .inl (by omega)
 exact .inr ⟨u',lu',ku',g1,g2,g3,by omega⟩
theorem Inv.step_skip (_hr:xC F rec ops S X) (ho:Ord ops S X wW) (hv:Inv ops S X im0 loc0 w0 nt done im loc a w) (hp:Place ops wW done i) {x:bE} (hx:ops[i]? =agF x)
 (hX:X i=agO) (hS:S (i+1)={S i with env:=iK x.dst .jl (S i).env}) (sG: ∀d,x.dst=agF d->d<nt):Inv ops S X im0 loc0 w0 nt (plus done i) im loc (a.put x.dst Go.undef) w:=by
 have wX:=hp.lt;have hnW: ∀t,¬W X i t:=fun t h=>by unfold W at h;rw [hX] at h;exact h
 have pO:(S (i+1)).aA=(S i).aA:=by rw [hS]
 have Ul: ∀t k,AP S X (agD ops) done t k->AP S X (agD ops) (plus done i) t k:=by
  intro t k ⟨m,hm,h1,h2,h3⟩;refine ⟨m,hm,fun j hj Nn=>?_,h2,h3⟩;have dE:j≠i:=fun e=>hnW t (e▸Nn)
  have:=h1 j hj Nn;exact ⟨fun hd=>this.1 (hd.resolve_right dE),fun h=> .inl (this.2 h)⟩
 have HU: ∀t k,AP S X (agD ops) (plus done i) t k->AP S X (agD ops) done t k:=by
  intro t k ⟨m,hm,h1,h2,h3⟩;refine ⟨m,hm,fun j hj Nn=>?_,h2,h3⟩;have dE:j≠i:=fun e=>hnW t (e▸Nn)
  have:=h1 j hj Nn;exact ⟨fun hd=>this.1 (.inl hd),fun h=>(this.2 h).resolve_right dE⟩
 refine {
  tm:=Inv.Q5 ho hp hx hv (.refl _) (.refl _) (by rw [hS]) .jl sG
  bq:=hv.bq
  tok:=fun t li hl=>let ⟨k,h1,h2⟩:=hv.tok t li hl;⟨k,Ul t k h1,h2⟩
  iE:=fun t u li lj k k' hl kM hc AI hs uw hb=>hv.iE t u li lj k k' hl kM (HU t k hc) (HU u k' AI) hs uw hb
  free:=fun t li k hl hc hs h0 qt=>hv.free t li k hl (HU t k hc) hs h0 fun j hj hd=>qt j hj (.inl hd)
  fresh:=fun j hj Gf t h1 h2=>hv.fresh j hj (fun h=>Gf (.inl h)) t h1 h2
  fY:=hv.fY
  dw:=hv.dw
  os:=hv.os
  tape:=hv.tape
  output:=hv.output
  size:=hv.size
  frame:=hv.frame
  dB:=hv.dB
  mJ:=hv.mJ
  own:=fun t li k hl hc hs=>hv.own t li k hl (HU t k hc) hs
  defers:=by rw [put_defers];exact hv.defers
  Lh:=by rw [Jx];exact hv.Lh}
theorem Inv.start {st:St} (h0:S 0=st) (j8:SR im0 loc0 st.aA st.fz w0) (her:ER im0 loc0 st.env a.tmps) (hd:a.defers=[]) (hn:a.tmps.size=nt) (hr:xC F rec ops S X):
 Inv ops S X im0 loc0 w0 nt (fun _=>False) im0 loc0 a w0:=by
 subst h0;have df: ∀t li,loc0 t=agF li->t<(S 0).aA.length:=fun t li hl=>let ⟨k,h,_⟩:=j8.de t li hl;cm h
 have cur: ∀t li k,loc0 t=agF li->AP S X (agD ops) (fun _=>False) t k->(S 0).aA[t]? =agF k:=by intro t li k hl ⟨m,hm,h1,h2,h3⟩;rw [<- hr.yz (aap m) hm (fun j _ hj hW=>(h1 j (by omega) hW).2 hj) (df t li hl)];exact h3
 exact {
  tm:=fun t=>⟨0,aap _,fun j y _ _=>⟨fun h=>h.elim,fun h=>by omega⟩,her t⟩
  bq:=j8.bq
  tok:=fun t li hl=>by obtain ⟨k,h1,h2⟩:=j8.de t li hl;refine ⟨k,⟨0,aap _,fun j _ _=>⟨fun h=>h.elim,fun h=>by omega⟩,fun c hc h3 h4=>?_,h1⟩,h2⟩;have:=df t li hl;have:=hr.hJ (aap c) (by omega);omega
  iE:=fun t u li lj k k' hl kM hc AI=>j8.iE t u li lj k k' hl kM (cur t li k hl hc) (cur u lj k' kM AI)
  free:=fun t li k hl hc hs hz _=>j8.free t li k hl (cur t li k hl hc) hs (jw.2 hz)
  fresh:=fun j hj _ t h1 h2=>by
   cases hl:loc0 t with
   |none=>rfl
   |some li=>have:=df t li hl;have:=hr.hJ (aap j) (by omega);omega
  fY:= .refl _
  dw:= .refl _
  os:=rfl
  tape:= .refl _
  output:=rfl
  size:=IR _
  frame:=fun _ _ _=>rfl
  dB:=fun _ _ h=> .inl h
  mJ:=fun _ _ h=> .inl h
  own:=fun t li k hl hc hs=> .inr ⟨t,li,k,hl,cur t li k hl hc,hs,rfl⟩
  defers:=hd
  Lh:=hn}
structure Kept (im0:Im) (loc0:Loc) (jb:bW) (w0:World) (st:St) (im:Im) (loc:Loc) (w:World):Prop where
 sr:SR im loc st.aA st.fz w
 fY:nE im0 im
 dw:lX loc0 loc
 os:w.os=w0.os
 tape:Tape w0 w
 output:w.output=w0.output
 size:w0.heap.size<=w.heap.size
 frame: ∀b,b<w0.heap.size->(∀t li k,loc0 t=agF li->jb[t]? =agF k->k.bA=agP->li.de≠b)->w.heap[b]? =w0.heap[b]?
 dB: ∀b o,im b=agF o->im0 b=agF o\/w0.heap.size<=b\/ ∃t li k,loc0 t=agF li/\jb[t]? =agF k/\k.bA=agP/\li.de=b
 mJ: ∀t li,loc t=agF li->loc0 t=agF li\/agD jb<=t
 own: ∀t li k,loc t=agF li->st.aA[t]? =agF k->k.bA=agP->(w0.heap.size<=li.de\/ ∃u lu ku,loc0 u=agF lu/\jb[u]? =agF ku/\ku.bA=agP/\lu.de=li.de)
theorem Inv.finish (hr : xC F rec ops S X) (hv : Inv ops S X im0 loc0 w0 nt done im loc a w) (hd : ∀ j, j < (agD ops) -> done j) :
    Kept im0 loc0 (S 0).aA w0 (S (agD ops)) im loc w /\ ER im loc (S (agD ops)).env a.tmps /\ a.defers = [] /\ a.tmps.size = nt := by
  have cur : ∀ t k, AP S X (agD ops) done t k -> (S (agD ops)).aA[t]? = agF k := by
    intro t k ⟨m, hm, h1, h2, h3⟩
    rw [hr.yz hm (IR _) (fun j h4 h5 hW => by have := (h1 j h5 hW).1 (hd j h5); omega) (cm h3)]
    exact h3
  have Um : ∀ t li k, loc t = agF li -> (S (agD ops)).aA[t]? = agF k -> AP S X (agD ops) done t k := by
    intro t li k hl hs
    obtain ⟨k1, hc, _⟩ := hv.tok t li hl
    have := cur t k1 hc
    rw [hs] at this; injection this with this; subst this; exact hc
  refine ⟨{
    sr := { bq := hv.bq
            de := fun t li hl => let ⟨k, h1, h2⟩ := hv.tok t li hl; ⟨k, cur t k h1, h2⟩
            iE := fun t u li lj k k' hl kM hs uw => hv.iE t u li lj k k' hl kM (Um t li k hl hs) (Um u lj k' kM uw)
            free := fun t li k hl hs lJ hz => by
              have hz := jw.1 hz
              refine hv.free t li k hl (Um t li k hl hs) lJ (fun h => hz (hr.DL (aap _) (IR _) t h)) fun j hj _ hf => ?_
              exact hz (hr.DL (show j + 1 <= (agD ops) from hj) (IR _) t (hr.aaB hj hf)) }
    fY := hv.fY, dw := hv.dw, os := hv.os, tape := hv.tape, output := hv.output, size := hv.size, frame := hv.frame, dB := hv.dB, mJ := hv.mJ
    own := fun t li k hl hs => hv.own t li k hl (Um t li k hl hs) }, fun t => ?_, hv.defers, hv.Lh⟩
  obtain ⟨m, hm, h1, h2⟩ := hv.tm t
  rw [hr.Lz hm (IR _) fun j hj h3 h4 sG => ?_]
  · exact h2
  have := (h1 j _ (v6 hj) sG).1 (hd j hj); omega
end
end Go.Vm
/- One operation of a region, in the model. -/
namespace Go.Vm
theorem B5 {P:Program} {o:Oper} {a:Act} {w:World} {f:FuncId} {us:Array Value} {R:Value->World->Prop} {next:Act->World->Prop} {Q:Exit->Act->World->Prop}
 (h:(execOp a.eval o).run P w=(callFunc f us).run P w) (hc:tC P f us w R) (hR: ∀v w',R v w'->next (a.put o.dst v) w'):o.wp P a w next Q:=by
 unfold Oper.wp;rw [h];rcases hc with ⟨v,w',h1,h2⟩|⟨h1,h2⟩
 · rw [h1,Oper.upon_value];exact hR v w' h2
 rw [h1,Oper.upon_enter]
 refine h2.mono fun e w' ⟨v,he,hv⟩=>?_
 subst he;exact hR v w' hv
theorem LB {im:Im} {loc:Loc} {e:Env} {a:Act} (x:fj) (h: ∀t,x= .t t->VR im loc (lk t e) (a.tmps.getD t Go.undef)) (o:Operand) (hc:bn x o=agP):VR im loc (x.ev e) (a.eval o):=by
 unfold bn at hc;split at hc
 · rename_i n m
   have:n=m:=by simpa using hc
   subst this;exact h n rfl
 · exact HG hc
 · rename_i f g
   have:f=g:=by simpa using hc
   subst this;exact .eh f [] [] [] [] .nil .nil
 · exact .undef _
 cases hc
section
variable {P : Program} {F : kH} {rec : Task -> Option Out} {ops : List bE} {S : Nat -> St} {X : Nat -> Option XR} {wW : Nat -> Nat -> Prop} {im0 : Im} {loc0 : Loc} {w0 : World} {nt : Nat}
  {done : Nat -> Prop} {im : Im} {loc : Loc} {a : Act} {w : World} {i : Nat} {prims : FuncId -> Bool} {iS : Array Oper}
theorem VR.Un {v:Value} (h:VR im loc .jl v):v=Go.undef:=by cases h;rfl
theorem vn {r:nB} {d:Option Nat} {st:St}:((XR.loc r).next d st).aA.length=agD st.aA+(agD r.news):=by simp [XR.next,qK,ft]
theorem GM {x:bE} {o:Oper} {e:Env} {b:Bool} (hc:uA iS x.guard o.guard=agP) (hs: ∀s c,x.guard=agF (s,c)->VR im loc (lk s e) (a.tmps.getD s Go.undef)) (h:wanted x.guard e=agF b):
 Region.wanted o (yielded iS a.tmps)=b:=by
 unfold Region.wanted;cases hg:x.guard with
 |none=>
  rw [hg] at hc h;cases ho:o.guard with
  |none=>simp [wanted] at h;subst h;rfl
  |some q=>rw [ho] at hc;simp [uA] at hc
 |some q=>
  obtain ⟨s,c⟩:=q;rw [hg] at hc h;cases ho:o.guard with
  |none=>rw [ho] at hc;simp [uA] at hc
  |some q'=>
   obtain ⟨j,c'⟩:=q';rw [ho] at hc;simp only [uA,ww,beq_iff_eq] at hc;obtain ⟨rfl,hd⟩:=hc;have hv:=hs s c hg;dsimp only;unfold yielded;rw [hd];simp only [wanted] at h;simp only [Option.bind_some];split at h
   · rename_i b' hl
     rw [hl] at hv;have:=hv.ju;have ht:a.tmps[s]? =agF (.bool b'):=by
      simp only [aal] at this;cases hq:a.tmps[s]? with
      |none=>rw [hq] at this;simp [Go.undef] at this
      |some u=>rw [hq] at this;exact congrArg agF this
     rw [ht];rw [AC] at h;rw [<- h];cases b'<;>cases c<;>rfl
   · rename_i hl
     rw [hl] at hv;have:a.tmps.getD s Go.undef=Go.undef:=hv.Un;injection h with h;subst h;have ht: ∀b',a.tmps[s]?≠agF (.bool b'):=by intro b' hq;simp only [aal,hq,Option.getD_some,Go.undef] at this;cases this
     split
     · rename_i b' hq
       exact absurd hq (ht b')
     rfl
   cases h
structure HV (P:Program) (F:kH) (rec:Task->Option Out):Prop where
 func:B2 P rec
 iZ:sS P F
theorem Inv.wpOp (hE:HV P F rec) (hr:xC F rec ops S X) (ho:Ord ops S X wW) (hv:Inv ops S X im0 loc0 w0 nt done im loc a w) (hp:Place ops wW done i) {x:bE} {o:Oper} (hx:ops[i]? =agF x) (hmo:iS[i]? =agF o)
 (hc:qN P prims nt iS x o=agP) {Q:Exit->Act->World->Prop} {K:Act->World->Prop}
 (hK: ∀dP bg a' w',Inv ops S X im0 loc0 w0 nt (plus done i) dP bg a' w'->K a' w'):Go.wpOp P iS Q i K a w:=by
 unfold qN at hc;simp only [ww,beq_iff_eq] at hc;obtain ⟨⟨⟨sG,hnt⟩,hg⟩,eO⟩:=hc;have hd: ∀d,x.dst=agF d->d<nt:=by intro d h;rw [h] at hnt;simpa using hnt
 have aaC: ∀t,t∈ar x->VR im loc (lk t (S i).env) (a.tmps.getD t Go.undef):=fun t ht=>hv.slot hr ho hp hx ht
 have O3: ∀y∈x.op.eQ,∀o',bn y o'=agP->VR im loc (y.ev (S i).env) (a.eval o'):=by intro y hy o' hco;refine LB y (fun t ht=>aaC t ?_) o' hco;subst ht;exact abz _ (List.mem_filterMap.2 ⟨.t t,hy,rfl⟩)
 have hgs: ∀s c,x.guard=agF (s,c)->VR im loc (lk s (S i).env) (a.tmps.getD s Go.undef):=by intro s c h;refine aaC s (abt _ ?_);rw [h];simp
 unfold Go.wpOp;simp only [hmo];rcases hr.steps i x hx with ⟨hw,xr,gI,zC,hX,hS⟩|⟨hw,hX,hS⟩
 · rw [GM hg hgs hw]
   simp only [if_true];left;have Et: ∀{own:Bool} {f:FuncId} {args:List PV} {us:List Value} {r:nB},xr= .loc r->cC F rec own f args (S i).aA (S i).fz=agF r->eG im loc args us->
    (execOp a.eval o).run P w=(callFunc f ⟨us⟩).run P w->o.wp P a w K Q:=by
    intro own f args us r hxr hcp yw bI;subst hxr;have hk:=hv.known hr ho hp hX zC (by rw [hS];exact vn);refine B5 bI (HR hE.func hE.iZ hcp yw hk) fun v' w' ⟨dP,bg,ot,wV⟩=>?_
    exact hK _ _ _ _ (sG▸hv.AQ hr ho hp hx hX zC hS ot wV hd)
   have Jy: ∀{f:FuncId} {args:List PV} {us:List Value},fI rec f args (S i).aA (S i).fz=agF xr->eG im loc args us->
    (execOp a.eval o).run P w=(callFunc f ⟨us⟩).run P w->o.wp P a w K Q:=by
    intro f args us qC yw bI;unfold fI at qC;split at qC
    · rename_i v s z vd
      split at qC
      · injection qC with qC;subst qC
        refine B5 bI (hE.func f args _ _ v s z vd im loc w us (hv.sr hr ho hp hX) yw) fun v' w' ⟨dP,bg,hf⟩=>?_
        exact hK _ _ _ _ (sG▸hv.Q6 hr ho hp hx hX hS hf hd)
      cases qC
    cases qC
   have abJ: ∀{r:nB},xr= .loc r->bo (S i).env (S i).aA (S i).fz x.op=agF r->o.wp P a w K Q:=by
    intro r hxr he;subst hxr;have hk:=hv.known hr ho hp hX zC (by rw [hS];exact vn);obtain ⟨nx,w',bg,bI,hnx,wV⟩:=QN eO O3 he hk;unfold Oper.wp;rw [bI];rcases hnx with ⟨rfl,hu⟩|⟨v,rfl,ot⟩
    · rw [Oper.upon_skip]
      exact hK _ _ _ _ (sG▸hv.AQ hr ho hp hx hX zC hS (by rw [hu];exact .undef _) wV hd)
    rw [Oper.upon_value]
    exact hK _ _ _ _ (sG▸hv.AQ hr ho hp hx hX zC hS ot wV hd)
   cases TS:x.op with
   |call m f args=>
    rw [TS] at gI eO O3;have Q7: ∃as TU,o.op= .call {callee:= .value (.func f),args:=as,argTypes:=TU}/\eE args as.toList=agP:=by
     cases Qr:o.op with
     |call c=>
      obtain ⟨callee,as,TU⟩:=c;rw [Qr] at eO;cases callee with
      |value g=>
       cases g with
       |func g=>simp only [wJ,ww,beq_iff_eq] at eO;obtain ⟨⟨rfl,_⟩,h⟩:=eO;exact ⟨as,TU,rfl,h⟩
       |_=>simp [wJ] at eO
      |_=>simp [wJ] at eO
     |_=>rw [Qr] at eO;simp [wJ] at eO
    obtain ⟨as,TU,Qr,hco⟩:=Q7;have hrel:eG im loc (D2 (S i).env args) (as.toList.map a.eval):=mW (fun y hy=>O3 y (by simpa [kG.eQ] using hy)) hco;have bI:(execOp a.eval o).run P w=(callFunc f ⟨as.toList.map a.eval⟩).run P w:=by
     have:(⟨as.toList.map a.eval⟩:Array Value)=as.map a.eval:=by apply agm;simp
     rw [this];simp [execOp,Qr,resolve,Act.eval,Deferred.ofValue,invoke]
    cases m with
    |TN=>simp only [wH,EQ] at gI;obtain ⟨r,O4,Jz⟩:=gI;exact Et Jz.symm O4 hrel bI
    |own=>simp only [wH,EQ] at gI;obtain ⟨r,O4,Jz⟩:=gI;exact Et Jz.symm O4 hrel bI
    |shr=>exact Jy gI hrel bI
    |fp=>
     simp only [wH,EQ] at gI;obtain ⟨r,O4,Jz⟩:=gI;subst Jz;have hk:=hv.known hr ho hp hX zC (by rw [hS];exact vn);refine B5 bI (Lw hE.func O4 hrel hk) fun v' w' ⟨dP,bg,ot,wV⟩=>?_
     exact hK _ _ _ _ (sG▸hv.AQ hr ho hp hx hX zC hS ot wV hd)
   |wF y args=>
    rw [TS] at gI eO O3;have Q7: ∃t as TU,o.op= .call {callee:= .value (.tmp t),args:=as,argTypes:=TU}/\bn y (.tmp t)=agP/\eE args as.toList=agP:=by
     cases Qr:o.op with
     |call c=>
      obtain ⟨callee,as,TU⟩:=c;rw [Qr] at eO;cases callee with
      |value g=>
       cases g with
       |tmp g=>simp only [wJ,ww] at eO;exact ⟨g,as,TU,rfl,eO.1,eO.2⟩
       |_=>simp [wJ] at eO
      |_=>simp [wJ] at eO
     |_=>rw [Qr] at eO;simp [wJ] at eO
    obtain ⟨t,as,TU,Qr,hcy,hco⟩:=Q7;have hrel:eG im loc (D2 (S i).env args) (as.toList.map a.eval):=mW (fun y hy=>O3 y (by simp [kG.eQ,hy])) hco;have hy:=O3 y (by simp [kG.eQ]) (.tmp t) hcy;simp only [wH] at gI;split at gI
    · rename_i f p q Q8
      rw [Q8] at hy;generalize hgv:a.eval (.tmp t)=gv at hy;cases hy with
      |eh _ _ _ us vs h1 h2=>
      have kN:=(h1.append hrel).append h2;have bI:(execOp a.eval o).run P w=(callFunc f ⟨us++as.toList.map a.eval++vs⟩).run P w:=by
       have:(⟨us++as.toList.map a.eval++vs⟩:Array Value)=(⟨us⟩++as.map a.eval)++⟨vs⟩:=by apply agm;simp
       rw [this];simp [execOp,Qr,resolve,hgv,Deferred.ofValue,invoke]
      split at gI
      · exact Jy gI kN bI
      rw [EQ] at gI
      obtain ⟨r,O4,Jz⟩:=gI;exact Et Jz.symm O4 kN bI
    cases gI
   |_=>rw [TS] at gI;simp only [wH,EQ] at gI;obtain ⟨r,O4,Jz⟩:=gI;exact abJ Jz.symm (by rw [TS];exact O4)
 rw [GM hg hgs hw]
 simp only [UV,if_false];exact hK _ _ _ _ (sG▸hv.step_skip hr ho hp hx hX hS hd)
end
end Go.Vm
/- A region, in the order of the text or in a drawn one. -/
namespace Go.Vm
def uB (P:Program) (prims:FuncId->Bool) (nt:Nat) (iS:Array Oper):List bE->List Oper->Bool
 | [],[]=>agP
 |x::xs,o::os=>qN P prims nt iS x o&&uB P prims nt iS xs os
 |_,_=>agS
theorem AR {P:Program} {prims:FuncId->Bool} {nt:Nat} {iS:Array Oper}: ∀{xs:List bE} {os:List Oper},uB P prims nt iS xs os=agP->
 (agD xs)=agD os/\ ∀(i:Nat) (x:bE) (o:Oper),xs[i]? =agF x->os[i]? =agF o->qN P prims nt iS x o=agP
 | [],[],_=>⟨rfl,fun i x o h=>by simp at h⟩
 |x::xs,o::os,h=>by
  simp only [uB,ww] at h;obtain ⟨h1,h2⟩:=AR h.2;refine ⟨by simp [h1],fun i y p hy hp=>?_⟩;cases i with
  |zero=>simp at hy hp;subst hy hp;exact h.1
  |succ i=>exact h2 i y p (by simpa using hy) (by simpa using hp)
 | [],_::_,h=>by simp [uB] at h
 |_::_,[],h=>by simp [uB] at h
def bit (m i:Nat):Bool:=Nat.testBit m i
def mY (jk:List Nat) (j:Nat):List Edge->Option Nat
 | []=>agF 0
 |e::es=>match mY jk j es with
  |some m=>if Region.binds .any e then (if aaS e.on j then agF (m|||((jk.getD e.on 0)|||(1<<<e.on))) else agO) else agF m
  |none=>agO
def uC (jk:List Nat):Nat->List Nat->List Oper->Bool
 |_,[],[]=>agP
 |j,m::ms,o::os=>(match mY jk j o.after.toList with|some m'=>m==m'|none=>agS)&&uC jk (j+1) ms os
 |_,_,_=>agS
def uD (i : Nat) (x : bE) (ux : List Nat) : List bE -> List Nat -> Bool
  | [], _ => agP
  | y :: ys, m :: ms => (bit m i || ((match x.dst with
      | some d => !has (ar y) d && (match y.dst with | some d' => !(Do d d') | none => agP)
      | none => agP) && (match y.dst with | some d => !has ux d | none => agP))) && uD i x ux ys ms
  | _ :: _, [] => agS
def uE:Nat->List bE->List Nat->Bool
 |_,[],_=>agP
 |i,x::xs,_::ms=>uD i x (ar x) xs ms&&uE (i+1) xs ms
 |_,_::_,[]=>agS
def B6 (P:Program) (prims:FuncId->Bool) (nt:Nat) (draw:Option (List Nat)) (abL:List bE) (iS:Array Oper) (flag:Bool):Bool:=
 uB P prims nt iS abL iS.toList&&match draw with
 |none=>!flag
 |some bf=>flag&&Do (agD bf) (agD abL)&&uC bf 0 bf iS.toList&&uE 0 abL bf
section
variable {P : Program} {F : kH} {rec : Task -> Option Out} {ops : List bE} {S : Nat -> St} {X : Nat -> Option XR} {wW : Nat -> Nat -> Prop} {im0 : Im} {loc0 : Loc} {w0 : World} {nt : Nat}
  {done : Nat -> Prop} {im : Im} {loc : Loc} {a : Act} {w : World} {i : Nat} {prims : FuncId -> Bool} {iS : Array Oper}
theorem Ord.text:Ord ops S X (· < ·) where
 Er:=fun _ _ _ _ _ h _ _ _ _=>h
 Q1:=fun _ _ _ _ _ h _ _ _ _=>h
 LA:=fun _ _ _ h _ _ _=>h
 abB:=fun _ _ _ h _ _ _=>h
 abC:=fun _ _ _ h _ _ _ _ _ _=>h
 I9:=fun _ _ h _ _=>h
 cl:=fun _ _ _ _ _=> .inr fun _ h _=>h
theorem Eu (hE:HV P F rec) (hr:xC F rec ops S X) (hc: ∀(i:Nat) (x:bE) (o:Oper),ops[i]? =agF x->iS[i]? =agF o->qN P prims nt iS x o=agP) (bY:(agD ops)=iS.size)
 {Q:Exit->Act->World->Prop} (hQ: ∀im loc a w,Inv ops S X im0 loc0 w0 nt (fun i=>i<agD ops) im loc a w->Q .normal a w):
 ∀(d n:Nat) (im:Im) (loc:Loc) (a:Act) (w:World),n+d=agD ops->Inv ops S X im0 loc0 w0 nt (fun i=>i<n) im loc a w->wpOps P iS Q (List.range' n d) a w
 |0,n,im,loc,a,w,hn,hv=>by
  have:n=(agD ops):=by omega
  subst this;exact hQ im loc a w hv
 |d+1,n,im,loc,a,w,hn,hv=>by
  rw [List.range'_succ,wpOps_cons];have hx:=v6 (show n<(agD ops) by omega);have ho:=abg (show n<iS.size by omega);refine Inv.wpOp hE hr Ord.text hv {lt:=by omega,nd:=by omega,pre:=fun j _ h=>h,eh:=fun k _ h1 j _ h2=>by omega} hx ho (hc n _ _ hx ho) fun dP bg a' w' h'=>?_
  refine Eu hE hr hc bY hQ d (n+1) dP bg a' w' (by omega) ?_;have e:plus (fun i=>i<n) n=fun i=>i<n+1:=by
   funext j;unfold plus;apply propext;omega
  rw [e] at h';exact h'
def Uo (jk:List Nat) (i j:Nat):Prop:=bit (jk.getD j 0) i=agP
theorem vo {jk:List Nat} {j:Nat}: ∀{es:List Edge} {m:Nat},mY jk j es=agF m->(∀e∈es,Region.binds .any e=agP->e.on<j)/\
 ∀i,bit m i=agP-> ∃e∈es,Region.binds .any e=agP/\(e.on=i\/bit (jk.getD e.on 0) i=agP)
 | [],m,h=>by simp only [mY,AC] at h;subst h;exact ⟨fun e h=>(by cases h),fun i h=>by simp [bit] at h⟩
 |e::es,m,h=>by
  simp only [mY] at h;split at h
  · rename_i m' zR
    obtain ⟨h1,h2⟩:=vo zR;split at h
    · rename_i hb
      split at h
      · rename_i df
        injection h with h;subst h;refine ⟨fun e' BI Av=>?_,fun i hi=>?_⟩
        · rcases aaF.1 BI with rfl|BI
          · simpa using df
          exact h1 e' BI Av
        simp only [bit,Nat.testBit_or,abr] at hi
        rcases hi with hi|hi|hi
        · obtain ⟨e',BI,h3⟩:=h2 i hi
          exact ⟨e',aaV _ BI,h3⟩
        · exact ⟨e,by simp,hb,.inr hi⟩
        refine ⟨e,by simp,hb,.inl ?_⟩
        rw [Nat.one_shiftLeft,Nat.testBit_two_pow] at hi;simpa using hi
      cases h
    rename_i hb
    injection h with h;subst h;refine ⟨fun e' BI Av=>?_,fun i hi=>?_⟩
    · rcases aaF.1 BI with rfl|BI
      · exact absurd Av hb
      exact h1 e' BI Av
    obtain ⟨e',BI,h3⟩:=h2 i hi
    exact ⟨e',aaV _ BI,h3⟩
  cases h
theorem CU {jk:List Nat}: ∀{j:Nat} {ms:List Nat} {os:List Oper},uC jk j ms os=agP->agD ms=agD os/\
 ∀(k:Nat) (m:Nat) (o:Oper),ms[k]? =agF m->os[k]? =agF o->mY jk (j+k) o.after.toList=agF m
 |j,[],[],_=>⟨rfl,fun k m o h=>by simp at h⟩
 |j,m::ms,o::os,h=>by
  simp only [uC,ww] at h;obtain ⟨h1,h2⟩:=h;obtain ⟨h3,h4⟩:=CU h2;refine ⟨by simp [h3],fun k m' o' hm ho=>?_⟩;cases k with
  |zero=>
   simp at hm ho;subst hm ho;split at h1
   · rename_i m2 QP
     have:m=m2:=by simpa using h1
     subst this;exact QP
   cases h1
  |succ k=>have:=h4 k m' o' (by simpa using hm) (by simpa using ho);rw [show j+(k+1)=j+1+k by omega];exact this
 |j,[],_::_,h=>by simp [uC] at h
 |j,_::_,[],h=>by simp [uC] at h
theorem AS {i:Nat} {x:bE} {ux:List Nat}: ∀{ys:List bE} {ms:List Nat},uD i x ux ys ms=agP-> ∀(k:Nat) (y:bE),ys[k]? =agF y->
 bit (ms.getD k 0) i=agP\/((∀d,x.dst=agF d->d∉ar y/\y.dst≠agF d)/\ ∀d,y.dst=agF d->d∉ux)
 | [],_,_,k,y,h=>by simp at h
 |z::ys,[],h,k,y,hy=>by simp [uD] at h
 |z::ys,m::ms,h,k,y,hy=>by
  simp only [uD,ww,abr] at h;obtain ⟨h1,h2⟩:=h;cases k with
  |succ k=>simpa using AS h2 k y (by simpa using hy)
  |zero=>
   simp at hy;subst hy;rcases h1 with h1|⟨h1,h3⟩
   · exact .inl (by simpa using h1)
   refine .inr ⟨fun d hd=>?_,fun d hd=>?_⟩
   · rw [hd] at h1
     simp only [ww,aa2] at h1;refine ⟨jw.1 h1.1,fun hz=>?_⟩;rw [hz] at h1;simp at h1
   rw [hd] at h3
   simp only [aa2] at h3;exact jw.1 h3
theorem xD: ∀{i0:Nat} {xs:List bE} {ms:List Nat},uE i0 xs ms=agP-> ∀(i j:Nat) (x y:bE),i<j->xs[i]? =agF x->xs[j]? =agF y->
 bit (ms.getD j 0) (i0+i)=agP\/((∀d,x.dst=agF d->d∉ar y/\y.dst≠agF d)/\ ∀d,y.dst=agF d->d∉ar x)
 |i0,[],_,_,i,j,x,y,_,hx,_=>by simp at hx
 |i0,z::xs,[],h,i,j,x,y,_,hx,_=>by simp [uE] at h
 |i0,z::xs,m::ms,h,i,j,x,y,k9,hx,hy=>by
  simp only [uE,ww] at h;obtain ⟨h1,h2⟩:=h;cases j with
  |zero=>omega
  |succ j=>
   cases i with
   |zero=>simp at hx;subst hx;simpa using AS h1 j y (by simpa using hy)
   |succ i=>have:=xD h2 i j x y (by omega) (by simpa using hx) (by simpa using hy);rw [show i0+(i+1)=i0+1+i by omega];simpa using this
theorem GN {i:Nat} {t:Tr}: ∀{l:List (Tr×Nat)},HC i t l=agP-> ∀(k:Nat) (b:Tr) (m:Nat),l[k]? =agF (b,m)->t.ur b=agP->bit m i=agP
 | [],_,k,b,m,h,_=>by simp at h
 |(b',m')::r,h,k,b,m,hk,hc=>by
  simp only [HC,ww,abr,aa2] at h;cases k with
  |zero=>
   simp at hk;obtain ⟨rfl,rfl⟩:=hk;rcases h.1 with h1|h1
   · rw [hc] at h1;cases h1
   exact h1
  |succ k=>exact GN h.2 k b m (by simpa using hk) hc
theorem Ew: ∀{i0:Nat} {l:List (Tr×Nat)},qL i0 l=agP->(∀(i:Nat) (t:Tr) (m:Nat),l[i]? =agF (t,m)->t.cl=agP)/\
 ∀(i j:Nat) (t b:Tr) (m m':Nat),i<j->l[i]? =agF (t,m)->l[j]? =agF (b,m')->t.ur b=agP->bit m' (i0+i)=agP
 |_,[],_=>⟨fun i t m h=>by simp at h,fun i j t b m m' _ h=>by simp at h⟩
 |i0,(t0,m0)::r,h=>by
  simp only [qL,ww] at h;obtain ⟨⟨h1,h2⟩,h3⟩:=h;obtain ⟨h4,h5⟩:=Ew h3;refine ⟨fun i t m hi=>?_,fun i j t b m m' k9 hi hj hc=>?_⟩
  · cases i with
    |zero=>simp at hi;obtain ⟨rfl,rfl⟩:=hi;exact h1
    |succ i=>exact h4 i t m (by simpa using hi)
  cases j with
  |zero=>omega
  |succ j=>
   cases i with
   |zero=>simp at hi;obtain ⟨rfl,rfl⟩:=hi;exact GN h2 j b m' (by simpa using hj) hc
   |succ i=>rw [show i0+(i+1)=i0+1+i by omega];exact h5 i j t b m m' (by omega) (by simpa using hi) (by simpa using hj) hc
theorem Ex {l m:List Nat} {t:Nat} (h1:t∈l) (h2:t∈m):meets l m=agP:=by unfold meets;rw [agc];exact ⟨t,h1,o9.2 h2⟩
theorem Ord.drawn (hr : xC F rec ops S X) {jk : List Nat} (y6 : (agD jk) = (agD ops)) (hs : uE 0 ops jk = agP) (ho : qL 0 ((ze S X (agD ops)).zip jk) = agP) : Ord ops S X (Uo jk) := by
  obtain ⟨GD, hcz⟩ := Ew ho
  have Dn : ∀ i, i < (agD ops) -> ((ze S X (agD ops)).zip jk)[i]? = agF (y7 (X i) (S i), jk.getD i 0) := by
    intro i hi
    rw [List.getElem?_zip_eq_some]
    refine ⟨?_, ?_⟩
    · unfold ze; simp [hi]
    rw [aba, v6 (by omega)]; rfl
  have ur : ∀ i j, i < j -> j < (agD ops) -> (y7 (X i) (S i)).ur (y7 (X j) (S j)) = agP -> Uo jk i j := by
    intro i j k9 hj hc
    have := hcz i j _ _ _ _ k9 (Dn i (by omega)) (Dn j hj) hc
    unfold Uo; simpa using this
  have tch : ∀ j, gM X j -> (y7 (X j) (S j)).gM = agP := by
    intro j h
    unfold gM at h
    unfold y7
    cases hX : X j with
    | none => rw [hX] at h; exact h.elim
    | some x =>
      rw [hX] at h
      cases x with
      | shr v s z => rfl
      | loc r =>
        simp only [XR.tr, Tr.gM, Bool.or_false]
        rcases h with h | h | h | h
        · cases Gj : r.rd with
          | nil => exact absurd Gj h
          | cons _ _ => simp
        · cases Gj : r.fr with
          | nil => exact absurd Gj h
          | cons _ _ => simp
        · cases Gj : r.wr with
          | nil => exact absurd Gj h
          | cons _ _ => simp
        cases Gj : r.news with
        | nil => exact absurd Gj h
        | cons _ _ => simp
  have brr : ∀ j, qF X j -> (y7 (X j) (S j)).I9 = agP := by
    rintro j ⟨v, s, z, h⟩; rw [h]; rfl
  have tW : ∀ j t, W X j t -> gM X j := fun j t h => vj h
  have tA : ∀ j t, A X j t -> gM X j := by
    intro j t h
    unfold A at h; unfold gM
    cases hX : X j with
    | none => rw [hX] at h; exact h.elim
    | some x =>
      rw [hX] at h
      cases x with
      | shr v s z => exact h.elim
      | loc r =>
        rcases h with h | h
        · exact .inl (by intro e; rw [e] at h; cases h)
        exact .inr (.inl (by intro e; rw [e] at h; cases h))
  have I9 : ∀ i j, i < j -> j < (agD ops) -> (qF X i /\ gM X j \/ gM X i /\ qF X j) -> Uo jk i j := by
    intro i j k9 hj h
    refine ur i j k9 hj ?_
    unfold Tr.ur
    rcases h with ⟨h1, h2⟩ | ⟨h1, h2⟩
    · rw [brr i h1, tch j h2]; simp
    rw [brr j h2, tch i h1]; simp
  have wrT : ∀ j t, W X j t -> ¬ qF X j -> t ∈ (y7 (X j) (S j)).wr := by
    intro j t h hn
    unfold W at h
    cases hX : X j with
    | none => rw [hX] at h; exact h.elim
    | some x =>
      rw [hX] at h
      cases x with
      | shr v s z => exact absurd ⟨v, s, z, hX⟩ hn
      | loc r =>
        obtain ⟨k, hk⟩ := h
        exact List.mem_map.2 ⟨(t, k), hk, rfl⟩
  have rdT : ∀ j t, A X j t -> t ∈ (y7 (X j) (S j)).rd := by
    intro j t h
    unfold A at h
    cases hX : X j with
    | none => rw [hX] at h; exact h.elim
    | some x =>
      rw [hX] at h
      cases x with
      | shr v s z => exact h.elim
      | loc r => exact aaq.2 h
  exact {
    Er := fun i j t x y k9 hx hy hd hu => by
      rcases xD hs i j x y k9 hx hy with h | ⟨h, _⟩
      · unfold Uo; simpa using h
      rcases hu with hu | hu
      · exact absurd hu (h t hd).1
      exact absurd hu (h t hd).2
    Q1 := fun i j t x y k9 hx hy hd hu => by
      rcases xD hs i j x y k9 hx hy with h | ⟨_, h⟩
      · unfold Uo; simpa using h
      exact absurd hu (h t hd)
    LA := fun i j t k9 hj hW hAW => by
      by_cases hi : qF X i
      · exact I9 i j k9 hj (.inl ⟨hi, hAW.elim (tA j t) (tW j t)⟩)
      by_cases O1 : qF X j
      · exact I9 i j k9 hj (.inr ⟨tW i t hW, O1⟩)
      refine ur i j k9 hj ?_
      unfold Tr.ur
      rcases hAW with h | h
      · rw [Ex (wrT i t hW hi) (rdT j t h)]; simp
      rw [Ex (wrT i t hW hi) (wrT j t h O1)]; simp
    abB := fun i j t k9 hj hA hW => by
      by_cases O1 : qF X j
      · exact I9 i j k9 hj (.inr ⟨tA i t hA, O1⟩)
      refine ur i j k9 hj ?_
      unfold Tr.ur
      rw [Ex (rdT i t hA) (wrT j t hW O1)]; simp
    abC := fun i j t k9 hj Uh h1 h2 O1 hW => by
      refine ur i j k9 hj ?_
      unfold Tr.ur
      have : ((y7 (X j) (S j)).wr.any fun t => aak (y7 (X i) (S i)).lo t && aaS t (y7 (X i) (S i)).hi) = agP := by
        rw [agc]
        refine ⟨t, wrT j t hW O1, ?_⟩
        rcases hr.steps i _ (v6 (show i < (agD ops) by omega)) with ⟨_, x, hx, _, hX, hn⟩ | ⟨_, hX, hn⟩
        · cases x with
          | shr v s z => exact absurd ⟨v, s, z, hX⟩ Uh
          | loc r =>
            rw [hn, vn] at h2
            rw [hX]
            simp only [y7, XR.tr, ww, ab5]
            exact ⟨h1, by simpa using h2⟩
        rw [hn] at h2; dsimp only at h2; omega
      rw [this]; simp
    I9 := I9
    cl := fun i t hi Uh hAW => by
      left
      have hc := GD i _ _ (Dn i hi)
      cases hX : X i with
      | none => rcases hAW with h | h
                · unfold A at h; rw [hX] at h; exact h.elim
                unfold W at h; rw [hX] at h; exact h.elim
      | some x =>
        cases x with
        | shr v s z => exact absurd ⟨v, s, z, hX⟩ Uh
        | loc r =>
          have hb : ∀ u v : Nat, aaS u v = agP -> u < v := fun u v h => by simpa using h
          rw [hX] at hc
          simp only [y7, XR.tr, ww, aar] at hc
          rcases hAW with h | h
          · unfold A at h; rw [hX] at h
            exact hb _ _ (hc.1 t (aaq.2 h))
          unfold W at h; rw [hX] at h
          obtain ⟨k, hk⟩ := h
          exact hb _ _ (hc.2 (t, k) hk) }
end
end Go.Vm
/- A region: the theorem. -/
namespace Go.Vm
section
variable {P : Program} {F : kH} {rec : Task -> Option Out} {ops : List bE} {S : Nat -> St} {X : Nat -> Option XR} {im0 : Im} {loc0 : Loc} {w0 : World} {nt : Nat}
  {im : Im} {loc : Loc} {a : Act} {w : World} {i : Nat} {prims : FuncId -> Bool} {iS : Array Oper} {jk : List Nat}
def jW (l:Array Bool) (i:Nat):Prop:=l.getD i agS=agP
theorem JA (hE:HV P F rec) (hr:xC F rec ops S X) (ho:Ord ops S X (Uo jk)) (hc: ∀(i:Nat) (x:bE) (o:Oper),ops[i]? =agF x->iS[i]? =agF o->qN P prims nt iS x o=agP) (bY:(agD ops)=iS.size)
 (hm: ∀(k:Nat) (o:Oper),iS[k]? =agF o->mY jk k o.after.toList=agF (jk.getD k 0))
 {Q:Exit->Act->World->Prop} (hQ: ∀im loc a w (done:Nat->Prop),(∀i,i<agD ops->done i)->Inv ops S X im0 loc0 w0 nt done im loc a w->Q .normal a w):
 ∀(zS:Nat) (l:Array Bool) (im:Im) (loc:Loc) (a:Act) (w:World),l.size=agD ops->zS+l.toList.count agP=agD ops->(∀k j,jW l k->Uo jk j k->jW l j)->
  Inv ops S X im0 loc0 w0 nt (jW l) im loc a w->wpAny P .any iS Q zS l a w:=by
 have full: ∀l:Array Bool,l.size=agD ops->Region.ready .any iS l=[]-> ∀i,i<agD ops->jW l i:=by
  intro l hl xx i
  induction i using Nat.strongRecOn with
  |_ i ih=>
   intro hi
   by_cases h:jW l i
   · exact h
   exfalso
   have y5:i∈Region.ready .any iS l:=by
    rw [mem_ready];have ho:=abg (show i<iS.size by omega);refine ⟨?_,_,ho,fun e he hb=>?_⟩
    · unfold jW at h
      have df:i<l.size:=by omega
      simp [df] at h ⊢;exact h
    have:=(vo (hm i _ ho)).1 e (by simpa using he) hb
    exact ih e.on this (by omega)
   rw [xx] at y5;cases y5
 intro zS
 induction zS with
 |zero=>
  intro l im loc a w hl aia Uq hv;have nI: ∀b∈l.toList,agP=b:=by
   have:l.toList.count agP=(agD l.toList):=by simp only [Array.length_toList];omega
   exact List.count_eq_length.1 this
  have Np: ∀i,i<agD ops->jW l i:=by
   intro i hi;have df:i<l.size:=by omega
   have:=nI (l[i]) (by simp);unfold jW;simp [df,<- this]
  refine ⟨?_,hQ im loc a w _ Np hv⟩;cases Gj:Region.ready .any iS l with
  |nil=>rfl
  |cons x xs=>
   exfalso;have y5:x∈Region.ready .any iS l:=by rw [Gj];simp
   obtain ⟨h0,o,hox,_⟩:=mem_ready.1 y5;have df:=(PP.1 hox).1;have:=Np x (by omega);unfold jW at this;have JB:x<l.size:=by omega
   simp [JB] at this h0;rw [this] at h0;cases h0
 |succ zS ih=>
  intro l im loc a w hl aia Uq hv;refine ⟨fun xx=>hQ im loc a w _ (full l hl xx) hv,fun i hi=>?_⟩;obtain ⟨h0,o,hox,nI⟩:=mem_ready.1 hi;have df:=(PP.1 hox).1;have JB:i<l.size:=by omega
  have hx:=v6 (show i<(agD ops) by omega);have Gp: ∀j,Uo jk j i->jW l j:=by
   intro j hj;obtain ⟨e,he,hb,h⟩:=(vo (hm i o hox)).2 j hj;have kY:jW l e.on:=nI e (by simpa using he) hb;rcases h with rfl|h
   · exact kY
   exact Uq _ _ kY h
  have Gf: ¬jW l i:=by unfold jW;simp [JB] at h0 ⊢;exact h0
  refine Inv.wpOp hE hr ho hv {lt:=by omega,nd:=Gf,pre:=fun j _ h=>Gp j h,eh:=fun k _ h1 j _ h2=>Uq k j h1 h2} hx hox (hc i _ _ hx hox) fun dP bg a' w' h'=>?_
  have e:plus (jW l) i=jW (l.setIfInBounds i agP):=by
   funext j
   apply propext;unfold plus jW
   by_cases k9:i=j
   · subst k9;simp [JB]
   simp only [getD_set_ne agS k9]
   exact ⟨fun h=>h.elim id fun h=>absurd h.symm k9,.inl⟩
  rw [e] at h';refine ih _ dP bg a' w' (by simpa using hl) ?_ ?_ h'
  · rw [Array.toList_setIfInBounds,List.count_set (by simpa using JB)]
    have:l.toList[i]=agS:=by simp [JB] at h0;simpa using h0
    rw [this];simp only [Array.count_toList] at aia ⊢;simp;omega
  intro k j hk hj
  rw [<- e] at hk ⊢;rcases hk with hk|rfl
  · exact .inl (Uq k j hk hj)
  exact .inl (Gp j hj)
theorem ER.fH {st:Env} {fH:List Nat} (h:ER im loc st a.tmps):ER im loc (fH.map fun s=>(s,lk s st)) a.tmps:=by
 intro t;have:lk t (fH.map fun s=>(s,lk s st))=lk t st\/lk t (fH.map fun s=>(s,lk s st))= .undef:=by
  induction fH with
  |nil=>exact .inr rfl
  |cons s r ih=>
   simp only [List.map_cons,qM];split
   · rename_i e;subst e;exact .inl rfl
   exact ih
 rcases this with h'|h'
 · rw [h'];exact h t
 rw [h'];exact .undef _
structure wM (im:Im) (loc:Loc) (nt:Nat) (st:St) (a:Act):Prop where
 env:ER im loc st.env a.tmps
 defers:a.defers=[]
 Lh:a.tmps.size=nt
theorem Kept.world {jb : bW} {st : St} {w1 : World} (h : Kept im0 loc0 jb w1 st im loc w) (hh : w1.heap = w0.heap) (ho : w1.os = w0.os) (ht : Tape w0 w1) (hp : w1.output = w0.output) : Kept im0 loc0 jb w0 st im loc w :=
  { sr := h.sr, fY := h.fY, dw := h.dw, os := h.os.trans ho, tape := h.tape.trans ht, output := h.output.trans hp, size := by have := h.size; rw [hh] at this; exact this
    frame := by have := h.frame; rw [hh] at this; exact this
    dB := by have := h.dB; rw [hh] at this; exact this
    mJ := h.mJ
    own := by have := h.own; rw [hh] at this; exact this }
theorem SR.world {aA:bW} {fz:List Nat} {w1:World} (h:SR im loc aA fz w) (hh:w1.heap=w.heap):SR im loc aA fz w1 where
 bq:=by rw [hh];exact h.bq
 de:=fun t li hl=>let ⟨k,h1,h2⟩:=h.de t li hl;⟨k,h1,h2.mono (.refl _) (.refl _) (by rw [hh])⟩
 iE:=h.iE
 free:=h.free
theorem LC (hE:HV P F rec) (ov:P.follows .mixedOrders=agP) {draw:Option (List Nat)} {fH:List Nat} {id:Nat} {flag:Bool} {st kA:St}
 (hc:B6 P prims nt draw ops iS flag=agP) (gI:kZ F rec draw ops fH st=agF kA) (j8:SR im0 loc0 st.aA st.fz w0) (ha:wM im0 loc0 nt st a) {Q:Exit->Act->World->Prop}
 (hQ: ∀im loc a' w',Kept im0 loc0 st.aA w0 kA im loc w'->wM im loc nt kA a'->Q .normal a' w'):(Code.region id iS flag).wp P Q a w0:=by
 unfold B6 at hc;simp only [ww] at hc;obtain ⟨O5,hd⟩:=hc;obtain ⟨bY,Ur⟩:=AR O5;have bY:(agD ops)=iS.size:=by simpa using bY
 have Ur: ∀(i:Nat) (x:bE) (o:Oper),ops[i]? =agF x->iS[i]? =agF o->qN P prims nt iS x o=agP:=fun i x o hx ho=>Ur i x o hx (by simpa using ho)
 unfold kZ at gI;cases he:mf F rec ops st [] with
 |none=>rw [he] at gI;cases gI
 |some q=>
  obtain ⟨st1,tr⟩:=q;rw [he] at gI;dsimp only at gI;obtain ⟨S,X,h0,hn,hr,htr⟩:=B4 ops st [] st1 tr he;have fin: ∀(w1:World),w1.heap=w0.heap->w1.os=w0.os->Tape w0 w1->w1.output=w0.output->kA={st1 with env:=fH.map fun s=>(s,lk s st1.env)}-> ∀im loc a' w' (done:Nat->Prop),(∀i,i<agD ops->done i)->
   Inv ops S X im0 loc0 w1 nt done im loc a' w'->Q .normal a' w':=by
   intro w1 q1 q2 q3 q4 bM im loc a' w' done hdn hv;obtain ⟨hk,her,hdf,hns⟩:=hv.finish hr hdn;rw [hn] at hk her;rw [h0] at hk;subst bM;have hk:=hk.world q1 q2 q3 q4;exact hQ im loc a' w' {sr:=hk.sr,fY:=hk.fY,dw:=hk.dw,os:=hk.os,tape:=hk.tape,output:=hk.output,size:=hk.size,frame:=hk.frame,dB:=hk.dB,mJ:=hk.mJ,own:=hk.own} ⟨her.fH,hdf,hns⟩
  cases draw with
  |none=>
   dsimp only at hd gI;have:flag=agS:=by simpa using hd
   subst this;injection gI with gI;refine wp_region ?_;rw [List.range_eq_range'];refine Eu hE hr Ur bY (fun im loc a w hv=>fin w0 rfl rfl (.refl _) rfl gI.symm im loc a w _ (fun i h=>h) hv) iS.size 0 im0 loc0 a w0 (by omega) ?_;have:=Inv.start (ops:=ops) (X:=X) (w0:=w0) h0 j8 ha.env ha.defers ha.Lh hr;have e:(fun _:Nat=>False)=fun i=>i<0:=by funext i;apply propext;exact ⟨fun h=>h.elim,fun h=>by omega⟩
   rw [e] at this;exact this
  |some bf=>
   dsimp only at hd gI;simp only [ww] at hd;obtain ⟨⟨⟨rfl,Li⟩,hmk⟩,TR⟩:=hd;have Li:(agD bf)=(agD ops):=by simpa using Li
   split at gI
   · rename_i Qr
     injection gI with gI;have alO:tr.reverse=ze S X (agD ops):=by rw [htr];simp
     rw [alO] at Qr;obtain ⟨_,hmk⟩:=CU hmk;refine wp_region_any ov ?_;refine JA (w0:={w0 with drawn:=w0.drawn+1}) (im0:=im0) (loc0:=loc0) hE hr (Ord.drawn hr Li TR Qr) Ur bY ?_ (fun im loc a w done hdn hv=>fin {w0 with drawn:=w0.drawn+1} rfl rfl ⟨rfl,Nat.le_succ _⟩ rfl gI.symm im loc a w done hdn hv) iS.size _ im0 loc0 a _ (by simp [bY]) ?_ ?_ ?_
     · intro k o ho
       have df:=(PP.1 ho).1;have hk:bf[k]? =agF (bf.getD k 0):=by rw [aba,v6 (by omega)];rfl
       simpa using hmk k _ o hk (by simpa using ho)
     · simp [bY,List.count_replicate]
     · intro k j h
       unfold jW at h
       by_cases hk:k<iS.size<;>simp [hk] at h
     have:=Inv.start (ops:=ops) (X:=X) (w0:={w0 with drawn:=w0.drawn+1}) h0 (j8.world rfl) ha.env ha.defers ha.Lh hr
     have e:(fun _:Nat=>False)=jW (aaw iS.size agS):=by
      funext i;apply propext
      unfold jW
      by_cases hk:i<iS.size<;>simp [hk]
     rw [e] at this;exact this
   cases gI
end
end Go.Vm
/- What a function keeps from its beginning on; the head of a loop. -/
namespace Go.Vm
theorem Kept.trans {im0 DJ DK:Im} {loc0 cR qw:Loc} {jb:bW} {w0 w1 w2:World} {st1 st2:St} (h1:Kept im0 loc0 jb w0 st1 DJ cR w1) (h2:Kept DJ cR st1.aA w1 st2 DK qw w2) (hl:(agD jb)<=agD st1.aA):
 Kept im0 loc0 jb w0 st2 DK qw w2 where
 sr:=h2.sr
 fY:=h1.fY.trans h2.fY
 dw:=h1.dw.trans h2.dw
 os:=h2.os.trans h1.os
 tape:=h2.tape.trans h1.tape
 output:=h2.output.trans h1.output
 size:=aai h1.size h2.size
 frame:=fun b hb hh=>by
  rw [h2.frame b (aay hb h1.size) fun t li k hl hs lJ Jr=>?_]
  · exact h1.frame b hb hh
  rcases h1.own t li k hl hs lJ with h|⟨u,lu,ku,g1,g2,g3,g4⟩
  · omega
  exact hh u lu ku g1 g2 g3 (by omega)
 dB:=fun b o hb=>by
  rcases h2.dB b o hb with h|h|⟨t,li,k,g1,g2,g3,g4⟩
  · exact h1.dB b o h
  · exact .inr (.inl (aai h1.size h))
  rcases h1.own t li k g1 g2 g3 with h|⟨u,lu,ku,k1,k2,k3,k4⟩
  · exact .inr (.inl (by omega))
  exact .inr (.inr ⟨u,lu,ku,k1,k2,k3,by omega⟩)
 mJ:=fun t li h=>by
  rcases h2.mJ t li h with h|h
  · exact h1.mJ t li h
  exact .inr (aai hl h)
 own:=fun t li k hl hs lJ=>by
  rcases h2.own t li k hl hs lJ with h|⟨u,lu,ku,g1,g2,g3,g4⟩
  · exact .inl (aai h1.size h)
  rcases h1.own u lu ku g1 g2 g3 with h|⟨u',lu',ku',k1,k2,k3,k4⟩
  · exact .inl (by omega)
  exact .inr ⟨u',lu',ku',k1,k2,k3,by omega⟩
structure zf (im0:Im) (loc0:Loc) (jb:bW) (w0:World) (st:St) (im:Im) (loc:Loc) (w:World):Prop where
 kept:Kept im0 loc0 jb w0 st im loc w
 kn:st.kn=agD jb
 len:(agD jb)<=agD st.aA
 dom: ∀t li,loc0 t=agF li->t<agD jb
theorem Ey {F:kH} {rec:Task->Option Out}: ∀(ops:List bE) (st:St) (tr:List Tr) (kA:St) (O2:List Tr),mf F rec ops st tr=agF (kA,O2)->kA.kn=st.kn
 | [],st,tr,kA,O2,h=>by simp only [mf,AC,M2] at h;rw [h.1]
 |o::l,st,tr,kA,O2,h=>by
  simp only [mf] at h;split at h
  · split at h
    · rename_i x hx
      split at h
      · have:=Ey l _ _ kA O2 h
        rw [this];cases x<;>rfl
      cases h
    cases h
  · have:=Ey l _ _ kA O2 h
    exact this
  cases h
theorem HW {F:kH} {rec:Task->Option Out} {draw:Option (List Nat)} {ops:List bE} {fH:List Nat} {st kA:St} (h:kZ F rec draw ops fH st=agF kA):kA.kn=st.kn/\agD st.aA<=(agD kA.aA):=by
 unfold kZ at h;cases he:mf F rec ops st [] with
 |none=>rw [he] at h;cases h
 |some q=>
  obtain ⟨st1,tr⟩:=q;rw [he] at h;dsimp only at h;obtain ⟨S,X,h0,hn,hr,_⟩:=B4 ops st [] st1 tr he;have h1:=Ey ops st [] st1 tr he;have h2:=hr.hJ (aap (agD ops)) (IR _);rw [h0,hn] at h2;cases draw with
  |none=>dsimp only at h;injection h with h;subst h;exact ⟨h1,h2⟩
  |some bf=>
   dsimp only at h;split at h
   · injection h with h;subst h;exact ⟨h1,h2⟩
   cases h
section
variable {im : Im} {loc cR : Loc} {m : List Nat}
theorem JC {fz:List Nat}: ∀{l:List Nat} {i0 u t:Nat},l[u]? =agF t->(i0+u)∉xg fz i0 l->t∉fz
 | [],i0,u,t,h,_=>by simp at h
 |s::r,i0,u,t,h,hn=>by
  simp only [xg] at hn;cases u with
  |zero=>simp at h;subst h;intro hf;rw [rc (o9.2 hf)] at hn;exact hn (by simp)
  |succ u=>
   refine JC (l:=r) (i0:=i0+1) (u:=u) (by simpa using h) fun y5=>?_
   rw [show i0+(u+1)=i0+1+u by omega] at hn;split at hn
   · exact hn (aaV _ y5)
   exact hn y5
theorem Ez {aA:bW}: ∀{n:Nat} {ts seen:List Nat} {m:List Nat},reach aA n ts seen=agF m->(∃l,m=seen++l)/\(seen.Nodup->m.Nodup)
 |_,[],seen,m,h=>by
  have h:agF seen=agF m:=by rw [<- h];unfold reach;cases ‹Nat› <;>rfl
  injection h with h;subst h;exact ⟨⟨[],by simp⟩,id⟩
 |0,_::_,seen,m,h=>by simp [reach] at h
 |n+1,t::ts,seen,m,h=>by
  simp only [reach] at h;split at h
  · exact Ez h
  rename_i hn
  split at h
  · obtain ⟨⟨l,hl⟩,h2⟩:=Ez h
    refine ⟨⟨t::l,by rw [hl];simp⟩,fun hd=>h2 ?_⟩;rw [acr];refine ⟨hd,by simp,fun a ha b hb=>?_⟩;have:b=t:=by simpa using hb
    subst this;intro e;subst e;exact hn (o9.2 ha)
  cases h
theorem JD: ∀{n i:Nat},i<n->(uq n)[i]? =agF i
 |n+1,i,h=>by
  have hl: ∀n,(uq n).length=n:=by
   intro n;induction n with
   |zero=>rfl
   |succ n ih=>simp [uq,ih]
  simp only [uq];rcases aam i n with h'|h'
  · rw [NE (by rw [hl];exact h')];exact JD h'
  rw [aa9 (by rw [hl];exact h'),hl]
  have:i=n:=by omega
  subst this;simp
theorem JE: ∀{n i:Nat},i∈uq n->i<n
 |n+1,i,h=>by
  simp only [uq,aaq,aat] at h;rcases h with h|h
  · have:=JE h;omega
  omega
theorem EA: ∀n,(uq n).Nodup
 |0=>by simp [uq]
 |n+1=>by
  simp only [uq];rw [acr];refine ⟨EA n,by simp,fun a ha b hb=>?_⟩;have:=JE ha;have:b=n:=by simpa using hb
  omega
end
end Go.Vm
/- The head of a loop. -/
namespace Go.Vm
def O6 (s2:bW):Prop:= ∀(j:Nat) (k:jL),s2[j]? =agF k-> ∃e,k= .arr e []
theorem VR.Gy {im:Im} {loc:Loc} {x:PV} {u:Value} (h:VR im loc x u): ∀k:Option Nat,VR im loc (Gy k x) u
 |none=>h
 |some _=>by
  cases h with
  |own t esz off len cap ex li a cD hl he hn hc hx hk h=>exact .own t esz off len cap agS li a cD hl he hn hc hx (fun h=>by cases h) h
  |undef=>exact .undef _
  |jl=>exact .jl
  |int k n=>exact .int k n
  |bool b=>exact .bool b
  |str s=>exact .str s
  |agg cs vs h=>exact .agg cs vs h
  |bS cs vs h=>exact .bS cs vs h
  |sl e c r a cap h1 h2 h3=>exact .sl e c r a cap h1 h2 h3
  |ptr t e r o li h1 h2 h3=>exact .ptr t e r o li h1 h2 h3
  |bu cs off b o vs h hv=>exact .bu cs off b o vs h hv
  |mp t li hl=>exact .mp t li hl
  |eh fn a b as bs ha hb=>exact .eh fn a b as bs ha hb
  |dz=>exact .dz
theorem zT {im:Im} {loc cR:Loc} {m:List Nat} {e:Env} {tmps:Array Value} (hm:Ren m loc cR) (he:ER im loc e tmps): ∀{live:List (Nat×Option Nat)} {nx:Nat} {e1:Env} {s2:bW},qI e m nx live=agF (e1,s2)->
 O6 s2/\((∀(j:Nat) (esz:Nat),s2[j]? =agF (.arr esz [])->cR (nx+j)=agF ⟨0,0,esz,0,0⟩)->ER im cR e1 tmps)
 | [],nx,e1,s2,h=>by simp only [qI,AC,M2] at h;obtain ⟨rfl,rfl⟩:=h;exact ⟨fun j k h=>by simp at h,fun _ t=> .undef _⟩
 |(s,k)::r,nx,e1,s2,h=>by
  have hs:=he s;simp only [qI] at h;split at h
  · rename_i esz e' tF
    rw [EQ] at h;obtain ⟨⟨e2,s3⟩,h1,h2⟩:=h;simp only [M2] at h2;obtain ⟨rfl,rfl⟩:=h2;obtain ⟨g1,g2⟩:=zT hm he h1;refine ⟨fun j k hj=>?_,fun hl t=>?_⟩
    · cases j with
      |zero=>simp at hj;exact ⟨_,hj.symm⟩
      |succ j=>exact g1 j k (by simpa using hj)
    rw [qM]
    split
    · rename_i e;subst e
      rw [tF] at hs;generalize hg:tmps.getD s Go.undef=v at hs;cases hs with
      |sl _ _ _ a cap h1 h2 h3=>
      have:cap=0:=by simpa using h2 rfl
      subst this;exact .own nx esz 0 0 0 agS ⟨0,0,esz,0,0⟩ a 0 (by simpa using hl 0 esz rfl) rfl (IR _) (IR _) (IR _) (fun h=>by cases h) (.inl rfl)
    refine g2 (fun j alP hj=>?_) t
    have:=hl (j+1) alP (by simpa using hj);rw [show nx+1+j=nx+(j+1) by omega];exact this
  split at h
  · rename_i v' p h1 h2
    injection h with h;simp only [M2] at h;obtain ⟨rfl,rfl⟩:=h;obtain ⟨g1,g2⟩:=zT hm he (e1:=p.1) (s2:=p.2) h2;refine ⟨g1,fun hl t=>?_⟩;rw [qM];split
    · rename_i e;subst e
      exact (Qx hm hs h1).Gy _
    exact g2 hl t
  cases h
theorem eG.setAt {im:Im} {loc:Loc} {x:PV}: ∀{xs:List PV} {vs:List Value} {c:Nat} {y:PV},eG im loc xs vs->xs[c]? =agF y->(∀v,VR im loc y v->VR im loc x v)->eG im loc (xs.set c x) vs
 | [],_,c,y,h,hc,_=>by simp at hc
 |z::zs,vs,c,y,h,hc,hx=>by
  cases h with
  |cons _ v _ us g1 g2=>
   cases c with
   |zero=>simp at hc;subst hc;exact .cons _ _ _ _ (hx v g1) g2
   |succ c=>exact .cons _ _ _ _ g1 (eG.setAt g2 (by simpa using hc) hx)
theorem LD {im0 im:Im} {loc0 loc:Loc} {jb:bW} {w0 w:World} {nt:Nat} {st:St} {a:Act} (t c esz:Nat) (hk:zf im0 loc0 jb w0 st im loc w) (ha:wM im loc nt st a):
 ∃cR,zf im0 loc0 jb w0 (qJ st t c esz) im cR w/\wM im cR nt (qJ st t c esz) a:=by
 unfold qJ;split
 · rename_i cs hb
   split
   · rename_i e hc
     have sr:=hk.kept.sr;have aib: ∀u li,loc u=agF li->u<(agD st.aA):=fun u li h=>by obtain ⟨k,h1,_⟩:=sr.de u li h;exact cm h1
     have hn:loc (agD st.aA)=agO:=by
      cases h:loc (agD st.aA) with
      |none=>rfl
      |some li=>exact absurd (aib _ _ h) (Nat.lt_irrefl _)
     let cR:Loc:=fun u=>if u=(agD st.aA) then agF ⟨0,0,esz,0,0⟩ else loc u
     have kY:lX loc cR:=fun u li h=>by have:=aib u li h;simp only [cR,show u≠(agD st.aA) by omega,if_false];exact h
     have back: ∀u li,cR u=agF li->u≠agD st.aA->loc u=agF li:=fun u li h hu=>by simpa only [cR,hu,if_false] using h
     have O7:t<(agD st.aA):=cm hb;have get: ∀u,u<agD st.aA->(st.aA.set t (.box (cs.set c (.own (agD st.aA) esz 0 0 0 agS)))++[.arr esz []])[u]? =if t=u then agF (.box (cs.set c (.own (agD st.aA) esz 0 0 0 agS))) else st.aA[u]?:=fun u hu=>by
      rw [NE (by simpa using hu),adc];split
      · rename_i e;subst e;simp
      rfl
     have aic:(st.aA.set t (.box (cs.set c (.own (agD st.aA) esz 0 0 0 agS)))++[.arr esz []])[agD st.aA]? =agF (.arr esz []):=by rw [aa9 (by simp)];simp
     have bA: ∀(u:Nat) (k:jL),(st.aA.set t (.box (cs.set c (.own (agD st.aA) esz 0 0 0 agS)))++[.arr esz []])[u]? =agF k->k.bA=agP->u≠agD st.aA/\ ∃k0:jL,st.aA[u]? =agF k0/\k0.bA=agP:=by
      intro u k hu hs;have df:=cm hu;simp only [aaA,age,List.length_singleton] at df;have dE:u≠(agD st.aA):=by intro e;subst e;rw [aic] at hu;injection hu with hu;subst hu;cases hs
      refine ⟨dE,?_⟩;rw [get u (by omega)] at hu;split at hu
      · rename_i e;subst e;exact ⟨_,hb,rfl⟩
      exact ⟨k,hu,hs⟩
     refine ⟨cR,⟨⟨?_,hk.kept.fY,hk.kept.dw.trans kY,hk.kept.os,hk.kept.tape,hk.kept.output,hk.kept.size,hk.kept.frame,hk.kept.dB,fun u li h=>?_,fun u li k h hs lJ=>?_⟩,hk.kn,?_,hk.dom⟩,⟨ha.env.mono (nE.refl _) kY,ha.defers,ha.Lh⟩⟩
     · refine {
        bq:=sr.bq
        de:=fun u li hl=>?_
        iE:=fun u u' li lj k k' hl kM hs uw lJ GK hbk=>?_
        free:=fun u li k hl hs lJ hz=>?_}
       · by_cases hu:u=agD st.aA
         · subst hu
           simp only [cR,if_true] at hl;injection hl with hl;subst hl;exact ⟨_,aic,rfl,rfl,fun h=>absurd rfl h⟩
         have IZ:=back u li hl hu
         obtain ⟨k,h1,h2⟩:=sr.de u li IZ;show∃k,(st.aA.set t (.box (cs.set c (.own (agD st.aA) esz 0 0 0 agS)))++[.arr esz []])[u]? =agF k/\BR im cR w li k;rw [get u (cm h1)];split
         · rename_i et;subst et
           rw [hb] at h1;injection h1 with h1;subst h1;obtain ⟨g1,g2,g3,vs,el,g4,g5,g6⟩:=h2;refine ⟨_,rfl,by simpa using g1,g2,g3,vs,el,g4,g5,(g6.mono (nE.refl _) kY).setAt hc fun v hv=>?_⟩;cases hv with
           |sl _ _ _ a' cap h1 h2 h3=>
           have:cap=0:=by simpa using h2 rfl
           subst this;exact .own _ esz 0 0 0 agS ⟨0,0,esz,0,0⟩ a' 0 (by simp only [cR,if_true]) rfl (IR _) (IR _) (IR _) (fun h=>by cases h) (.inl rfl)
         exact ⟨k,h1,h2.mono (nE.refl _) kY rfl⟩
       · obtain ⟨n1,k0,g1,g2⟩:=bA u k hs lJ
         obtain ⟨n2,k0',g1',g2'⟩:=bA u' k' uw GK;exact sr.iE u u' li lj k0 k0' (back _ _ hl n1) (back _ _ kM n2) g1 g1' g2 g2' hbk
       obtain ⟨n1,k0,g1,g2⟩:=bA u k hs lJ
       exact sr.free u li k0 (back _ _ hl n1) g1 g2 hz
     · by_cases hu:u=agD st.aA
       · right;have:=hk.len;omega
       exact hk.kept.mJ u li (back u li h hu)
     · obtain ⟨n1,k0,g1,g2⟩:=bA u k hs lJ
       exact hk.kept.own u li k0 (back _ _ h n1) g1 g2
     have:=hk.len
     show (agD jb)<=(st.aA.set t (.box (cs.set c (.own (agD st.aA) esz 0 0 0 agS)))++[jL.arr esz []]).length;simp only [aaA,age];omega
   exact ⟨loc,hk,ha⟩
 exact ⟨loc,hk,ha⟩
theorem pP {im0 im:Im} {loc0:Loc} {jb:bW} {w0 w:World} {nt:Nat} {a:Act}: ∀(live:List (Nat×Option Nat)) {st:St} {loc:Loc},zf im0 loc0 jb w0 st im loc w->wM im loc nt st a->
 ∃cR,zf im0 loc0 jb w0 (j9 live st) im cR w/\wM im cR nt (j9 live st) a
 | [],st,loc,hk,ha=>⟨loc,hk,ha⟩
 |(s,k)::r,st,loc,hk,ha=>by
  simp only [j9];split
  · split
    · split
      · rename_i t _
        obtain ⟨cR,h1,h2⟩:=LD t _ _ hk ha;exact pP r h1 h2
      exact pP r hk ha
    exact pP r hk ha
  exact pP r hk ha
theorem JF {im0 im:Im} {loc0 loc:Loc} {jb:bW} {w0 w:World} {nt:Nat} {live:List (Nat×Option Nat)} {st st1:St} {a:Act} (h:D5 live st=agF st1) (hk:zf im0 loc0 jb w0 st im loc w) (ha:wM im loc nt st a):
 ∃cR,zf im0 loc0 jb w0 st1 im cR w/\wM im cR nt st1 a:=by
 unfold D5 at h;split at h
 · cases h
 rename_i m abM
 split at h
 · rename_i s1 e1 s2 hs1 hlv
   injection h with h;subst h;refine (fun hh: ∃cR,zf im0 loc0 jb w0 {env:=e1,aA:=s1++s2,fz:=xg st.fz 0 m,kn:=st.kn} im cR w/\wM im cR nt {env:=e1,aA:=s1++s2,fz:=xg st.fz 0 m,kn:=st.kn} a=>
    let ⟨_,g1,g2⟩:=hh;pP live g1 g2) ?_
   obtain ⟨⟨ml,y6⟩,Gf⟩:=Ez abM;have Gf:=Gf (EA _);obtain ⟨M9,Dn⟩:=BQ hs1;have aid: ∀n,(uq n).length=n:=by
    intro n;induction n with
    |zero=>rfl
    |succ n ih=>simp [uq,ih]
   have hid: ∀t,t<st.kn->m[t]? =agF t:=by intro t ht;rw [y6,NE (by rw [aid];exact ht)];exact JD ht
   have apT:st.kn<=(agD m):=by rw [y6];simp [aid]
   let cR:Loc:=fun u=>if u<(agD m) then (match m[u]? with|some t=>loc t|none=>agO) else match s2[u-(agD m)]? with
    |some (.arr e [])=>agF ⟨0,0,e,0,0⟩
    |_=>agO
   have Eo:Ren m loc cR:=by intro u t hu;have:=cm hu;simp only [cR,this,if_true,hu]
   obtain ⟨alR,her⟩:=zT Eo ha.env hlv;have old: ∀u li,cR u=agF li->u<agD m-> ∃t,m[u]? =agF t/\loc t=agF li:=by intro u li hl hu;have e:=v6 hu;rw [Eo u _ e] at hl;exact ⟨_,e,hl⟩
   have aie: ∀u,u<agD m->(s1++s2)[u]? =s1[u]?:=fun u hu=>NE (by rw [M9];exact hu)
   have aif: ∀u,¬u<agD m->(s1++s2)[u]? =s2[u-(agD m)]?:=fun u hu=>by rw [aa9 (by rw [M9];omega),M9]
   have yC: ∀(u:Nat) (k:jL),(s1++s2)[u]? =agF k->k.bA=agP->u<(agD m):=by
    intro u k hs lJ;rcases aam u (agD m) with h|h
    · exact h
    rw [aif u (by omega)] at hs
    obtain ⟨e,rfl⟩:=alR _ _ hs;cases lJ
   have back: ∀(u:Nat) (k:jL),(s1++s2)[u]? =agF k-> ∀t,m[u]? =agF t-> ∃k0:jL,st.aA[t]? =agF k0/\k.bA=k0.bA:=by intro u k hs t ht;obtain ⟨k0,k',g1,g2,g3⟩:=Dn u t ht;rw [aie u (cm ht),g3] at hs;injection hs with hs;subst hs;exact ⟨k0,g1,AE g2⟩
   have sr:=hk.kept.sr;have abN:SR im cR (s1++s2) (xg st.fz 0 m) w:=by
    refine {
     bq:=sr.bq
     de:=fun u li hl=>?_
     iE:=fun u u' li lj k k' hl kM hs uw lJ GK hb=>?_
     free:=fun u li k hl hs lJ hz=>?_}
    · by_cases hu:u<agD m
      · obtain ⟨t,ht,df⟩:=old u li hl hu
        obtain ⟨k0,h1,h2⟩:=sr.de t li df;obtain ⟨k1,k',g1,g2,g3⟩:=Dn u t ht;rw [h1] at g1;injection g1 with g1;subst g1;exact ⟨k',by rw [aie u hu];exact g3,GB Eo g2 h2⟩
      simp only [cR,hu,if_false] at hl
      split at hl
      · rename_i e he
        injection hl with hl;subst hl;exact ⟨.arr e [],by rw [aif u hu];exact he,rfl,rfl,fun h=>absurd rfl h⟩
      cases hl
    · have hu:=yC u k hs lJ
      have BJ:=yC u' k' uw GK;obtain ⟨t,ht,df⟩:=old u li hl hu;obtain ⟨t',Nq,JB⟩:=old u' lj kM BJ;obtain ⟨k0,g1,g2⟩:=back u k hs t ht;obtain ⟨k0',g1',g2'⟩:=back u' k' uw t' Nq;have:=sr.iE t t' li lj k0 k0' df JB g1 g1' (by rw [<- g2];exact lJ) (by rw [<- g2'];exact GK) hb;subst this;have pw:=abe.1 Gf;have e1:=(If.1 ht).2;have e2:=(If.1 Nq).2;rcases aa6 u u' with h|h|h
      · exact absurd (e1.trans e2.symm) (pw u u' hu BJ h)
      · exact h
      exact absurd (e2.trans e1.symm) (pw u' u BJ hu h)
    have hu:=yC u k hs lJ
    obtain ⟨t,ht,df⟩:=old u li hl hu;obtain ⟨k0,g1,g2⟩:=back u k hs t ht;refine sr.free t li k0 df g1 (by rw [<- g2];exact lJ) (jw.2 ?_);exact JC (i0:=0) ht (by have:=jw.1 hz;simpa using this)
   refine ⟨cR,⟨⟨abN,hk.kept.fY,fun t li hl=>?_,hk.kept.os,hk.kept.tape,hk.kept.output,hk.kept.size,hk.kept.frame,hk.kept.dB,fun t li hl=>?_,fun u li k hl hs lJ=>?_⟩,hk.kn,?_,hk.dom⟩,
    ⟨her fun j esz hj=>?_,ha.defers,ha.Lh⟩⟩
   · have h1:=hk.kept.dw t li hl
     have ht:t<st.kn:=by rw [hk.kn];exact hk.dom t li hl
     rw [Eo t t (hid t ht)];exact h1
   · rcases aam t st.kn with ht|ht
     · rw [Eo t t (hid t ht)] at hl
       exact hk.kept.mJ t li hl
     right;rw [hk.kn] at ht;exact ht
   · have hu:=yC u k hs lJ
     obtain ⟨t,ht,df⟩:=old u li hl hu;obtain ⟨k0,g1,g2⟩:=back u k hs t ht;exact hk.kept.own t li k0 df g1 (by rw [<- g2];exact lJ)
   · rw [<- hk.kn]
     simp only [aaA];omega
   simp only [cR,show¬agD m+j<(agD m) by omega,if_false,show (agD m)+j-(agD m)=j by omega,hj]
 exact (by cases h)
theorem Us {im0 im:Im} {loc0 loc:Loc} {jb:bW} {w0 w:World} {nt:Nat} {live:List (Nat×Option Nat)} {st st1:St} {a:Act} (h:norm live st=agF st1) (hk:zf im0 loc0 jb w0 st im loc w) (ha:wM im loc nt st a):
 ∃cR,zf im0 loc0 jb w0 st1 im cR w/\wM im cR nt st1 a:=by
 unfold norm at h;cases h1:D5 live st with
 |none=>rw [h1] at h;cases h
 |some s=>
  rw [h1] at h;dsimp only at h;obtain ⟨cR,iF,sP⟩:=JF h1 hk ha;split at h
  · exact JF h iF sP
  injection h with h
  subst h;exact ⟨cR,iF,sP⟩
end Go.Vm
/- The code of a function; what it returns. -/
namespace Go.Vm
def gd (P:Program) (prims:FuncId->Bool) (nt:Nat):ji->Code->Bool
 | .skip,.skip=>agP
 | .region d ops _,.region _ iS flag=>B6 P prims nt d ops iS flag
 | .seq a b,.seq c d=>gd P prims nt a c&&gd P prims nt b d
 | .cond c a b,.cond c' a' b'=>bn c c'&&gd P prims nt a a'&&gd P prims nt b b'
 | .block id b,.block id' b'=>id==id'&&gd P prims nt b b'
 | .loop _ b,.loop b'=>gd P prims nt b b'
 | .exit id,.exit id'=>id==id'
 | .ret,.ret=>agP
 |_,_=>agS
def gS.out:gS->Exit
 | .normal=> .normal
 | .exit id=> .exit id
 | .ret=> .ret
section
variable {P : Program} {F : kH} {rec : Task -> Option Out} {im0 : Im} {loc0 : Loc} {jb : bW} {w0 : World} {nt : Nat} {prims : FuncId -> Bool}
structure At (im0:Im) (loc0:Loc) (jb:bW) (w0:World) (nt:Nat) (st:St) (a:Act) (w:World):Prop where
 ex: ∃im loc,zf im0 loc0 jb w0 st im loc w/\wM im loc nt st a
def B7 (P : Program) (prims : FuncId -> Bool) (rec : Task -> Option Out) : Prop :=
  ∀ (live : List (Nat × Option Nat)) (x : ji) (st : St) (e : gS) (kA : St), rec (.loop live x st) = agF (.code e kA) ->
    ∀ (c : Code) (nt : Nat) (im0 : Im) (loc0 : Loc) (jb : bW) (w0 : World) (a : Act) (w : World), gd P prims nt x c = agP -> At im0 loc0 jb w0 nt st a w ->
      ∀ (b : Frame) (k : List Item) (cs : List Frame), ∃ a' w', At im0 loc0 jb w0 nt kA a' w' /\ Arrives P (lone (b.at a (.code c :: .inLoop c :: k)) cs w) b k cs e.out a' w'
theorem kq (hE:HV P F rec) (hL:B7 P prims rec) (ov:P.follows .mixedOrders=agP): ∀(x:ji) (c:Code) (st:St) (e:gS) (kA:St),gd P prims nt x c=agP->sE F rec x st=agF (e,kA)->
 ∀(a:Act) (w:World),At im0 loc0 jb w0 nt st a w-> ∀(Q:Exit->Act->World->Prop),(∀a' w',At im0 loc0 jb w0 nt kA a' w'->Q e.out a' w')->c.wp P Q a w
 | .skip,c,st,e,kA,hc,gI,a,w,ha,Q,hQ=>by
  cases c<;>simp only [gd,UV] at hc
  simp only [sE,AC,M2] at gI;obtain ⟨rfl,rfl⟩:=gI;exact wp_skip (hQ _ _ ha)
 | .region d ops fH,c,st,e,kA,hc,gI,a,w,ha,Q,hQ=>by
  cases c<;>simp only [gd,UV] at hc
  simp only [sE,EQ] at gI;obtain ⟨st1,gI,h⟩:=gI;simp only [M2] at h;obtain ⟨rfl,rfl⟩:=h;obtain ⟨im,loc,hk,EB⟩:=ha.ex;refine LC hE ov hc gI hk.kept.sr EB fun dP bg a' w' HX I1=>hQ a' w' ⟨dP,bg,?_,I1⟩
  obtain ⟨h1,h2⟩:=HW gI;exact ⟨hk.kept.trans HX hk.len,by rw [h1];exact hk.kn,aai hk.len h2,hk.dom⟩
 | .seq x y,c,st,e,kA,hc,gI,a,w,ha,Q,hQ=>by
  cases c<;>simp only [gd,UV,ww] at hc
  obtain ⟨h1,h2⟩:=hc;simp only [sE] at gI;refine wp_seq ?_;cases hx:sE F rec x st with
  |none=>rw [hx] at gI;cases gI
  |some q=>
   obtain ⟨e1,st1⟩:=q;rw [hx] at gI;refine kq hE hL ov x _ st e1 st1 h1 hx a w ha _ fun a' w' I1=>?_
   cases e1 with
   |normal=>exact kq hE hL ov y _ st1 e kA h2 gI a' w' I1 Q hQ
   |exit id=>simp only [AC,M2] at gI;obtain ⟨rfl,rfl⟩:=gI;exact hQ a' w' I1
   |ret=>simp only [AC,M2] at gI;obtain ⟨rfl,rfl⟩:=gI;exact hQ a' w' I1
 | .cond cc x y,c,st,e,kA,hc,gI,a,w,ha,Q,hQ=>by
  cases c<;>simp only [gd,UV,ww] at hc
  obtain ⟨⟨h0,h1⟩,h2⟩:=hc;obtain ⟨im,loc,hk,EB⟩:=ha.ex;have hv:=LB (a:=a) (e:=st.env) cc (fun t _=>EB.env t) _ h0;simp only [sE] at gI;split at gI
  · rename_i hb
    rw [hb] at hv;exact wp_cond_true hv.ju (kq hE hL ov x _ st e kA h1 gI a w ha Q hQ)
  · rename_i hb
    rw [hb] at hv;exact wp_cond_false hv.ju (kq hE hL ov y _ st e kA h2 gI a w ha Q hQ)
  cases gI
 | .block id x,c,st,e,kA,hc,gI,a,w,ha,Q,hQ=>by
  cases c<;>simp only [gd,UV,ww,beq_iff_eq] at hc
  obtain ⟨rfl,h1⟩:=hc;refine wp_block ?_;simp only [sE] at gI;cases hx:sE F rec x st with
  |none=>rw [hx] at gI;cases gI
  |some q=>
   obtain ⟨e1,st1⟩:=q;rw [hx] at gI;refine kq hE hL ov x _ st e1 st1 h1 hx a w ha _ fun a' w' I1=>?_
   cases e1 with
   |normal=>simp only [AC,M2] at gI;obtain ⟨rfl,rfl⟩:=gI;exact hQ a' w' I1
   |ret=>simp only [AC,M2] at gI;obtain ⟨rfl,rfl⟩:=gI;exact hQ a' w' I1
   |exit j=>
    dsimp only at gI;simp only [gS.out,Exit.inBlock];split at gI
    · rename_i hj
      have:j=id:=by simpa using hj
      simp only [AC,M2] at gI;obtain ⟨rfl,rfl⟩:=gI;rw [rc this];exact hQ a' w' I1
    rename_i hj
    have:j≠id:=by simpa using hj
    simp only [AC,M2] at gI;obtain ⟨rfl,rfl⟩:=gI;rw [ut this];exact hQ a' w' I1
 | .loop live x,c,st,e,kA,hc,gI,a,w,ha,Q,hQ=>by
  cases c<;>simp only [gd,UV] at hc
  simp only [sE] at gI;split at gI
  · rename_i e1 st1 hr
    simp only [AC,M2] at gI;obtain ⟨rfl,rfl⟩:=gI;intro b k cs;obtain ⟨a',w',h1,h2⟩:=hL live x st _ _ hr _ nt im0 loc0 jb w0 a w hc ha b k cs;exact ⟨_,a',w',hQ a' w' h1,.of_steps (.one step_loop) h2⟩
  cases gI
 | .exit id,c,st,e,kA,hc,gI,a,w,ha,Q,hQ=>by
  cases c<;>simp only [gd,UV,beq_iff_eq] at hc
  subst hc;simp only [sE,AC,M2] at gI;obtain ⟨rfl,rfl⟩:=gI;exact wp_exit (hQ _ _ ha)
 | .ret,c,st,e,kA,hc,gI,a,w,ha,Q,hQ=>by
  cases c<;>simp only [gd,UV] at hc
  simp only [sE,AC,M2] at gI;obtain ⟨rfl,rfl⟩:=gI;exact wp_ret (hQ _ _ ha)
theorem O8 (hE:HV P F rec) (hL:B7 P prims rec) (ov:P.follows .mixedOrders=agP):B7 P prims (step F rec):=by
 intro live x st e kA h c nt im0 loc0 jb w0 a w hc ha b k cs;simp only [step] at h;cases hn:norm live st with
 |none=>rw [hn] at h;cases h
 |some st1=>
  rw [hn] at h;dsimp only at h;obtain ⟨im,loc,hk,EB⟩:=ha.ex;obtain ⟨cR,iF,sP⟩:=Us hn hk EB;have cJ:At im0 loc0 jb w0 nt st1 a w:=⟨im,cR,iF,sP⟩;cases hx:sE F rec x st1 with
  |none=>rw [hx] at h;cases h
  |some q=>
   obtain ⟨e1,st2⟩:=q;rw [hx] at h;have hw:=kq hE hL ov x c st1 e1 st2 hc hx a w cJ (fun e' a' w'=>e'=e1.out/\At im0 loc0 jb w0 nt st2 a' w') fun a' w' h=>⟨rfl,h⟩
   obtain ⟨e',a1,w1,⟨rfl,hq⟩,Gq⟩:=hw b (.inLoop c::k) cs;cases e1 with
   |normal=>dsimp only at h;obtain ⟨a',w',h1,h2⟩:=hL live x st2 e kA h c nt im0 loc0 jb w0 a1 w1 hc hq b k cs;exact ⟨a',w',h1,.of_steps (Steps.trans Gq (.one step_inLoop)) h2⟩
   |exit id=>simp only [AC,Out.code.injEq] at h;obtain ⟨rfl,rfl⟩:=h;exact ⟨a1,w1,hq,.pass (x:= .inLoop c) rfl (fun _ _=> .inl (by simp [gS.out])) Gq⟩
   |ret=>simp only [AC,Out.code.injEq] at h;obtain ⟨rfl,rfl⟩:=h;exact ⟨a1,w1,hq,.pass (x:= .inLoop c) rfl (fun _ _=> .inl (by simp [gS.out])) Gq⟩
def oE (P:Program):List RV->List ResultVar->Bool
 | [],[]=>agP
 | .tmp t::r,.tmp t'::s=>t==t'&&oE P r s
 | .cell t agg::r,.cell t' ty::s=>t==t'&&AB P ty agg&&oE P r s
 |_,_=>agS
def LF (tmps:Array Value):ResultVar->Sem Value
 | .tmp t=>pure (tmps.getD t undef)
 | .cell a t=>do loadVar t (<- asAddr (tmps.getD a undef))
theorem O9 {im:Im} {loc:Loc} {aA:bW} {agg:Option Nat} {p:PV} {u:Value} {r:nB} (hp:VR im loc p u) (h:ox aA agg p=agF r): ∃ad,u= .pointer (agF ad):=by cases hp<;>first|(simp [ox] at h;done)|exact ⟨_,rfl⟩
theorem SR.known {im:Im} {loc:Loc} {aA:bW} {fz:List Nat} {w:World} (h:SR im loc aA fz w) {r:nB} (hn:r.news=[]) (hw:r.wr=[]):jj im loc aA w r where
 bq:=h.bq
 tok:=fun t _ li hl=>h.de t li hl
 free:=fun t k hm=>by rw [hw] at hm;cases hm
 fresh:=fun j hj=>by rw [hn] at hj;simp at hj
 iE:=fun t u li lj k k' _ _=>h.iE t u li lj k k'
theorem LG {aA:bW} {agg:Option Nat} {p:PV} {r:nB} (h:ox aA agg p=agF r):r.news=[]/\r.wr=[]:=by
 unfold ox at h;split at h
 · split at h
   · split at h
     · rw [EQ] at h;obtain ⟨_,_,rfl⟩:=h;exact ⟨rfl,rfl⟩
     cases h
   · split at h
     · rw [EQ] at h;obtain ⟨_,_,rfl⟩:=h;exact ⟨rfl,rfl⟩
     cases h
   cases h
 · rw [EQ] at h;obtain ⟨_,_,rfl⟩:=h;exact ⟨rfl,rfl⟩
 cases h
theorem Q9 {im : Im} {loc : Loc} {st : St} {a : Act} {w : World} (j8 : SR im loc st.aA st.fz w) (ha : ER im loc st.env a.tmps) : ∀ {rs : List RV} {vs : List PV} {os : List ResultVar}, oE P rs os = agP -> nD st rs = agF vs ->
    ∃ us, (os.mapM (LF a.tmps)).run P w = .ok us w /\ eG im loc vs us
  | [], vs, os, hc, h => by
    cases os <;> simp only [oE, UV] at hc
    simp only [nD, AC] at h; subst h
    exact ⟨[], by simp, .nil⟩
  | r :: rs, vs, [], hc, h => by cases r <;> simp [oE] at hc
  | r :: rs, vs, o :: os, hc, h => by
    simp only [nD] at h
    split at h
    · rename_i v Lf h1 h2
      injection h with h; subst h
      have AG : ∃ u, (LF a.tmps o).run P w = .ok u w /\ VR im loc v u /\ oE P rs os = agP := by
        cases r with
        | tmp t =>
          cases o with
          | tmp t' =>
            simp only [oE, ww, beq_iff_eq] at hc
            obtain ⟨rfl, hc⟩ := hc
            simp only [D8, AC] at h1; subst h1
            exact ⟨_, rfl, ha t, hc⟩
          | cell _ _ => simp [oE] at hc
        | cell t agg =>
          cases o with
          | tmp t' => simp [oE] at hc
          | cell t' ty =>
            simp only [oE, ww, beq_iff_eq] at hc
            obtain ⟨⟨rfl, hag⟩, hc⟩ := hc
            simp only [D8, EQ] at h1
            obtain ⟨rr, h3, rfl⟩ := h1
            obtain ⟨g1, g2⟩ := LG h3
            obtain ⟨u, bI, ot, _⟩ := Jd (P := P) (ha t) hag h3 (j8.known g1 g2)
            obtain ⟨ad, had⟩ := O9 (ha t) h3
            refine ⟨u, ?_, ot, hc⟩
            simp only [LF, had, asAddr]
            rw [had] at bI
            simpa [Instr.loadAt, Instr.sureAddr] using bI
      obtain ⟨u, hu, ot, hc⟩ := AG
      obtain ⟨us, yw, alT⟩ := Q9 j8 ha hc h2
      refine ⟨u :: us, ?_, .cons _ _ _ _ ot alT⟩
      rw [List.mapM_cons]
      simp only [ab1, hu, abj, yw, agB]
    cases h
theorem EC {im:Im} {loc:Loc} {st:St} {a:Act} {w:World} {fn:Func} (j8:SR im loc st.aA st.fz w) (ha:ER im loc st.env a.tmps) {rs:List RV} {vs:List PV} (hc:oE P rs fn.results.toList=agP) (h:nD st rs=agF vs):
 ∃u,(results fn a.tmps).run P w= .ok u w/\VR im loc (results1 vs) u:=by
 obtain ⟨us,h1,h2⟩:=Q9 (P:=P) j8 ha hc h;have e:fn.results.mapM (LF a.tmps)=List.toArray<$>fn.results.toList.mapM (LF a.tmps):=Array.mapM_eq_mapM_toList;have h3:(fn.results.mapM (LF a.tmps)).run P w= .ok us.toArray w:=by rw [e];rw [map_eq_pure_bind,ab1,h1];rfl
 have AT:results fn a.tmps=(do let vs <- fn.results.mapM (LF a.tmps);pure (if h:vs.size=1 then vs[0] else .tuple vs)):=by
  unfold results
  congr 1
 rw [AT];simp only [ab1,h3,abj,agB];refine ⟨_,rfl,?_⟩;cases h2 with
 |nil=>exact .bS _ _ .nil
 |cons x u xs us g2 g3=>
  cases g3 with
  |nil=>exact g2
  |cons y v ys vs g4 g5=>exact .bS _ _ (.cons _ _ _ _ g2 (.cons _ _ _ _ g4 g5))
end
end Go.Vm
/- What the logical machine answers, the model answers. -/
namespace Go.Vm
def az (P:Program) (prims:FuncId->Bool) (x:aK) (f:FuncId):Bool:=
 match P.funcs[f]? with
 |some fn=>!(fn.name== "runtime.NumGoroutine")&&aak x.CO fn.ntmps&&oE P x.res fn.results.toList&&(match fn.body with|some c=>gd P prims fn.ntmps x.code c|none=>agS)
 |none=>agS
section
variable {P : Program} {F : kH} {rec : Task -> Option Out} {prims : FuncId -> Bool}
def ED (P:Program) (prims:FuncId->Bool) (F:kH):Prop:= ∀f x,F f=agF (.code x)->az P prims x f=agP
theorem JG: ∀(args:List PV) (i t:Nat),lk t (uu i args)=if i<=t then (args[t-i]?).getD .undef else .undef
 | [],i,t=>by simp [uu,lk]
 |v::r,i,t=>by
  simp only [uu,qM];rw [JG r (i+1) t]
  by_cases h:i=t
  · subst h;simp
  rw [ut h]
  by_cases h2:i<=t
  · rw [rc h2,rc (by omega)]
    have:t-i=(t- (i+1))+1:=by omega
    rw [this];simp
  rw [ut h2,ut (by omega)]
theorem GO {im:Im} {loc:Loc} {args:List PV} {us:List Value} (h:eG im loc args us) (n:Nat):ER im loc (uu 0 args) ((⟨us⟩:Array Value)++aaw n Go.undef):=by
 intro t;rw [JG];simp only [aap,if_true,Nat.sub_zero];cases ha:args[t]? with
 |none=>exact .undef _
 |some x=>
  obtain ⟨v,hv,hr⟩:=h.get t x ha;have:((⟨us⟩:Array Value)++aaw n Go.undef).getD t Go.undef=v:=by have df:=cm hv;simp only [aal];rw [Array.getElem?_append_left (by simpa using df)];simp [hv]
  rw [this];exact hr
theorem fU {f:FuncId} {fn:Func} {c:Code} {us:Array Value} {w:World} (hf:P.funcs[f]? =agF fn) (hn:(fn.name== "runtime.NumGoroutine")=agS) (hb:fn.body=agF c):(callFunc f us).run P w= .ok (.enter f us) w:=by
 unfold callFunc;have hn: ¬fn.name= "runtime.NumGoroutine" :=by simpa using hn
 simp [ab1,hf,hn,hb]
theorem O' (hE:HV P F rec) (hL:B7 P prims rec) (hT:ED P prims F) (ov:P.follows .mixedOrders=agP):B2 P (step F rec):=by
 intro f args aA fz v vg I0 h im loc w us j8 yw;simp only [step] at h;split at h
 · rename_i x hF
   have hc:=hT f x hF;unfold az at hc;cases hf:P.funcs[f]? with
   |none=>rw [hf] at hc;cases hc
   |some fn=>
    rw [hf] at hc;simp only [ww,aa2] at hc;obtain ⟨⟨⟨qG,hna⟩,AT⟩,kr⟩:=hc;cases hb:fn.body with
    |none=>rw [hb] at kr;cases kr
    |some c=>
     rw [hb] at kr;dsimp only at kr;refine .inr ⟨fU hf qG hb,calls_of_wp hf hb ?_⟩;split at h
     · rename_i bY
       have bY:(agD args)=x.CO:=by simpa using bY
       have hna:x.CO<=fn.ntmps:=by simpa using hna
       have ars:=yw.mI
       let st0:St:={env:=uu 0 args,aA,fz,kn:=agD aA}
       let a0:Act:={tmps:=(⟨us⟩:Array Value)++aaw (fn.ntmps- (⟨us⟩:Array Value).size) Go.undef,defers:=[]}
       have cJ:At im loc aA w fn.ntmps st0 a0 w:=by
        refine ⟨im,loc,⟨⟨j8,.refl _,.refl _,rfl,.refl _,rfl,IR _,fun _ _ _=>rfl,fun _ _ h=> .inl h,fun _ _ h=> .inl h,fun t li k hl hs lJ=> .inr ⟨t,li,k,hl,hs,lJ,rfl⟩⟩,rfl,IR _,fun t li hl=>?_⟩,⟨GO yw _,rfl,?_⟩⟩
        · obtain ⟨k,hk,_⟩:=j8.de t li hl
          exact cm hk
        simp only [a0,agb,abE]
        show (agD us)+_=_;have:(⟨us⟩:Array Value).size=(agD us):=rfl;rw [this];omega
       have fin: ∀(st:St),(nD st x.res).map (fun vs=>Out.func (results1 vs) st.aA st.fz)=agF (.func v vg I0)-> ∀a' w',At im loc aA w fn.ntmps st a' w'->
        a'.defers=[]/\ ∃u,(results fn a'.tmps).run P w'= .ok u w'/\ ∃v',Ending.returned u= .returned v'/\ ∃dP bg,sR im loc aA w v vg I0 dP bg w' v':=by
        intro st bM a' w' cJ
        obtain ⟨dP,bg,hk,EB⟩:=cJ.ex;rw [EQ] at bM;obtain ⟨vs,TQ,he⟩:=bM;simp only [Out.func.injEq] at he;obtain ⟨rfl,rfl,rfl⟩:=he;obtain ⟨u,hu,ot⟩:=EC (P:=P) (fn:=fn) hk.kept.sr EB.env AT TQ;have K:=hk.kept;exact ⟨EB.defers,u,hu,u,rfl,dP,bg,⟨K.fY,K.dw,ot,K.sr,K.os,K.tape,K.output,K.size,K.frame,K.dB,K.mJ,K.own⟩⟩
       split at h
       · rename_i st gI
         exact kq hE hL ov x.code c st0 .normal st kr gI a0 w cJ _ fun a' w' abO=>fin st h a' w' abO
       · rename_i st gI
         exact kq hE hL ov x.code c st0 .ret st kr gI a0 w cJ _ fun a' w' abO=>fin st h a' w' abO
       cases h
     cases h
 · rename_i p hF
   obtain ⟨fn,c,hf,qG,hb,key⟩:=hE.iZ.2 f p hF;rw [EQ] at h;obtain ⟨⟨v1,s1,z1⟩,hp,he⟩:=h;simp only [Out.func.injEq] at he;obtain ⟨rfl,rfl,rfl⟩:=he;exact key args aA fz _ _ _ hp im loc w us j8 yw
 cases h
theorem aaD (hT:ED P prims F) (xA:sS P F) (ov:P.follows .mixedOrders=agP): ∀n,B2 P (run F n)/\B7 P prims (run F n)
 |0=>⟨fun f args aA fz v vg I0 h=>by simp [run] at h,fun live x st e kA h=>by simp [run] at h⟩
 |n+1=>by obtain ⟨h1,h2⟩:=aaD hT xA ov n;have hE:HV P F (run F n):=⟨h1,xA⟩;exact ⟨O' hE h2 hT ov,O8 hE h2 ov⟩
theorem B8 (hT:ED P prims F) (xA:sS P F) (ov:P.follows .mixedOrders=agP) {n:Nat} {f:FuncId} {args:List PV} {v:PV} {vg:bW} {I0:List Nat} (h:run F n (.func f args [] [])=agF (.func v vg I0))
 {im:Im} {w:World} {us:List Value} (Ug: ∀b o,im b=agF o->w.heap[b]? =agF o) (yw:eG im fE args us):
 Calls P f ⟨us⟩ w fun e w'=> ∃u,e= .returned u/\(∃dP bg,VR dP bg v u/\SR dP bg vg I0 w')/\w'.os=w.os/\Tape w w'/\w'.output=w.output/\w.heap.size<=w'.heap.size/\ ∀b,b<w.heap.size->w'.heap[b]? =w.heap[b]?:=by
 have key:=(aaD hT xA ov n).1 f args [] [] v vg I0 h im fE w us (SR.empty Ug) yw;rcases key with ⟨u,w',h1,h2⟩|⟨h1,h2⟩
 · exfalso
   cases n with
   |zero=>simp [run] at h
   |succ n=>
    have h:step F (run F n) (.func f args [] [])=agF (.func v vg I0):=h;simp only [step] at h;split at h
    · rename_i x hF
      have hc:=hT f x hF;unfold az at hc;cases hf:P.funcs[f]? with
      |none=>rw [hf] at hc;cases hc
      |some fn=>
       rw [hf] at hc;simp only [ww,aa2] at hc;cases hb:fn.body with
       |none=>rw [hb] at hc;exact absurd hc.2 (by simp)
       |some c=>rw [fU hf hc.1.1.1 hb] at h1;cases h1
    · rename_i p hF
      obtain ⟨fn,c,hf,qG,hb,key⟩:=xA.2 f p hF;rw [fU hf qG hb] at h1;cases h1
    cases h
 refine h2.mono fun e w' ⟨u,he,dP,bg,hp⟩=>⟨u,he,⟨dP,bg,hp.vr,hp.sr⟩,hp.os,hp.tape,hp.output,hp.size,fun b hb=>hp.frame b hb fun t li k hl=>by cases hl⟩
end
end Go.Vm
/- Functions that are known without their code: math/bits.Add64 and Sub64, slices.Clone. -/
namespace Go.Vm
section
variable {P : Program}
theorem LH {im:Im} {w:World} {v:PV} {u:Value} (j8:SR im fE [] [] w) (hv:VR im fE v u):sR im fE [] w v [] [] im fE w u where
 fY:= .refl _
 dw:= .refl _
 vr:=hv
 sr:=j8
 os:=rfl
 tape:= .refl _
 output:=rfl
 size:=IR _
 frame:=fun _ _ _=>rfl
 dB:=fun _ _ h=> .inl h
 mJ:=fun _ _ h=> .inl h
 own:=fun t li k h=>by cases h
theorem LJ {im:Im} {loc:Loc} {k1 k2 k3:IntKind} {a b c:Int} {us:List Value} (h:eG im loc [.int k1 a,.int k2 b,.int k3 c] us):us=[.int k1 a,.int k2 b,.int k3 c]:=by
 cases h with
 |cons _ _ _ _ h1 h=>
  cases h with
  |cons _ _ _ _ h2 h=>
   cases h with
   |cons _ _ _ _ h3 h=>cases h;rw [h1.eY,h2.eY,h3.eY]
theorem LK {f:FuncId} {fn:Func} (hf:P.funcs[f]? =agF fn) (qG:(fn.name== "runtime.NumGoroutine")=agS) (hb:fn.body.isNone=agP) (hn:Extern.findNext fn=agO) (he:Extern.find fn=agF add64Entry):zP P f zB:=by
 intro args v news hp im w us j8 yw;unfold zB at hp;split at hp
 · rename_i a b c
   split at hp
   · rename_i hc
     have hc:c<=1:=by simpa using hc
     simp only [AC,M2] at hp;obtain ⟨rfl,rfl⟩:=hp;obtain rfl:=LJ yw;refine .inl ⟨_,w,?_,im,fE,LH j8 (.bS _ [.int .u64 (((a:Int)+b+c)%18446744073709551616),.int .u64 (((a:Int)+b+c) / 18446744073709551616)] (.cons _ _ _ _ ?_ (.cons _ _ _ _ ?_ .nil)))⟩
     · rw [run_callFunc_extern hf qG hb hn he]
       have:=run_add64 (P:=P) (a:Int) b c (by omega) (by omega) (by omega) (by omega) w;simp only [aaX];rw [this];rfl
     · have:abY ((a+b+c)%18446744073709551616)=((a:Int)+b+c)%18446744073709551616:=by
        simp only [aaX];omega
       rw [this];exact .int _ _
     have:abY ((a+b+c) / 18446744073709551616)=((a:Int)+b+c) / 18446744073709551616:=by
      simp only [aaX];omega
     rw [this];exact .int _ _
   cases hp
 cases hp
def xcA (esz:Nat):ji:= .region agO [⟨agF 2,.Ql (.c (.sl esz agP [])),agO⟩] [0]
def xcN (esz:Nat):ji:= .seq (.region agO [⟨agF 2,.Ql (.c (.sl esz agP [])),agO⟩] [2]) .ret
def xcC (esz:Nat) (zero:Row):ji:= .seq (.region agO [⟨agF 5,.Az esz 0 zero [],agO⟩,⟨agF 6,.Ql (.t 0),agO⟩,⟨agF 7,.append esz (.t 5) (.t 6),agO⟩,⟨agF 2,.Ql (.t 7),agO⟩] [2]) .ret
def Q' (P:Program) (o:Oper):Bool:=
 o.guard.isNone&&o.dst==agF 4&&(match o.op with
  | .binOp .eql t x (.const (.slice agO 0 0)) _=>bn (.t 3) x&&rI P t
  |_=>agS)
def JH (P:Program) (esz:Nat) (zero:Row) (f:FuncId):Bool:=
 match P.funcs[f]? with
 |some fn=>!(fn.name== "runtime.NumGoroutine")&&aaS 7 fn.ntmps&&oE P [.tmp 2] fn.results.toList&&(match fn.body with
  |some (.seq a (.seq (.seq (.region _ ops agS) (.cond c n .skip)) r))=>
   gd P (fun _=>agP) fn.ntmps (xcA esz) a&&gd P (fun _=>agP) fn.ntmps (xcN esz) n&&gd P (fun _=>agP) fn.ntmps (xcC esz zero) r&&bn (.t 4) c&&
    (match ops.toList with
    | [o1,o2]=>qN P (fun _=>agP) fn.ntmps ops ⟨agF 3,.Ql (.t 0),agO⟩ o1&&Q' P o2
    |_=>agS)
  |_=>agS)
 |none=>agS
theorem Ut:HV P (fun _=>agO) (fun _=>agO):=⟨(fun _ _args _sto _fz _v _sto' _fz' h=>by cases h),⟨(fun _ _k _p h=>by cases h),(fun _ _p h=>by cases h)⟩⟩
theorem Nr {prims:FuncId->Bool}:B7 P prims (fun _=>agO):=fun _ _x _st _e _st' h=>by cases h
theorem mK (ov:P.follows .mixedOrders=agP) {esz:Nat} {zero:Row} {f:FuncId} (hc:JH P esz zero f=agP):zP P f (fk esz):=by
 intro args v news hp im w us j8 yw;unfold JH at hc;cases hf:P.funcs[f]? with
 |none=>rw [hf] at hc;cases hc
 |some fn=>
  rw [hf] at hc;simp only [ww,aa2] at hc;obtain ⟨⟨⟨qG,hnt⟩,AT⟩,kr⟩:=hc;have hnt:7<fn.ntmps:=by simpa using hnt
  split at kr
  · rename_i ca id ops cc cn cr hb
    simp only [ww] at kr;obtain ⟨⟨⟨⟨hA,hN⟩,hC⟩,M7⟩,O5⟩:=kr;split at O5
    · rename_i o1 o2 hl
      simp only [ww] at O5;obtain ⟨ho1,ho2⟩:=O5;have alW: ∃e c rows,args=[.sl e c rows]:=by
       unfold fk at hp;split at hp
       · exact ⟨_,_,_,rfl⟩
       cases hp
      obtain ⟨e,cl,rows,rfl⟩:=alW;obtain ⟨u,rfl⟩: ∃u,us=[u]:=by
       cases yw with
       |cons _ u _ us h1 h2=>cases h2;exact ⟨u,rfl⟩
      refine .inr ⟨fU hf qG hb,calls_of_wp hf hb ?_⟩
      let st0:St:={env:=[(0,.sl e cl rows)],aA:=[],fz:=[],kn:=0}
      let a0:Act:={tmps:=(⟨[u]⟩:Array Value)++aaw (fn.ntmps- (⟨[u]⟩:Array Value).size) Go.undef,defers:=[]}
      have alX:At im fE [] w fn.ntmps st0 a0 w:=by refine ⟨im,fE,⟨⟨j8,.refl _,.refl _,rfl,.refl _,rfl,IR _,fun _ _ _=>rfl,fun _ _ h=> .inl h,fun _ _ h=> .inl h,fun t li k hl=>by cases hl⟩,rfl,IR _,fun t li hl=>by cases hl⟩,⟨GO yw _,rfl,?_⟩⟩;simp only [a0,agb,abE];show 1+(fn.ntmps-1)=_;omega
      have fin: ∀(st:St) (v':PV),lk 2 st.env=v'-> ∀a' w',At im fE [] w fn.ntmps st a' w'->
       a'.defers=[]/\ ∃u,(results fn a'.tmps).run P w'= .ok u w'/\ ∃v'':Value,Ending.returned u= .returned v''/\ ∃dP bg,sR im fE [] w v' st.aA st.fz dP bg w' v'':=by
       intro st v' hv' a' w' cJ
       obtain ⟨dP,bg,hk,EB⟩:=cJ.ex;obtain ⟨u,hu,ot⟩:=EC (P:=P) (fn:=fn) hk.kept.sr EB.env AT (vs:=[v']) (by simp [nD,D8,hv']);have K:=hk.kept;exact ⟨EB.defers,u,hu,u,rfl,dP,bg,⟨K.fY,K.dw,ot,K.sr,K.os,K.tape,K.output,K.size,K.frame,K.dB,K.mJ,K.own⟩⟩
      refine wp_seq ?_;refine kq Ut Nr ov (xcA esz) _ st0 .normal {env:=[(0,.sl e cl rows)],aA:=[],fz:=[],kn:=0} hA rfl a0 w alX _ fun a1 w1 alY=>?_
      refine wp_seq (wp_seq ?_);refine wp_region ?_;have aih:ops= #[o1,o2]:=agm (by simpa using hl);subst aih;obtain ⟨DJ,cR,iF,JI⟩:=alY.ex;have JJ:=JI.env 0;have JJ:VR DJ cR (.sl e cl rows) (a1.tmps.getD 0 Go.undef):=JJ;obtain ⟨ad,cap,Ui,y4,Qn,kL⟩:=JJ.oD;unfold qN at ho1;simp only [ww,beq_iff_eq] at ho1;obtain ⟨⟨⟨Uu,_⟩,hg1⟩,Ra⟩:=ho1;have alZ:o1.guard=agO:=by
       cases hg:o1.guard with
       |none=>rfl
       |some q=>rw [hg] at hg1;simp [uA] at hg1
      have aii: ∃x,(o1.op= .move x\/o1.op= .assign x)/\bn (.t 0) x=agP:=by cases ho:o1.op<;>rw [ho] at Ra<;>simp only [wJ] at Ra<;>first|exact ⟨_,.inl rfl,Ra⟩|exact ⟨_,.inr rfl,Ra⟩|simp at Ra
      obtain ⟨x1,Qs,abP⟩:=aii;have al0:a1.eval x1= .slice ad (agD rows) cap:=by
       have h:=LB (a:=a1) (e:=[(0,PV.sl e cl rows)]) (.t 0) (fun t ht=>by injection ht with ht;subst ht;exact JI.env 0) x1 abP;cases x1 with
       |tmp t=>
        have:(0:Nat)=t:=by simpa [bn] using abP
        subst this;simpa [Act.eval] using Ui
       |_=>simp [bn] at abP
      have aij:(execOp a1.eval o1).run P w1= .ok (.value (.slice ad (agD rows) cap)) w1:=by rcases Qs with h|h<;>simp [execOp,h,al0]
      unfold Q' at ho2;simp only [ww,beq_iff_eq,Option.isNone_iff_eq_none] at ho2;obtain ⟨⟨hg2,hd2⟩,Uv⟩:=ho2;split at Uv
      case h_2=>cases Uv
      rename_i ty x2 ub aik;simp only [ww] at Uv;obtain ⟨hx2,bM⟩:=Uv;have al1:x2= .tmp 3:=by
       cases x2 with
       |tmp t=>
        have:(3:Nat)=t:=by simpa [bn] using hx2
        subst this;rfl
       |_=>simp [bn] at hx2
      subst al1;unfold rI at bM;split at bM
      case h_2=>cases bM
      rename_i el ny;have al2:a1.tmps.size=fn.ntmps:=JI.Lh
      let a2:Act:=a1.put (agF 3) (.slice ad (agD rows) cap)
      have HH:a2.tmps.getD 3 Go.undef= .slice ad (agD rows) cap:=by simp only [a2,Act.put,aal];rw [aav (by omega)];rfl
      have aim:(execOp a2.eval o2).run P w1= .ok (.value (.bool ad.isNone)) w1:=by
       simp only [execOp,aik];refine eu ?_;have e3:a2.eval (.tmp 3)= .slice ad (agD rows) cap:=by simpa [Act.eval] using HH
       rw [e3];have hg:(eqGuard .eql ty (.tmp 3) (.const (.slice agO 0 0)) (.slice ad (agD rows) cap) (a2.eval (.const (.slice agO 0 0)))).run P w1= .ok () w1:=by unfold eqGuard;simp
       simp only [ab1,hg,abj];exact Lib.run_eql_slice_nil w1 ty el ad (agD rows) cap 0 0 ny
      let a3:Act:=a2.put (agF 4) (.bool ad.isNone)
      have abR:At im fE [] w fn.ntmps {env:=[(0,.sl e cl rows)],aA:=[],fz:=[],kn:=0} a3 w1:=by
       refine ⟨DJ,cR,iF,⟨fun t=>?_,JI.defers,by simp [a3,a2,Act.put,al2]⟩⟩;have h:=JI.env t;simp only [qM] at h ⊢
       by_cases ht:t=0
       · subst ht
         simp only [if_true] at h ⊢;simpa [a3,a2,Act.put,aaj] using h
       rw [ut (fun e=>ht e.symm)];exact .undef _
      have IY:a3.eval cc= .bool ad.isNone:=by
       cases cc with
       |tmp t=>
        have:(4:Nat)=t:=by simpa [bn] using M7
        subst this;simp only [Act.eval,a3,Act.put,aal];rw [aav (by simp [a2,Act.put];omega)];rfl
       |_=>simp [bn] at M7
      have abS:List.range #[o1,o2].size=[0,1]:=rfl;rw [abS];simp only [wpOps];have e0:(#[o1,o2]:Array Oper)[0]? =agF o1:=rfl;have e1:(#[o1,o2]:Array Oper)[1]? =agF o2:=rfl;rw [e0];dsimp only;have hw1:Region.wanted o1 (yielded #[o1,o2] a1.tmps)=agP:=by unfold Region.wanted;rw [alZ]
      rw [hw1,rc rfl];refine .inl ?_;unfold Oper.wp;rw [aij,Oper.upon_value,<- Uu,e1];dsimp only;have Ue:Region.wanted o2 (yielded #[o1,o2] (a1.put (agF 3) (.slice ad (agD rows) cap)).tmps)=agP:=by unfold Region.wanted;rw [hg2]
      rw [Ue,rc rfl];refine .inl ?_;rw [show a1.put (agF 3) (.slice ad (agD rows) cap)=a2 from rfl,aim,Oper.upon_value,hd2];show (Code.cond cc cn .skip).wp P _ a3 w1;cases had:ad with
      |none=>
       have xx:rows=[]:=by
        rcases rows with _|⟨r,rs⟩
        · rfl
        obtain ⟨b,o,h,_⟩:=kL (by simp)
        rw [had] at h;cases h
       subst xx;simp only [fk,AC,M2] at hp;obtain ⟨rfl,rfl⟩:=hp;refine wp_cond_true (by rw [IY,had];rfl) ?_;refine kq Ut Nr ov (xcN esz) _ _ .ret {env:=[(2,.sl esz agP [])],aA:=[],fz:=[],kn:=0} hN rfl a3 w1 abR _ fun a4 w4 Rb=>?_
       obtain ⟨hdf,u',BJ,v'',al3,dP,bg,Pa⟩:=fin _ _ rfl a4 w4 Rb;refine ⟨hdf,u',BJ,v'',al3,dP,bg.set 1 ⟨0,0,esz,0,0⟩,?_⟩;have Ns: ∀t,bg t=agO:=fun t=>by
        cases hl:bg t with
        |none=>rfl
        |some li=>obtain ⟨k,hk,_⟩:=Pa.sr.de t li hl;simp at hk
       obtain ⟨ad',cD,hv3,_,al4,_⟩:=Pa.vr.oD;have Gg:cD=0:=by simpa using al4 rfl
       subst Gg;exact {
        fY:=Pa.fY,dw:=fun t li h=>by cases h
        vr:=by rw [hv3];exact .own 1 esz 0 0 0 agS ⟨0,0,esz,0,0⟩ ad' 0 (Loc.eN _ _ _) rfl (IR _) (IR _) (IR _) (fun h=>by cases h) (.inl rfl)
        sr:={
         bq:=Pa.sr.bq
         de:=fun t li h=>by
          unfold Loc.set at h;split at h
          · rename_i ht;subst ht;injection h with h;subst h
            exact ⟨_,rfl,rfl,rfl,fun h=>absurd rfl h⟩
          rw [Ns t] at h;cases h
         iE:=fun t u li lj k k' h h' hs uw Dp=>by
          unfold Loc.set at h;split at h
          · rename_i ht;subst ht;simp at hs;subst hs;cases Dp
          rw [Ns t] at h;cases h
         free:=fun t li k h hs Dp=>by
          unfold Loc.set at h;split at h
          · rename_i ht;subst ht;simp at hs;subst hs;cases Dp
          rw [Ns t] at h;cases h}
        os:=Pa.os,tape:=Pa.tape,output:=Pa.output,size:=Pa.size,frame:=Pa.frame,dB:=Pa.dB
        mJ:=fun t li h=> .inr (aap _)
        own:=fun t li k h hs Dp=>by
         unfold Loc.set at h;split at h
         · rename_i ht;subst ht;simp at hs;subst hs;cases Dp
         rw [Ns t] at h;cases h}
      |some ad'=>
       refine wp_cond_false (by rw [IY,had];rfl) (wp_skip ?_);rcases rows with _|⟨r,rs⟩
       · simp only [fk,AC,M2] at hp
         obtain ⟨rfl,rfl⟩:=hp;exact kq Ut Nr ov (xcC esz zero) _ _ .ret {env:=[(2,.own 1 esz 0 0 0 agS)],aA:=[.arr esz [],.arr esz []],fz:=[],kn:=0} hC rfl a3 w1 abR _ fun a4 w4 Rb=>fin _ _ rfl a4 w4 Rb
       simp only [fk] at hp
       split at hp
       case isFalse=>cases hp
       rename_i Nf;simp only [ww,Nat.beq_eq,ab5] at Nf;obtain ⟨rfl,k8⟩:=Nf;simp only [AC,M2] at hp;obtain ⟨rfl,rfl⟩:=hp;have hap:iQ [.arr e []] [] e (.own 0 e 0 0 0 agP) (.sl e cl (r::rs))=agF {v:= .own 1 e 0 (0+(agD rs+1)) (0+(agD rs+1)) agS,news:=[.arr e (r::rs)],rd:=[0]}:=by
        have h1:Do e e=agP:=by simp
        have h2:aak (agD rs+1) 0=agS:=rfl;have h3:aak (0+(agD rs+1)) lI=agP:=by simpa using k8
        simp only [iQ,rowsOf,h1,if_true];simp [h2,k8,iP]
       refine kq Ut Nr ov (xcC e zero) _ _ .ret {env:=[(2,.own 1 e 0 (0+(agD rs+1)) (0+(agD rs+1)) agS)],aA:=[.arr e [],.arr e (r::rs)],fz:=[],kn:=0} hC ?_ a3 w1 abR _ fun a4 w4 Rb=>fin _ _ rfl a4 w4 Rb
       simp only [xcC,sE,kZ,mf,wanted,wH,bo,fj.ev,lk];simp [pK,XR.ok,uZ,XR.next,iK,sD,fR,lk,hap]
    cases O5
  cases kr
end
end Go.Vm
/- slices.Insert of one row: what it leaves of the memory. -/
namespace Go.Vm
section
variable {P : Program} {im dP : Im} {loc bg : Loc} {aA : bW} {fz : List Nat} {w w' : World}
theorem BR.fH {li:LI} {k:jL} (h:BR im loc w li k) (hi:nE im dP) (hl:lX loc bg) (hw:k.bA=agP->w'.heap[li.de]? =w.heap[li.de]?):BR dP bg w' li k:=by
 cases hs:k.bA with
 |true=>exact h.mono hi hl (hw hs)
 |false=>
  cases k with
  |arr e rows=>
   cases rows with
   |nil=>exact ⟨h.1,h.2.1,fun dE=>absurd rfl dE⟩
   |cons r rs=>cases hs
  |box cs=>cases hs
  |map es=>cases hs
  |dead=>trivial
theorem B9 {r:nB} {t:Nat} {u:Value} (j8:SR im loc aA fz w) (he:sM im loc aA w r dP bg w') (qt:r.fr=[]) (hw:r.wr=[(t,.dead)]) (ht:t<agD aA) (hv:VR dP bg r.v u):
 sR im loc aA w r.v (aA.set t .dead++r.news) fz dP bg w' u:=by
 have bY:(aA.set t .dead).length=(agD aA):=by simp
 have old: ∀t' li,loc t'=agF li->t'<(agD aA):=fun t' li h=>by obtain ⟨k,hk,_⟩:=j8.de t' li h;exact (If.1 hk).1
 have Pb: ∀t' li k,loc t'=agF li->(aA.set t .dead++r.news)[t']? =agF k->k.bA=agP->t'≠t/\aA[t']? =agF k:=by
  intro t' li k h hk hs;have df:=old t' li h;rw [NE (by omega),adc] at hk;split at hk
  · first|(injection hk with hk;subst hk;cases hs)|(split at hk<;>first|(injection hk with hk;subst hk;cases hs)|cases hk)
  rename_i dE;exact ⟨fun e=>dE e.symm,hk⟩
 have Pc: ∀t' k,agD aA<=t'->(aA.set t .dead++r.news)[t']? =agF k->r.news[t'-(agD aA)]? =agF k:=by
  intro t' k h hk
  rwa [aa9 (by omega),bY] at hk
 have GP: ∀t' li,bg t'=agF li->loc t'=agF li\/(agD aA<=t'/\t'=agD aA+(t'-(agD aA))):=by
  intro t' li h;rcases he.kJ t' li h with h|⟨h,_⟩
  · exact .inl h
  exact .inr ⟨h,by omega⟩
 have imn: ∀b o,dP b=agF o->im b=agF o\/w.heap.size<=b:=by
  intro b o h;rcases he.dB b o h with h|h|⟨t0,li,k,h,_⟩
  · exact .inl h
  · exact .inr h
  rw [qt] at h;cases h
 have aio: ∀t' li k,loc t'=agF li->aA[t']? =agF k->t'≠t->k.bA=agP->BR im loc w li k->w'.heap[li.de]? =w.heap[li.de]?:=by
  intro t' li k hl hk dE hs hb;refine he.frame li.de (hb.lt hs) fun t0 k1 l0 k0 hm IZ hk0 Gn e=>?_
  rw [hw] at hm;obtain ⟨rfl,rfl⟩:t0=t/\k1= .dead:=by simpa using hm
  exact dE (j8.iE _ _ _ _ _ _ hl IZ hk hk0 hs Gn e.symm)
 have Uw: ∀t' li k,bg t'=agF li->agD aA<=t'->r.news[t'-(agD aA)]? =agF k->BR dP bg w' li k/\
  (k.bA=agP->dP li.de=agO/\(w.heap.size<=li.de\/ ∃lt k0,loc t=agF lt/\aA[t]? =agF k0/\k0.bA=agP/\lt.de=li.de)):=by
  intro t' li k hl kY hk;obtain ⟨h1,h2⟩:=he.news (t'-(agD aA)) k li hk (by rw [show (agD aA)+(t'-(agD aA))=t' by omega];exact hl);refine ⟨h1,fun hs=>⟨(h2 hs).1,?_⟩⟩;rcases (h2 hs).2 with h|⟨t0,lt,k0,hm,a,b,c,d⟩
  · exact .inl h
  rw [hw] at hm
  obtain rfl:t0=t:=by have:=aat.1 hm;injection this
  exact .inr ⟨lt,k0,a,b,c,d⟩
 have apart: ∀t1 u1 li lj k k',loc t1=agF li->t1≠t->aA[t1]? =agF k->k.bA=agP->bg u1=agF lj->agD aA<=u1->r.news[u1-(agD aA)]? =agF k'->k'.bA=agP->li.de≠lj.de:=by
  intro t1 u1 li lj k k' hl dE hk hs kM kY HX uw e;obtain ⟨k2,BZ,hb⟩:=j8.de t1 li hl;rw [hk] at BZ;injection BZ with BZ;subst BZ;rcases ((Uw u1 lj k' kM kY HX).2 uw).2 with h|⟨lt,k0,a,b,c,d⟩
  · have:=hb.lt hs;omega
  exact dE (j8.iE _ _ _ _ _ _ hl a hk b hs c (by rw [e,d]))
 exact {
  fY:=he.fY,dw:=he.dw,vr:=hv
  sr:={
   bq:=he.bq
   de:=fun t' li h=>by
    rcases GP t' li h with ho|⟨kY,_⟩
    · obtain ⟨k,hk,hb⟩:=j8.de t' li ho
      have df:=old t' li ho
      by_cases e:t'=t
      · subst e
        exact ⟨.dead,by rw [NE (by omega),List.getElem?_set_self (by omega)],trivial⟩
      refine ⟨k,by rw [NE (by omega),abx (fun x=>e x.symm)];exact hk,hb.fH he.fY he.dw fun hs=>aio t' li k ho hk e hs hb⟩
    have hn:t'-(agD aA)<(agD r.news):=by
     rcases he.kJ t' li h with ho|⟨_,h2⟩
     · have:=old t' li ho;omega
     omega
    obtain ⟨hb,_⟩:=Uw t' li _ h kY (v6 hn);exact ⟨_,by rw [aa9 (by omega),bY];exact v6 hn,hb⟩
   iE:=fun t1 u1 li lj k k' hl kM hk HX hs uw e=>by
    rcases GP t1 li hl with h1|⟨h1,_⟩<;>rcases GP u1 lj kM with h2|⟨h2,_⟩
    · obtain ⟨n1,e1⟩:=Pb _ _ _ h1 hk hs
      obtain ⟨n2,e2⟩:=Pb _ _ _ h2 HX uw;exact j8.iE _ _ _ _ _ _ h1 h2 e1 e2 hs uw e
    · obtain ⟨n1,e1⟩:=Pb _ _ _ h1 hk hs
      exact absurd e (apart _ _ _ _ _ _ h1 n1 e1 hs kM h2 (Pc _ _ h2 HX) uw)
    · obtain ⟨n2,e2⟩:=Pb _ _ _ h2 HX uw
      exact absurd e.symm (apart _ _ _ _ _ _ h2 n2 e2 uw hl h1 (Pc _ _ h1 hk) hs)
    have:=he.distinct (t1-(agD aA)) (u1-(agD aA)) k k' li lj (Pc _ _ h1 hk) (Pc _ _ h2 HX) hs uw (by rw [show (agD aA)+(t1-(agD aA))=t1 by omega];exact hl) (by rw [show (agD aA)+(u1-(agD aA))=u1 by omega];exact kM) e
    omega
   free:=fun t' li k hl hk hs hz=>by
    rcases GP t' li hl with h1|⟨h1,_⟩
    · obtain ⟨n1,e1⟩:=Pb _ _ _ h1 hk hs
      obtain ⟨k2,BZ,hb⟩:=j8.de t' li h1;rw [e1] at BZ;injection BZ with BZ;subst BZ;have h0:=j8.free t' li k h1 e1 hs hz;cases hi:dP li.de with
      |none=>rfl
      |some o=>
       rcases imn _ _ hi with h|h
       · rw [h0] at h;cases h
       have:=hb.lt hs;omega
    exact ((Uw t' li k hl h1 (Pc _ _ h1 hk)).2 hs).1}
  os:=he.os,tape:=he.tape,output:=he.output,size:=he.size
  frame:=fun b hb h=>he.frame b hb fun t0 k li k0 hm hl hk hs=>h t0 li k0 hl hk hs
  dB:=fun b o h=>by
   rcases imn b o h with h|h
   · exact .inl h
   exact .inr (.inl h)
  mJ:=fun t' li h=>by
   rcases GP t' li h with h|⟨h,_⟩
   · exact .inl h
   exact .inr h
  own:=fun t' li k hl hk hs=>by
   rcases GP t' li hl with h1|⟨h1,_⟩
   · obtain ⟨n1,e1⟩:=Pb _ _ _ h1 hk hs
     exact .inr ⟨t',li,k,h1,e1,hs,rfl⟩
   rcases ((Uw t' li k hl h1 (Pc _ _ h1 hk)).2 hs).2 with h|⟨lt,k0,a,b,c,d⟩
   · exact .inl h
   exact .inr ⟨t,lt,k0,a,b,c,d⟩}
theorem SR.GQ (h:SR im loc aA fz w):loc (agD aA)=agO:=by
 cases hl:loc (agD aA) with
 |none=>rfl
 |some li=>obtain ⟨k,hk,_⟩:=h.de _ _ hl;simp at hk
theorem Pd {t e:Nat} {li:LI} {rows L:List Row} {arr fin:Array Value} {el:TypeId} (j8:SR im loc aA fz w) (hl:loc t=agF li) (bM:aA[t]? =agF (.arr e rows)) (dE:rows≠[]) (hf:has fz t=agS)
 (ha:w.heap[li.de]? =agF (.cells arr el (0,0))) (hh:w'.heap=w.heap.setIfInBounds li.de (.cells fin el (0,0))) (ho:w'.os=w.os) (ht:Tape w w') (hp:w'.output=w.output)
 (oz:fin.size=li.sz) (u6:li.sh+agD L*e<=li.sz) (hr:bw (fun k=>fin[k]?) li.sh e L):
 sM im loc aA w {v:= .own (agD aA) e 0 (agD L) (agD L) agS,news:=[.arr e L],wr:=[(t,.dead)]} im (loc.set (agD aA) ⟨li.de,li.sh,e,agD L,li.sz⟩) w':=by
 have df:=(PP.1 ha).1;have zK:(jL.arr e rows).bA=agP:=mX dE;have AJ:=j8.free t li _ hl bM zK hf;have QF:=j8.GQ;exact {
  fY:= .refl _,dw:=Loc.xj _ QF
  bq:=fun b o hb=>by
   have h1:=j8.bq b o hb;have HI:li.de≠b:=fun e=>by rw [e,hb] at AJ;cases AJ
   rw [hh,aaj,ut HI];exact h1
  dB:=fun _ _ h=> .inl h,os:=ho,tape:=ht,output:=hp
  size:=by rw [hh];simp
  OJ:=fun t' k hm hs=>by
   obtain ⟨rfl,rfl⟩:t'=t/\k= .dead:=by simpa using hm
   cases hs
  frame:=fun b _ hb=>by have HI:=hb t .dead li _ (aat.2 rfl) hl bM zK;rw [hh,aaj,ut HI]
  wr:=fun t' k li hm kM=>by
   obtain ⟨rfl,rfl⟩:t'=t/\k= .dead:=by simpa using hm
   trivial
  kJ:=fun t' l h=>by
   unfold Loc.set at h;split at h
   · rename_i e;subst e;exact .inr ⟨IR _,by simp⟩
   exact .inl h
  news:=BU fun j k hj=>by
   cases j with
   |zero=>simp at hj;subst hj;refine ⟨_,Loc.eN _ _ _,⟨rfl,rfl,fun _=>⟨fin,el,by rw [hh];simp [df],oz,u6,hr⟩⟩,fun _=>⟨AJ,.inr ⟨t,li,_,aat.2 rfl,hl,bM,zK,rfl⟩⟩⟩
   |succ j=>simp at hj
  distinct:=fun i j ki kj li lj h1 h2 _ _ _ _ _=>by cases i<;>cases j<;>simp at h1 h2<;>rfl}
theorem Pe {t e:Nat} {L:List Row} {fin:Array Value} {el:TypeId} (j8:SR im loc aA fz w)
 (hh:w'.heap=w.heap.push (.cells fin el (0,0))) (ho:w'.os=w.os) (ht:Tape w w') (hp:w'.output=w.output)
 (u6:(agD L)*e<=fin.size) (hr:bw (fun k=>fin[k]?) 0 e L):
 sM im loc aA w {v:= .own (agD aA) e 0 (agD L) (agD L) agS,news:=[.arr e L],wr:=[(t,.dead)]} im (loc.set (agD aA) ⟨w.heap.size,0,e,agD L,fin.size⟩) w':=by
 have QF:=j8.GQ;have old: ∀b,b<w.heap.size->w'.heap[b]? =w.heap[b]?:=fun b hb=>by rw [hh,Array.getElem?_push,ut (by omega)]
 have df: ∀b o,im b=agF o->b<w.heap.size:=fun b o h=>(PP.1 (j8.bq b o h)).1
 exact {
  fY:= .refl _,dw:=Loc.xj _ QF
  bq:=fun b o hb=>by rw [old b (df b o hb)];exact j8.bq b o hb
  dB:=fun _ _ h=> .inl h,os:=ho,tape:=ht,output:=hp
  size:=by rw [hh];simp
  OJ:=fun t' k hm hs=>by
   obtain ⟨rfl,rfl⟩:t'=t/\k= .dead:=by simpa using hm
   cases hs
  frame:=fun b hb _=>old b hb
  wr:=fun t' k li hm kM=>by
   obtain ⟨rfl,rfl⟩:t'=t/\k= .dead:=by simpa using hm
   trivial
  kJ:=fun t' l h=>by
   unfold Loc.set at h;split at h
   · rename_i e;subst e;exact .inr ⟨IR _,by simp⟩
   exact .inl h
  news:=BU fun j k hj=>by
   cases j with
   |zero=>
    simp at hj;subst hj;refine ⟨_,Loc.eN _ _ _,⟨rfl,rfl,fun _=>⟨fin,el,by rw [hh];simp,rfl,by simpa using u6,hr⟩⟩,fun _=>⟨?_,.inl (IR _)⟩⟩;cases hi:im w.heap.size with
    |none=>rfl
    |some o=>have:=df _ _ hi;omega
   |succ j=>simp at hj
  distinct:=fun i j ki kj li lj h1 h2 _ _ _ _ _=>by cases i<;>cases j<;>simp at h1 h2<;>rfl}
theorem GR {esz:Nat}: ∀{rows:List Row} (_: ∀r∈rows,agD r=esz) (i:Nat),(rows.take i).flatMap aZ=(rows.flatMap aZ).take (i*esz)
 | [],_,i=>by simp
 |r::rs,h,0=>by simp
 |r::rs,h,i+1=>by
  have hr:(aZ r).length=esz:=by rw [k7];exact h r (by simp)
  have e1:(aZ r).take ((i+1)*esz)=aZ r:=aau (by rw [hr,abI];omega);rw [List.take_succ_cons,abo,GR (fun x hx=>h x (by simp [hx])) i,abo,List.take_append,e1,hr,show (i+1)*esz-esz=i*esz by rw [abI];omega]
theorem GS {esz:Nat}: ∀{rows:List Row} (_: ∀r∈rows,agD r=esz) (i:Nat),(rows.drop i).flatMap aZ=(rows.flatMap aZ).drop (i*esz)
 | [],_,i=>by simp
 |r::rs,h,0=>by simp
 |r::rs,h,i+1=>by
  have hr:(aZ r).length=esz:=by rw [k7];exact h r (by simp)
  have e1:(aZ r).drop ((i+1)*esz)=[]:=abp (by rw [hr,abI];omega);rw [List.drop_succ_cons,GS (fun x hx=>h x (by simp [hx])) i,abo,List.drop_append,e1,hr,show (i+1)*esz-esz=i*esz by rw [abI];omega,List.nil_append]
theorem SR.Pf (h:SR im loc aA fz w) {t:Nat} (hf:has fz t=agS) {r:nB} (hw:r.wr=[(t,.dead)]):jj im loc aA w r where
 bq:=h.bq
 tok:=fun t _ li hl=>h.de t li hl
 free:=fun t' k hm li k' hl hk hs=>by
  rw [hw] at hm;obtain rfl:t'=t:=by have:=aat.1 hm;injection this
  exact h.free t' li k' hl hk hs hf
 fresh:=fun j hj=>by
  cases hl:loc (agD aA+j) with
  |none=>rfl
  |some li=>obtain ⟨k,hk,_⟩:=h.de _ _ hl;rw [List.getElem?_eq_none (by omega)] at hk;cases hk
 iE:=fun t u li lj k k' _ _=>h.iE t u li lj k k'
structure Rc (P:Program) (f:FuncId) (e:Nat) (tS:TypeId):Prop where
 ends: ∀(ou:Option Addr) (n c vb JK vc:Nat) (w w':World) (v':Value),n<=c->(Builtin.append_ #[tS,tS] tS #[.slice ou n c,.slice (agF ⟨vb,JK,agO⟩) 1 vc]).run P w= .ok v' w'->
  Calls P f #[.slice ou n c,.int .i64 n,.slice (agF ⟨vb,JK,agO⟩) 1 vc] w fun e W=>e= .returned v'/\W=w'
 room: ∀(b off n c i vb JK vc:Nat) (cs vs:List Value) (arr av:Array Value) (el ev:TypeId) (w:World),i<n->n+1<=c->n<=1048576->vb≠b->w.heap[b]? =agF (.cells arr el (0,0))->w.heap[vb]? =agF (.cells av ev (0,0))->
  off+(n+1)*e<=arr.size->agD cs=n*e->agD vs=e->(∀(j:Nat) (v:Value),cs[j]? =agF v->arr[off+j]? =agF v)->(∀(j:Nat) (v:Value),vs[j]? =agF v->av[JK+j]? =agF v)->(∀v∈cs,v.oneCell'=agP)->(∀v∈vs,v.oneCell'=agP)->
  ∃fin:List Value,agD fin=arr.size/\(∀(j:Nat) (v:Value),(cs.take (i*e)++vs++cs.drop (i*e))[j]? =agF v->fin[off+j]? =agF v)/\
  Calls P f #[.slice (agF ⟨b,off,agO⟩) n c,.int .i64 i,.slice (agF ⟨vb,JK,agO⟩) 1 vc] w fun x w'=>
   x= .returned (.slice (agF ⟨b,off,agO⟩) (n+1) c)/\w'.heap=w.heap.setIfInBounds b (.cells fin.toArray el (0,0))/\w'.os=w.os/\Tape w w'/\w'.output=w.output
 full: ∀(b off n i vb JK vc:Nat) (cs vs:List Value) (w:World),i<n->n<=1048576->agD cs=n*e->agD vs=e->
  (∀(j:Nat) (v:Value),cs[j]? =agF v->w.cell? ⟨b,off+j,agO⟩=agF v)->(∀(j:Nat) (v:Value),vs[j]? =agF v->w.cell? ⟨vb,JK+j,agO⟩=agF v)->(∀v∈cs,v.oneCell'=agP)->(∀v∈vs,v.oneCell'=agP)->
  ∃(G:Nat) (fin:List Value) (el:TypeId),n+1<=G/\agD fin=G*e/\(∀(j:Nat) (v:Value),(cs.take (i*e)++vs++cs.drop (i*e))[j]? =agF v->fin[j]? =agF v)/\
  Calls P f #[.slice (agF ⟨b,off,agO⟩) n n,.int .i64 i,.slice (agF ⟨vb,JK,agO⟩) 1 vc] w fun x w'=>
   x= .returned (.slice (agF ⟨w.heap.size,0,agO⟩) (n+1) G)/\w'.heap=w.heap.push (.cells fin.toArray el (0,0))/\w'.os=w.os/\Tape w w'/\w'.output=w.output
theorem OZ.ins {f:FuncId} {e:Nat} {tS tE:TypeId} {fn:Func} {c:Code} {i0:TypeInfo} {z:Value} (hf:P.funcs[f]? =agF fn) (qG:(fn.name== "runtime.NumGoroutine")=agS) (hb:fn.body=agF c)
 (ht:P.underlying tS=agF (.slice tE)) (hi:P.info? tE=agF i0) (oz:i0.size=e) (hz:i0.zero=agF z) (T':z.cells.size=e) (Lq:i0.bytes<=1048576) (he0:0<e) (H:Rc P f e tS):OZ P f (Qw e):=by
 refine ⟨fn,c,hf,qG,hb,?_⟩;intro args aA fz v vg I0 hp im loc w us j8 yw;unfold Qw at hp;split at hp
 case h_2=>cases hp
 rename_i t e1 off len cap ex i u e2 ahz I' Re ex2;split at hp
 case h_2=>cases hp
 rename_i e3 rows e4 new bM hsu;split at hp
 case isFalse=>cases hp
 rename_i hc;simp only [ww,Nat.beq_eq,aa2,decide_eq_true_eq,ab5] at hc;obtain ⟨⟨⟨⟨⟨⟨⟨⟨⟨⟨⟨q1,q2⟩,rfl⟩,rfl⟩,bY⟩,rfl⟩,AH⟩,htu⟩,QD⟩,hi0⟩,hil⟩,k8⟩:=hc;have q1:=q1.symm;subst q1;have q2:=q2.symm;subst q2;have k8:len+1<=1048576:=k8;injection hp with hp;simp only [M2] at hp;obtain ⟨rfl,rfl,rfl⟩:=hp;obtain ⟨k,rfl⟩: ∃k:Nat,i=(k:Int):=⟨i.toNat,by omega⟩;simp only [Int.toNat_natCast] at hil ⊢;obtain ⟨x0,us1,rfl,JJ,yw⟩: ∃x0 us1,us=x0::us1/\VR im loc (.own t e 0 len cap ex) x0/\eG im loc [.int .i64 (k:Int),.own u e 0 1 Re ex2] us1:=by cases yw with|cons _ a _ b h1 h2=>exact ⟨a,b,rfl,h1,h2⟩
 obtain ⟨x1,us2,rfl,Qs,yw⟩: ∃x1 us2,us1=x1::us2/\VR im loc (.int .i64 (k:Int)) x1/\eG im loc [.own u e 0 1 Re ex2] us2:=by cases yw with|cons _ a _ b h1 h2=>exact ⟨a,b,rfl,h1,h2⟩
 obtain ⟨x2,us3,rfl,hx2,yw⟩: ∃x2 us3,us2=x2::us3/\VR im loc (.own u e 0 1 Re ex2) x2/\eG im loc [] us3:=by cases yw with|cons _ a _ b h1 h2=>exact ⟨a,b,rfl,h1,h2⟩
 obtain rfl:us3=[]:=by cases yw;rfl
 have Qs:=Qs.eY;subst Qs;obtain ⟨li,a,cD,rfl,hl,he,Dk,hlc,M7,_,Dm⟩:=JJ.iA;obtain ⟨lj,a2,Rf,rfl,GF,w8,apZ,arw,arx,_,air⟩:=hx2.iA;have O7:t<(agD aA):=(If.1 bM).1;obtain ⟨k1,iF,sF⟩:=j8.de t li hl;rw [bM] at iF;injection iF with iF;subst iF;obtain ⟨k2,BZ,al7⟩:=j8.de u lj GF;rw [hsu] at BZ;injection BZ with BZ;subst BZ;obtain ⟨b1,b2,b3⟩:=sF;obtain ⟨d1,d2,d3⟩:=al7;have abT:new≠[]:=by intro h;subst h;simp at AH
 obtain ⟨av,ev,OV,QJ,hv3,abU⟩:=d3 abT;have e34:e=e3:=by rw [<- b1,he]
 subst e34;have e44:e=e4:=by rw [<- d1,w8]
 subst e44;obtain rfl:a2=agF ⟨lj.de,lj.sh,agO⟩:=by
  rcases air with h|⟨_,h,_⟩
  · omega
  simpa using h
 have Gk:=abU.nG;have Qo:=abU.plain;have Gl:=dy Gk;rw [AH] at Gl;refine .inr ⟨fU hf qG hb,?_⟩;rcases aam k len with hk|hk
 ·
  have nH:rows≠[]:=by intro h;subst h;simp at bY;omega
  obtain ⟨arr,el,sP,HH,IY,cJ⟩:=b3 nH;obtain ⟨Qp,rfl,u6⟩:li.n≠0/\a=agF ⟨li.de,li.sh,agO⟩/\li.sh+cD*e<=li.sz:=by
   rcases Dm with h|⟨h1,h2,h3⟩
   · omega
   exact ⟨h1,by simpa using h2,by simpa using h3⟩
  have Jf:=cJ.nG;have Uc:=cJ.plain;have OO:=dy Jf;rw [<- bY] at OO;obtain ⟨L,hL⟩: ∃L,L=rows.take k++new++rows.drop k:=⟨_,rfl⟩;have hLl:(agD L)=len+1:=by rw [hL];simp only [aaA,List.length_take,List.length_drop,AH];omega
  have hLf:L.flatMap aZ=(rows.flatMap aZ).take (k*e)++new.flatMap aZ++(rows.flatMap aZ).drop (k*e):=by rw [hL,acj,acj,GR Jf,GS Jf]
  have hLr: ∀r∈L,agD r=e:=by
   intro r hr;rw [hL] at hr;rcases aaq.1 hr with h|h
   · rcases aaq.1 h with h|h
     · exact Jf r (abK h)
     exact Gk r h
   exact Jf r (abQ h)
  have hLp: ∀r∈L,∀c∈r,c.plain=agP:=by
   intro r hr;rw [hL] at hr;rcases aaq.1 hr with h|h
   · rcases aaq.1 h with h|h
     · exact Uc r (abK h)
     exact Qo r h
   exact Uc r (abQ h)
  rw [<- hL,<- hLl];have qC: ∀j v,(rows.flatMap aZ)[j]? =agF v->arr[li.sh+j]? =agF v:=fun j v hj=>cJ.flat j v hj
  have TQ: ∀j v,(new.flatMap aZ)[j]? =agF v->av[lj.sh+j]? =agF v:=fun j v hj=>abU.flat j v hj
  have Gi:(len+1)*e<=cD*e\/cD=len:=by
   rcases aam len cD with h|h
   · exact .inl (abW _ h)
   exact .inr (by omega)
  rcases Gi with xq|Np
  · have ait:len+1<=cD:=Nat.le_of_mul_le_mul_right xq he0
    have dE:lj.de≠li.de:=fun h=>by have:=j8.iE u t lj li _ _ GF hl hsu bM (mX abT) (mX nH) h;rw [this] at htu;simp at htu
    obtain ⟨fin,f1,f2,f3⟩:=H.room li.de li.sh len cD k lj.de lj.sh Rf _ _ arr av el ev w hk ait (by omega) dE sP OV (by omega) OO (by omega) qC TQ (rL Uc) (rL Qo);refine f3.mono fun x w' ⟨hx,hh,ho,htp,hpp⟩=>⟨_,hx,im,loc.set (agD aA) ⟨li.de,li.sh,e,agD L,li.sz⟩,?_⟩
    have hE:=Pd (w':=w') (L:=L) j8 hl bM nH QD sP hh ho htp hpp (by simp [f1,HH]) (by rw [hLl];omega) (bw.BV hLr hLp fun j v hj=>by rw [hLf] at hj;simpa using f2 j v hj);refine B9 j8 hE rfl rfl O7 ?_;rw [<- hLl];exact .own _ _ 0 _ _ agS ⟨li.de,li.sh,e,agD L,li.sz⟩ _ cD (Loc.eN _ _ _) rfl (by show 0+agD L<=agD L;omega) (IR _) (by omega) (fun h=>by cases h) (.inr ⟨by show (agD L)≠0;omega,by simp,by show li.sh+(0+cD)*e<=li.sz;rw [Nat.zero_add];exact u6⟩)
  subst Np
  obtain ⟨G,fin,el',g1,g2,g3,g4⟩:=H.full li.de li.sh cD k lj.de lj.sh Rf _ _ w hk (by omega) OO (by omega) (fun j v hj=>by simp only [agd,sP];exact qC j v hj) (fun j v hj=>by simp only [agd,OV];exact TQ j v hj) (rL Uc) (rL Qo);have hg:(cD+1)*e<=G*e:=abW _ g1;refine g4.mono fun x w' ⟨hx,hh,ho,htp,hpp⟩=>⟨_,hx,im,loc.set (agD aA) ⟨w.heap.size,0,e,agD L,fin.toArray.size⟩,?_⟩
  have hE:=Pe (w':=w') (t:=t) (L:=L) (e:=e) j8 hh ho htp hpp (by rw [hLl];simp [g2];omega) (bw.BV hLr hLp fun j v hj=>by rw [hLf] at hj;simpa using g3 j v hj);refine B9 j8 hE rfl rfl O7 ?_;rw [<- hLl];exact .own _ _ 0 _ _ agS ⟨w.heap.size,0,e,agD L,fin.toArray.size⟩ _ G (Loc.eN _ _ _) rfl (by show 0+agD L<=agD L;omega) (IR _) (by omega) (fun h=>by cases h) (.inr ⟨by show (agD L)≠0;omega,by simp,by show 0+(0+G)*e<=fin.toArray.size;simp [g2]⟩)
 ·
  obtain rfl:k=len:=by omega
  have al8:rows.take k++new++rows.drop k=rows++new:=by rw [aau (by omega),abp (by omega),List.append_nil]
  rw [al8];have al9:VR im loc (.own t e 0 k k agS) (.slice a k cD):= .own t e 0 k k agS li a cD hl he (by omega) (IR _) (by omega) (by simp) Dm;have zb:rowsOf aA e (.own u e 0 1 Re ex2)=agF new:=by
   have:(new.drop 0).take 1=new:=by rw [agq,aau (by omega)]
   show (if Do e e=agP then (match aA[u]? with|some (.arr _ rows)=>agF ((rows.drop 0).take 1)|_=>agO) else agO)=_;rw [rc (Nat.beq_refl e),hsu];exact congrArg agF this
  have hap:iQ aA fz e (.own t e 0 k k agS) (.own u e 0 1 Re ex2)=agF {v:= .own (agD aA) e 0 (k+1) (k+1) agS,news:=[.arr e (rows++new)],wr:=[(t,.dead)],rd:=[u]}:=by
   have h1:aak (k+1) k=agS:=by
    cases h:aak (k+1) k with
    |false=>rfl
    |true=>have:=Nat.le_of_ble_eq_true h;omega
   have h2:aak (k+1) lI=agP:=by simpa [lI] using k8
   have h3:(rows.drop 0).take k=rows:=by rw [agq,aau (by omega)]
   unfold iQ;rw [zb];cases new with
   |nil=>exact absurd rfl abT
   |cons r rs=>have h0:(r::rs).length=1:=AH;simp only [h0,bM,h1,h2,h3,QD,iP];simp
  obtain ⟨v',w',bg,bI,ot,hE⟩:=Ec (P:=P) (w:=w) (ty:=tS) ht ht hi oz hz T' Lq al9 hx2 hap (j8.Pf QD rfl);refine (H.ends a k cD lj.de lj.sh Rf w w' v' (by omega) bI).mono fun x W ⟨hx,hW⟩=>⟨v',hx,im,bg,?_⟩
  subst hW;exact B9 j8 hE rfl rfl O7 ot
end
end Go.Vm
/- A table of functions as a tree. -/
namespace Go.Vm
inductive TT where
 |nil
 |leaf (k:Nat) (e:TO)
 |node (m:Nat) (a b:TT)
def TT.get:TT->Nat->Option TO
 | .nil,_=>agO
 | .leaf k e,f=>bif Do f k then agF e else agO
 | .node m a b,f=>bif aaS f m then a.get f else b.get f
def TT.All (p:Nat->TO->Prop):TT->Prop
 | .nil=>True
 | .leaf k e=>p k e
 | .node _ a b=>a.All p/\b.All p
theorem TT.AU {p:Nat->TO->Prop}: ∀{t:TT} {f:Nat} {e:TO},t.All p->t.get f=agF e->p f e
 | .nil,f,e,_,h=>by cases h
 | .leaf k e',f,e,ha,h=>by
  simp only [TT.get] at h;cases hk:Do f k with
  |false=>rw [hk] at h;cases h
  |true=>
   rw [hk] at h;have:f=k:=by simpa using hk
   subst this;have h:agF e'=agF e:=h;injection h with h;subst h;exact ha
 | .node m a b,f,e,ha,h=>by
  simp only [TT.get] at h;cases hk:aaS f m with
  |false=>rw [hk] at h;exact TT.AU ha.2 h
  |true=>rw [hk] at h;exact TT.AU ha.1 h
def xE (P:Program) (f:Nat):TO->Prop
 | .code x=>az P (fun _=>agP) x f=agP
 | .iZ k p=>k=agS/\zP P f p
 | .OH p=>OZ P f p
theorem TT.Rg {P:Program} {t:TT} (h:t.All (xE P)):ED P (fun _=>agP) t.get:=fun f x hf=>by have:=TT.AU h hf;exact this
theorem TT.DM {P:Program} {t:TT} (h:t.All (xE P)):sS P t.get:=⟨fun _ _ _ hf=>TT.AU h hf,fun _ _ hf=>TT.AU h hf⟩
end Go.Vm
/- The logical machine's code of a function, reckoned from the model's own (what it comes to is looked at by chkFunc; nothing is proved of it here). -/
namespace Go.Vm
structure Hint where
 md:FuncId->CM
 fH:List Nat
 al':List (Nat×List (Nat×Nat)):=[]
 more:List (Nat×List (Nat×Option Nat)):=[]
 tb:Bool:=agS
section
variable (P : Program)
def Pg (t:TypeId):Nat:=match P.info? t with
 |some i=>i.size
 |none=>0
def LL (t:TypeId):Option Nat:=match P.underlying t with
 |some (.struct _)|some (.array _ _)=>agF (Pg P t)
 |_=>agO
def tG:Nat->TypeId->List PV
 |0,_=>[]
 |n+1,t=>match P.underlying t with
  |some (.int k)=>[.int k 0]
  |some .bool=>[.bool agS]
  |some .string=>[.str .empty]
  |some (.slice e)=>[.sl (Pg P e) agP []]
  |some (.struct fs)=>fs.toList.flatMap fun f=>tG n f.type
  |some (.array m e)=>(aaE m (tG n e)).flatten
  |some (.func ..)=>[.dz]
  |_=>[.undef]
def aaG (t:TypeId):PV:=match tG P 9 t with
 |x::_=>x
 | []=> .sl 0 agP []
def aaH (t:TypeId):PV:=match LL P t with
 |some _=> .agg (tG P 9 t)
 |none=>aaG P t
def aaI (z:PV):Value->PV
 | .int k n=> .int k n
 | .bool b=> .bool b
 | .string s=> .str s
 | .slice .. =>z
 | .nilFunc=> .dz
 |_=> .undef
def aaJ:List PV->List Value->List PV
 |z::zs,v::vs=>aaI z v::aaJ zs vs
 |_,_=>[]
def ama (t:TypeId):Value->PV
 | .agg vs=> .agg (aaJ (tG P 9 t) vs.toList)
 |v=>aaI (aaG P t) v
def qO (t:TypeId):Operand->fj
 | .tmp n=> .t n
 | .const v=> .c (ama P t v)
 | .func f=> .c (.eh f [] [])
 | .global _=> .c .undef
def Rh:List TypeId->List Operand->List fj
 |t::ts,o::os=>qO P t o::Rh ts os
 |_,_=>[]
def gg:Operand->fj
 | .tmp n=> .t n
 | .const (.int k n)=> .c (.int k n)
 | .const (.bool b)=> .c (.bool b)
 | .const (.string s)=> .c (.str s)
 | .func f=> .c (.eh f [] [])
 |_=> .c .undef
def zg (t:TypeId):TypeId:=match P.underlying t with
 |some (.slice e)=>e
 |some (.array _ e)=>e
 |_=>0
def Ri (place:Nat->Option (Nat×Nat)) (ty:Nat->TypeId):List (Nat×Operand)->List (Nat×Nat×fj)
 | []=>[]
 |(i,o)::r=>match place i with
  |some (a,b)=>(a,b,qO P (ty i) o)::Ri place ty r
  |none=>[]
def Rj (t:TypeId) (i:Nat):TypeId:=match P.underlying t with
 |some (.struct fs)=>match fs[i]? with
  |some f=>f.type
  |none=>0
 |some (.array _ e)=>e
 |_=>0
def aiu (t:TypeId) (i:Nat):Nat:=match P.underlying t with
 |some (.struct fs)=>match fs[i]? with
  |some f=>f.offset
  |none=>0
 |_=>0
def aaK:BinOp->Bool
 | .neq=>agP
 |_=>agS
def Rk (b:Builtin) (args:List Operand) (ts:List TypeId):kG:=
 match b,args,ts with
 | .len,x::_,t::_=>match P.underlying t with
  |some (.slice _)|some (.map _ _)=> .len (qO P t x)
  |some (.array m _)=> .Ll m
  |some (.pointer e)=>match P.underlying e with
   |some (.array m _)=> .Ll m
   |_=> .bad
  |_=> .bad
 | .append,[x,y],[t,u]=>match P.underlying u with
  |some (.slice _)=> .append (Pg P (zg P t)) (qO P t x) (qO P u y)
  |_=> .bad
 | .copy,[x,y],[t,u]=>match P.underlying u with
  |some (.slice _)=> .copy (Pg P (zg P t)) (qO P t x) (qO P u y)
  |_=> .bad
 | .clear,[x],[t]=>match P.underlying t with
  |some (.slice e)=> .clear (Pg P e) (tG P 9 e) (qO P t x)
  |_=> .bad
 | .min,x::xs,_=> .mm agS (gg x) (xs.map gg)
 | .max,x::xs,_=> .mm agP (gg x) (xs.map gg)
 |_,_,_=> .bad
def cOp (tb:Bool) (md:FuncId->CM) (ty:TypeId):Op->kG
 | .move x| .assign x=> .Ql (qO P ty x)
 | .pick c a b=> .pick (gg c) (qO P ty a) (qO P ty b)
 | .binOp op t x y _=>match P.underlying t with
  |some (.int _)=> .bin op (gg x) (gg y)
  |some .bool=> .I3 (aaK op) (gg x) (gg y)
  |some (.struct _)|some (.array _ _)=> .eqc (Pg P t) (aaK op) (qO P t x) (qO P t y)
  |_=> .bad
 | .unOp op _ x=> .un op (gg x)
 | .convert _ t x=>match P.underlying t with
  |some (.int k)=> .conv k (gg x)
  |_=> .bad
 | .box t x=> .box (qO P t x)
 | .alloc t=> .alloc (tG P 9 t)
 | .build t ps=> .build (tG P 9 t) (Ri P (placeOf P t) (Rj P t) ps.toList)
 | .buildSlice t n ps=>match P.underlying (zg P t),n,ps.toList with
  |some (.slice _),2,[(0,a),(1,b)]=> .CL (qO P (zg P t) a) (qO P (zg P t) b)
  |_,_,_=> .Az (Pg P (zg P t)) n (tG P 9 (zg P t)) (ps.toList.map fun p=>(p.1,qO P (zg P t) p.2))
 | .load t a=> .load (LL P t) (gg a)
 | .store t a v=> .store (Pg P t) (gg a) (qO P t v)
 | .nilCheck x=> .I4 (gg x)
 | .fieldAddr t a f=> .I5 (aiu P t f) (gg a)
 | .field t a f=> .iD (LL P (Rj P t f)) (aiu P t f) (gg a)
 | .indexAddr t a j=>match P.underlying t with
  |some (.slice e)=> .I6 (Pg P e) (qO P t a) (gg j)
  |some (.array m e)=> .CN m (Pg P e) (gg a) (gg j)
  |_=> .bad
 | .index t a j=>match P.underlying t with
  |some (.array m e)=> .idx m (Pg P e) (LL P e) (qO P t a) (gg j)
  |some .string=> .I7 (gg a) (gg j)
  |_=> .bad
 | .slice t a b c d=>match P.underlying t with
  |some (.slice e)=> .OG (Pg P e) (qO P t a) (b.map gg) (c.map gg) (d.map gg)
  |_=> .bad
 | .makeSlice t a b=> .mks (Pg P (zg P t)) (tG P 9 (zg P t)) (gg a) (gg b)
 | .makeFunc (.func g) c d=> .mkf g (c.toList.map gg) (d.toList.map gg)
 | .makeMap t _=> .mkm (bif tb then (match P.underlying t with
  |some (.map _ e)=>agF (aaH P e)
  |_=>agO) else agO)
 | .extract a j=> .ext j (gg a)
 | .lookup t a b ok=>match P.underlying t with
  |some (.map k e)=> .lookup (LL P k) (aaH P e) ok (gg a) (qO P k b)
  |_=> .bad
 | .mapUpdate t a b c| .insert t a b c=>match P.underlying t with
  |some (.map k e)=> .HA (LL P k) (gg a) (qO P k b) (qO P e c)
  |_=> .bad
 | .call c=>match c.callee with
  | .builtin b=>Rk P b c.args.toList c.argTypes.toList
  | .value (.func f)=> .call (md f) f (Rh P c.argTypes.toList c.args.toList)
  | .value x=> .wF (gg x) (Rh P c.argTypes.toList c.args.toList)
  |_=> .bad
 |_=> .bad
def aiv (tb:Bool) (md:FuncId->CM) (ops:Array Oper) (o:Oper):bE:=
 ⟨o.dst,cOp P tb md o.type o.op,match o.guard with
  |some (i,b)=>match ops[i]? with
   |some q=>match q.dst with
    |some d=>agF (d,b)
    |none=>agO
   |none=>agO
  |none=>agO⟩
def Rl:List Nat->List Oper->List Nat
 |acc,[]=>acc
 |acc,o::os=>Rl (acc++[(mY acc (agD acc) o.after.toList).getD 0]) os
def bitsOf:Nat->Nat->Nat->List Nat
 |0,_,_=>[]
 |n+1,i,m=>bif Do m 0 then [] else bif Do (Nat.mod m 2) 1 then i::bitsOf n (i+1) (Nat.div m 2) else bitsOf n (i+1) (Nat.div m 2)
def Rm (l:List (Nat×Nat)) (x:Nat):Nat×Option Nat:=match l with
 | []=>(x,agO)
 |(t,k)::r=>bif Do t x then (x,agF k) else Rm r x
def Rn {α:Type} (n:Nat):List (Nat×List α)->List α
 | []=>[]
 |(m,l)::r=>bif Do m n then l else Rn n r
def hd (l:List Nat):Nat:=match l with
 |x::_=>x
 | []=>0
structure CSt where
 ks:List Nat
 n:Nat
def EE (H:Hint):Code->CSt->ji×CSt
 | .region _ ops dr,s=>(.region (match dr with|true=>agF (Rl [] ops.toList)|false=>agO) (ops.toList.map (aiv P H.tb H.md ops)) (bitsOf 1000 0 (hd s.ks)),⟨s.ks.tail,s.n⟩)
 | .seq a b,s=>match EE H a s with
  |(x,s1)=>match EE H b s1 with
   |(y,s2)=>(.seq x y,s2)
 | .cond c a b,s=>match EE H a s with
  |(x,s1)=>match EE H b s1 with
   |(y,s2)=>(.cond (gg c) x y,s2)
 | .block id b,s=>match EE H b s with
  |(x,s1)=>(.block id x,s1)
 | .loop b,s=>match EE H b ⟨s.ks.tail,s.n+1⟩ with
  |(x,s1)=>(.loop ((bitsOf 1000 0 (hd s.ks)).map (Rm (Rn s.n H.al'))++Rn s.n H.more) x,s1)
 | .exit id,s=>(.exit id,s)
 | .ret,s=>(.ret,s)
 |_,s=>(.skip,s)
def amb:ResultVar->RV
 | .tmp t=> .tmp t
 | .cell t ty=> .cell t (LL P ty)
def aiw (fn:Func) (H:Hint):aK:=
 ⟨fn.params.size+fn.nfree,match fn.body with
  |some c=>(EE P H c ⟨H.fH,0⟩).1
  |none=> .skip,fn.results.toList.map (amb P)⟩
def amc (ow sh fp:List Nat) (f:FuncId):CM:=bif has ow f then .own else bif has sh f then .shr else bif has fp f then .fp else .TN
end
end Go.Vm
/- A law's row from what the logical machine answers: the result is agP, nothing that was there has turned. -/
namespace Go.Vm
open Go.ChangeShapes Go.WideShapes Go.ChangeAt Go.RowKit
section
variable {H : Type} {enc : TypeId × Value -> H} {P : Program}
theorem zh (hl:laidOutB P=agP) {W W':World} (hb:Below W.heap.size W W'): ∀{ts:List TypeId} {vs:List Value} {ds:List (DataW H)} {ps:List MemPlace},(∀t∈ts,P.readableRec t=agP/\t<P.types.size)->
 DataW.TrodAll enc P W 0 (fun _=>agP) agP ts vs ds ps->(∀x∈ps,x.block<W.heap.size)->DataW.TrodAll enc P W' 0 (fun b=>decide (b<W.heap.size)) agP ts vs ds ps
 | [],vs,ds,ps,_,h,_=>by obtain ⟨rfl,rfl,rfl⟩:=trodAll_nil h;exact trodAll_mk0
 |t::ts,vs,ds,ps,ht,h,df=>by obtain ⟨v,Lf,d,xF,p,q,rfl,rfl,rfl,h1,h2⟩:=trodAll_cons h;obtain ⟨h3,h4⟩:=ht t (by simp);exact trodAll_cons_mk (Below.trod hl h3 h4 h1 hb fun x hx=>df x (by simp [hx])) (zh hl hb (fun t' Nq=>ht t' (by simp [Nq])) h2 fun x hx=>df x (by simp [hx]))
theorem Ro (hl:laidOutB P=agP) {f:Func} {s:ChangeSpec} {W W':World} {args:Array Value} {ds:List (DataW H)} {before:List MemPlace} {bt:TypeId} (aix:s.vars=[]) (AT:f.resultTypes= #[bt]) (hbt:P.underlying bt=agF .bool)
 (hp: ∀t∈f.params.toList,P.readableRec t=agP/\t<P.types.size) (hW:DataW.Whole enc P f.params.toList s.vars agS W args.toList ds [] before)
 (DN:s.fn H (ds++[])={results:=[.lit (.bool agP)],args:=ds}) (hb:Below W.heap.size W W'):s.post enc P f agS agP agS agS W args (.bool agP) W':=by
 have hW':=hW;obtain ⟨p,q,hA,hV,rfl,QD,Gf⟩:=hW;have df: ∀x∈p++q,x.block<W.heap.size:=fun x hx=>by simpa using hW'.lt x hx
 refine ⟨ds,[],p++q,[],p,[],hW',?_,?_,?_,hb.frame _,fun h=>by cases h⟩
 · rw [DN,AT]
   exact trodAll_mk1 (shut_bool hbt agP)
 · rw [DN]
   exact zh hl hb hp hA fun x hx=>df x (by simp [hx])
 rw [DN,aix]
 rfl
end
def Gr (w:World):Im:=fun b=>w.heap[b]?
theorem Ph {w:World} {b o:Nat} {v:Value} (h:w.cell? ⟨b,o,agO⟩=agF v):lZ (Gr w) b o=agF v:=by unfold agd at h;unfold lZ Gr;exact h
theorem Pj {P:Program} {F:kH} {prims:FuncId->Bool} (hT:ED P prims F) (xA:sS P F) (ov:P.follows .mixedOrders=agP) {f:FuncId} {args:List PV} {s:bW} {z:List Nat} {n:Nat} {us:List Value} {w:World}
 (h:run F n (.func f args [] [])=agF (.func (.bool agP) s z)) (yw:eG (Gr w) fE args us):Calls P f ⟨us⟩ w fun e w'=>e= .returned (.bool agP)/\Below w.heap.size w w':=by
 refine (B8 hT xA ov h (im:=Gr w) (fun b o h=>h) yw).mono fun e w' ⟨u,he,⟨dP,bg,ot,_⟩,h1,h2,h3,h4,h5⟩=>?_
 obtain rfl:=ot.ju;exact ⟨he,⟨h1,h2.eq,h3,h4,h5⟩⟩
end Go.Vm
/- Regions of one order, step by step, for contracts. -/
namespace Go.Vm
def B':kG->Bool
 | .call .. | .wF .. =>agP
 |_=>agS
variable {F : kH}
def WS (F:kH) (ops:List bE) (st:St) (Q:St->Prop):Prop:= ∀tr,WO F ops st tr (fun s _=>Q s)
def HY (st:St) (o:bE):Option St:=
 match wanted o.guard st.env with
 |some agP=>match bo st.env st.aA st.fz o.op with
  |some x=>if (XR.loc x).ok st.fz then agF ((XR.loc x).next o.dst st) else agO
  |none=>agO
 |some agS=>agF {st with env:=iK o.dst .jl st.env}
 |none=>agO
theorem HZ {rec:Task->Option Out} {e:Env} {aA:bW} {fz:List Nat} {op:kG} (h:B' op=agS):
 wH F rec e aA fz op=(bo e aA fz op).map .loc:=by
 cases op<;>first|rfl|cases h
theorem WS.nil {st:St} {Q:St->Prop} (h:Q st):WS F [] st Q:=fun _=>WO.nil h
theorem WS.cons {o:bE} {r:List bE} {st kA:St} {Q:St->Prop} (h:B' o.op=agS) (hs:HY st o=agF kA) (k:WS F r kA Q):WS F (o::r) st Q:=by
 intro tr;unfold HY at hs;split at hs
 · rename_i hw
   split at hs
   · rename_i x hx
     split at hs
     · rename_i zC
       injection hs with hs;subst hs;exact WO.op x hw (fun rec=>by rw [HZ h,hx];rfl) zC (k _)
     cases hs
   cases hs
 · rename_i hw
   injection hs with hs;subst hs;exact WO.skip hw (k _)
 cases hs
theorem WS.one {o:bE} {r:List bE} {st:St} {Q:St->Prop} (x:nB) (hc:B' o.op=agS) (hw:wanted o.guard st.env=agF agP) (hx:bo st.env st.aA st.fz o.op=agF x) (zC:(XR.loc x).ok st.fz=agP)
 (k:WS F r ((XR.loc x).next o.dst st) Q):WS F (o::r) st Q:=fun tr=>
 WO.op x hw (fun rec=>by rw [HZ hc,hx];rfl) zC (k _)
def DO:List bE->St->Option St
 | [],st=>agF st
 |o::r,st=>match B' o.op with
  |true=>agO
  |false=>match HY st o with
   |some kA=>DO r kA
   |none=>agO
theorem WS.all: ∀{ops:List bE} {st kA:St} {Q:St->Prop},DO ops st=agF kA->Q kA->WS F ops st Q
 | [],st,kA,Q,h,hq=>by simp only [DO,AC] at h;subst h;exact WS.nil hq
 |o::r,st,kA,Q,h,hq=>by
  simp only [DO] at h;cases hc:B' o.op with
  |true=>rw [hc] at h;cases h
  |false=>
   rw [hc] at h;dsimp only at h;cases hs:HY st o with
   |none=>rw [hs] at h;cases h
   |some s1=>rw [hs] at h;exact WS.cons hc hs (WS.all h hq)
theorem WS.pure {d:Option Nat} {g:Option (Nat×Bool)} {f:FuncId} {as:List fj} {r:List bE} {st:St} {Q:St->Prop}
 {args:List PV} {v:PV} (h:Pure F f args v) (hw:wanted g st.env=agF agP) (ha:BH st.aA (wU st.aA deep) (D2 st.env as)=agF args)
 (k:WS F r {st with env:=iK d v st.env} Q):WS F (⟨d,.call .TN f as,g⟩::r) st Q:=fun tr=>by
 refine WO.pure h hw ha ?_;have:=k (XR.tr (agD st.aA) (.loc {v,rd:=cW (cK st.aA deep) (D2 st.env as)})::tr);simpa [XR.next,qK,fR] using this
theorem WS.shr {d:Option Nat} {g:Option (Nat×Bool)} {f:FuncId} {as:List fj} {r:List bE} {st:St} {Q:St->Prop}
 (hw:wanted g st.env=agF agP) (h:zD F f (D2 st.env as) st.aA st.fz fun v s z=>(aak (agD st.aA) (agD s)&&st.fz.all (has z))=agP/\WS F r {st with env:=iK d v st.env,aA:=s,fz:=z} Q):
 WS F (⟨d,.call .shr f as,g⟩::r) st Q:=fun tr=>by
 obtain ⟨n,v,s,z,hr,hc,hk⟩:=h;refine WO.call (.shr v s z) hw ⟨n,?_⟩ rfl (hk _);simp only [wH,fI,hr];rw [rc hc]
end Go.Vm
/- Plain terms for what a function computes: loops, elements of lists, numbers; and the machine's loop over a plain one. -/
namespace Go.Vm
inductive Step (σ ρ:Type) where
 |next (s:σ)
 |done (r:ρ)
section
variable {σ ρ : Type}
def nK (body:σ->Option (Step σ ρ)):Nat->σ->Option ρ
 |0,_=>agO
 |n+1,x=>match body x with
  |some (.next y)=>nK body n y
  |some (.done r)=>agF r
  |none=>agO
open Classical in
noncomputable def LM (body:σ->Option (Step σ ρ)) (x:σ):Option ρ:=
 if h: ∃n r,nK body n x=agF r then nK body h.choose x else agO
theorem zU {body:σ->Option (Step σ ρ)}: ∀{n:Nat} {x:σ} {r:ρ},nK body n x=agF r-> ∀k,nK body (n+k) x=agF r
 |0,x,r,h,_=>by cases h
 |n+1,x,r,h,k=>by
  rw [show n+1+k=(n+k)+1 by omega];simp only [nK] at h ⊢;split at h
  · exact zU h k
  · exact h
  cases h
theorem Pk {body:σ->Option (Step σ ρ)} {n m:Nat} {x:σ} {r s:ρ} (h:nK body n x=agF r) (k:nK body m x=agF s):r=s:=by have h1:=zU h m;have h2:=zU k n;rw [Nat.add_comm m n] at h2;rw [h1] at h2;exact abq h2
theorem CV {body:σ->Option (Step σ ρ)} {x:σ} {r:ρ}:LM body x=agF r↔ ∃n,nK body n x=agF r:=by
 unfold LM;constructor
 · intro h
   split at h
   · exact ⟨_,h⟩
   cases h
 rintro ⟨n,hn⟩
 have hex: ∃n r,nK body n x=agF r:=⟨n,r,hn⟩;rw [dif_pos hex];obtain ⟨s,hs⟩:=hex.choose_spec;rw [hs,Pk hs hn]
end
noncomputable def Nt {σ ρ:Type} (b:Option Nat) (body:σ->Option (Step σ ρ)) (x:σ):Option ρ:=
 match b with
 |none=>LM body x
 |some N=>nK body N x
theorem JL {σ ρ:Type} {b:Option Nat} {body:σ->Option (Step σ ρ)} {x:σ} {r:ρ} (h:Nt b body x=agF r): ∃n,nK body n x=agF r:=by
 cases b with
 |none=>exact CV.1 h
 |some N=>exact ⟨_,h⟩
class LP where
 w:Option Nat
abbrev LP.of (n:Nat):LP:=⟨agF n⟩
noncomputable def aB [LP] {σ ρ:Type} (body:σ->Option (Step σ ρ)) (x:σ):Option ρ:=Nt LP.w body x
def aF [LP]:Option Nat:=LP.w
theorem aiy {α β:Type} {x:Option α} {f:α->Option β} {r:β} (h:x.bind f=agF r): ∃a,x=agF a/\f a=agF r:=by
 cases x with
 |none=>cases h
 |some a=>exact ⟨a,rfl,h⟩
def aaL {α ρ:Type} (x:Option α) (f:α->Option ρ):Option ρ:=x.bind f
def aaM {ρ:Type} (c:Bool) (a b:Option ρ):Option ρ:=cond c a b
theorem LN {α ρ:Type} {x:Option α} {f:α->Option ρ} {y:ρ} (h:aaL x f=agF y): ∃a,x=agF a/\f a=agF y:=aiy h
theorem LO {ρ:Type} {c:Bool} {a b:Option ρ} {y:ρ} (h:aaM c a b=agF y):(c=agP/\a=agF y)\/(c=agS/\b=agF y):=by
 cases c
 · exact .inr ⟨rfl,h⟩
 exact .inl ⟨rfl,h⟩
def aG {α:Type} (l:List α) (i:Int):Option α:=
 match i with
 | .ofNat n=>l[n]?
 | .negSucc _=>agO
def bO {α:Type} (l:List α) (i:Int) (a:α):List α:=l.set i.toNat a
theorem mZ {α:Type} {l:List α} {i:Int} {a:α} (h:aG l i=agF a): ∃n:Nat,i=abY n/\l[n]? =agF a:=by
 unfold aG at h;split at h
 · exact ⟨_,rfl,h⟩
 cases h
@[simp] theorem xG {α:Type} (l:List α) (i:Int) (a:α):(bO l i a).length=(agD l):=by simp [bO]
def bm {α:Type} (l:List α) (m:List α):Option (List α):=if (agD l)+agD m<=1048576 then agF (l++m) else agO
def wN {α:Type} (n:Int) (z:α):Option (List α):=if 0<=n/\n<=1048576 then agF (aaE n.toNat z) else agO
def gO {α:Type} (l:List α) (lo hi:Int):Option (List α):=if 0<=lo/\lo<=hi/\hi<=(agD l) then agF ((l.drop lo.toNat).take (hi.toNat-lo.toNat)) else agO
def bP {α:Type} (l:List α):Option (List α):=if (agD l)<=1048576 then agF l else agO
def abV {α:Type} (l m:List α):Option (List α):=if 1<=agD l+agD m/\agD l+agD m<=1048576 then agF (l++m) else agO
def H0 {α:Type} (l:List α) (i:Int) (m:List α):Option (List α):=if 0<=i/\i.toNat<=agD l/\agD m=1/\agD l+1<=1048576 then agF (l.take i.toNat++m++l.drop i.toNat) else agO
def EF {α:Type} (f:List α->Option (List α)) (l:List α):Option (List α):=
 if (agD l)<=1048576 then (match f l with
 |some m=>if (agD m)=(agD l) then agF m else agO
 |none=>agO) else agO
def H3 {α:Type} (f:List α->Option (List α)) (n:Nat) (l:List α):Option (List α):=if n<=(agD l) then (EF f (l.take n)).map (· ++l.drop n) else agO
def Dq (k:IntKind) (a b:Int):Int:=k.wrap (BitVec.ofInt k.bits a&&&BitVec.ofInt k.bits b).toNat
def bOr (k:IntKind) (a b:Int):Int:=k.wrap (BitVec.ofInt k.bits a|||BitVec.ofInt k.bits b).toNat
def amd (k:IntKind) (a b:Int):Int:=k.wrap (BitVec.ofInt k.bits a^^^BitVec.ofInt k.bits b).toNat
def Ux (k:IntKind) (a b:Int):Int:=k.wrap (BitVec.ofInt k.bits a&&& ~~~ BitVec.ofInt k.bits b).toNat
def ame (k:IntKind) (a b:Int):Int:=k.wrap (a*2^(min b.toNat k.bits))
def nu (k:IntKind) (a b:Int):Int:=a.fdiv (2^(min b.toNat k.bits))
def aaN (s:ByteArray) (i:Int):Option Int:=
 match i with
 | .ofNat n=>s[n]?.map fun b=>(b.toNat:Int)
 | .negSucc _=>agO
def Dr (l:List (List Int)) (k:List Int):Bool:=l.any fun m=>k==m
def LQ (l:List (List Int)) (k:List Int):List (List Int):=bif Dr l k then l else l++[k]
def nL (a:List Int) (l:List (List Int)):Bool:=l.all fun b=>Do (agD b) (agD a)
def JM (l:List (List Int)) (k:List Int):Option Bool:=bif nL k l then agF (Dr l k) else agO
def JN (l:List (List Int)) (k:List Int):Option (List (List Int)):=bif nL k l then agF (LQ l k) else agO
def CW {α:Type} (z:α):List (Int×α)->Int->α
 | [],_=>z
 |p::r,k=>bif k==p.1 then p.2 else CW z r k
def CX {α:Type}:List (Int×α)->Int->α->List (Int×α)
 | [],k,a=>[(k,a)]
 |p::r,k,a=>bif k==p.1 then (k,a)::r else p::CX r k a
section
variable {F : kH}
end
end Go.Vm
/- A logical machine over typed values: it turns a function's code into a plain term. What it computes is tied to the logical machine in SvRun. -/
namespace Go.Vm
inductive PT where
 |i (k:IntKind)
 |b
@[reducible] def PT.T : PT -> Type
  | .i _ => Int
  | .b => Bool
@[reducible] def RT : List PT -> Type
  | [] => Unit
  | [p] => p.T
  | p :: q :: r => p.T × RT (q :: r)
inductive SV where
 |gP
 |undef
 |jl
 |dz
 |int (k:IntKind) (n:Int)
 |bool (b:Bool)
 |str (s:ByteArray)
 |agg (cs:List SV)
 |bS (cs:List SV)
 |sl (r:List PT) (l:List (RT r))
 |nil (e:Nat) (c:Bool)
 |own (t:Nat) (ex:Bool)
 |pre (t len cap:Nat) (ex:Bool)
 |part (t off len cap:Nat) (ex:Bool)
 |pa (t:Nat) (r:List PT) (i:Int) (a:RT r) (off:Nat)
 |pb (t:Nat) (i:Int) (off:Nat)
 |bp (t n off:Nat)
 |bu (cs:List SV) (off:Nat)
 |eh (f:FuncId) (a b:List SV)
 |mp (t:Nat)
inductive SB where
 |arr (r:List PT) (l:List (RT r))
 |box (cs:List SV)
 |set (l:List (List Int))
 |bD (p:PT) (l:List (RT [.i .i64,p]))
 |dead
abbrev SE:=List (Nat×SV)
structure oF where
 env:SE
 aA:List SB
 fz:List Nat
 kn:Nat
structure Rows where
 r:List PT
 l:List (RT r)
def PT.same:PT->PT->Bool
 | .i k,.i l=>eZ k l
 | .b,.b=>agP
 |_,_=>agS
def AV:List PT->List PT->Bool
 | [],[]=>agP
 |p::r,q::s=>p.same q&&AV r s
 |_,_=>agS
theorem PT.Nu: ∀{p q:PT},p.same q=agP->p=q
 | .i k,.i l,h=>by rw [eH.1 h]
 | .b,.b,_=>rfl
 | .i _,.b,h=>by cases h
 | .b,.i _,h=>by cases h
theorem uF: ∀{r s:List PT},AV r s=agP->r=s
 | [],[],_=>rfl
 |p::r,q::s,h=>by simp only [AV,ww] at h;rw [PT.Nu h.1,uF h.2]
 | [],_::_,h=>by cases h
 |_::_,[],h=>by cases h
def rM (r q:List PT) (l:List (RT r)):Option (List (RT q)):=if h:AV r q=agP then agF (uF h▸l) else agO
def PT.pv:(p:PT)->p.T->PV
 | .i k,n=> .int k n
 | .b,x=> .bool x
def RT.pv:(r:List PT)->RT r->List PV
 | [],_=>[]
 | [p],a=>[p.pv a]
 |p::q::r,a=>p.pv a.1::RT.pv (q::r) a.2
def PT.sv:(p:PT)->p.T->SV
 | .i k,n=> .int k n
 | .b,x=> .bool x
def RT.sv:(r:List PT)->RT r->List SV
 | [],_=>[]
 | [p],a=>[p.sv a]
 |p::q::r,a=>p.sv a.1::RT.sv (q::r) a.2
def PT.of:(p:PT)->SV->Option p.T
 | .i k,.int l n=>bif eZ l k then agF n else agO
 | .b,.bool x=>agF x
 |_,_=>agO
def RT.of:(r:List PT)->List SV->Option (RT r)
 | [],[]=>agF ()
 | [p],[v]=>p.of v
 |p::q::r,v::vs=>match p.of v,RT.of (q::r) vs with
  |some a,agF b=>agF (a,b)
  |_,_=>agO
 |_,_=>agO
def PT.zero:(p:PT)->p.T
 | .i _=>(0:Int)
 | .b=>agS
def RT.zero:(r:List PT)->RT r
 | []=>()
 | [p]=>p.zero
 |p::q::r=>(p.zero,RT.zero (q::r))
def cd:PV->Option PT
 | .int k n=>match n with
  | .ofNat 0=>agF (.i k)
  |_=>agO
 | .bool b=>match b with
  |false=>agF .b
  |true=>agO
 |_=>agO
def EG:List PV->Option (List PT)
 | []=>agF []
 |v::vs=>match cd v,EG vs with
  |some p,agF r=>agF (p::r)
  |_,_=>agO
def nth {α:Type}:List α->Nat->Option α
 | [],_=>agO
 |x::_,0=>agF x
 |_::r,n+1=>nth r n
theorem bQ {α:Type}: ∀(l:List α) (n:Nat),nth l n=l[n]?
 | [],n=>by simp [nth]
 |x::r,0=>by simp [nth]
 |x::r,n+1=>by simp [nth,bQ r n]
def CY (t:Nat):SE->SV
 | []=> .undef
 |(s,v)::r=>bif Do s t then v else CY t r
def zV (t:Nat) (v:SV):SE->SE
 | []=>[]
 |(s,x)::r=>bif Do s t then (s,v)::r else (s,x)::zV t v r
mutual
def Uy:PV->SV
 | .undef=> .undef
 | .jl=> .jl
 | .dz=> .dz
 | .int k n=> .int k n
 | .bool b=> .bool b
 | .str s=> .str s
 | .agg cs=> .agg (AW cs)
 | .bS cs=> .bS (AW cs)
 | .sl e c rows=>match rows with
  | []=> .nil e c
  |_=> .gP
 | .eh f a b=> .eh f (AW a) (AW b)
 |_=> .gP
def AW:List PV->List SV
 | []=>[]
 |x::xs=>Uy x::AW xs
end
def bG (e:SE):fj->SV
 | .t n=>CY n e
 | .c v=>Uy v
def jx (e:SE):List fj->List SV
 | []=>[]
 |x::xs=>bG e x::jx e xs
def SV.pJ:SV->Bool
 | .gP| .undef| .jl| .agg _| .bS _=>agS
 |_=>agP
def xH:List SV->Bool
 | []=>agP
 |x::xs=>x.pJ&&xH xs
def SV.cells:SV->List SV
 | .agg cs=>cs
 |v=>[v]
def SV.stored (v:SV):Option (List SV):=bif xH v.cells then agF v.cells else agO
def zi (agg:Option Nat) (off:Nat) (cs:List SV):Option SV:=
 match agg with
 |some s=>bif aak (off+s) (agD cs) then agF (.agg ((cs.drop off).take s)) else agO
 |none=>nth cs off
def pf (off:Nat) (new old:List SV):List SV:=old.take off++new++old.drop (off+agD new)
def zj (s:List SB):SV->Option Rows
 | .sl r l=>agF ⟨r,l⟩
 | .own t _=>match nth s t with
  |some (.arr r l)=>agF ⟨r,l⟩
  |_=>agO
 | .pre t len _ _=>match nth s t with
  |some (.arr r l)=>agF ⟨r,l.take len⟩
  |_=>agO
 | .part t off len _ _=>match nth s t with
  |some (.arr r l)=>agF ⟨r,(l.drop off).take len⟩
  |_=>agO
 |_=>agO
def vp:SV->List Nat
 | .own t _=>[t]
 | .pre t _ _ _=>[t]
 | .part t _ _ _ _=>[t]
 |_=>[]
structure fJ where
 v:SV
 news:List SB:=[]
 wr:List (Nat×SB):=[]
 rd:List Nat:=[]
 fr:List Nat:=[]
def fZ (R:Type):= ∀ρ:Type,(R->ρ)->Option ρ
section
variable {R : Type}
def CZ (b:R):fZ R:=fun _ w=>agF (w b)
def aM:fZ R:=fun _ _=>agO
def kO {α:Type} (x:Option α) (f:α->fZ R):fZ R:=fun ρ w=>aaL x fun a=>f a ρ w
def fQ (c:Bool) (a b:fZ R):fZ R:=fun ρ w=>aaM c (a ρ w) (b ρ w)
def Uz (v:SV) (k:SV->fZ R):fZ R:=
 match v with
 | .gP=>k .gP
 | .undef=>k .undef
 | .jl=>k .jl
 | .dz=>k .dz
 | .int a b=>k (.int a b)
 | .bool a=>k (.bool a)
 | .str a=>k (.str a)
 | .agg a=>k (.agg a)
 | .bS a=>k (.bS a)
 | .sl a b=>k (.sl a b)
 | .nil a b=>k (.nil a b)
 | .own a b=>k (.own a b)
 | .pre a b c d=>k (.pre a b c d)
 | .part a b c d x=>k (.part a b c d x)
 | .pa a b c d e=>k (.pa a b c d e)
 | .pb a b c=>k (.pb a b c)
 | .bp a b c=>k (.bp a b c)
 | .bu a b=>k (.bu a b)
 | .eh a b c=>k (.eh a b c)
 | .mp a=>k (.mp a)
theorem H4 (v:SV) (k:SV->fZ R):Uz v k=k v:=by cases v<;>rfl
def LR (op:BinOp) (k:IntKind) (a b:Int) (c:SV->fZ R):fZ R:=
 match op with
 | .add=>c (.int k (ai k (a+b)))
 | .sub=>c (.int k (ai k (a-b)))
 | .mul=>c (.int k (ai k (a*b)))
 | .quo=>fQ (b==0) aM (c (.int k (ai k (Int.tdiv a b))))
 | .rem=>fQ (b==0) aM (c (.int k (Int.tmod a b)))
 | .and=>c (.int k (Dq k a b))
 | .or=>c (.int k (bOr k a b))
 | .xor=>c (.int k (amd k a b))
 | .andNot=>c (.int k (Ux k a b))
 | .eql=>c (.bool (a==b))
 | .neq=>c (.bool (a !=b))
 | .lss=>c (.bool (ah5 (a<b)))
 | .leq=>c (.bool (ah5 (a<=b)))
 | .gtr=>c (.bool (ah5 (b<a)))
 | .geq=>c (.bool (ah5 (b<=a)))
 | .shl| .shr=>aM
def eqS:List SV->List SV->Option Bool
 | [],[]=>agF agP
 |x::xs,y::ys=>match x,y with
  | .int k a,.int l b=>bif eZ k l then (match xs with
   | []=>(match ys with| []=>agF (a==b)|_=>agO)
   |_::_=>match eqS xs ys with
    |some r=>agF (a==b&&r)
    |none=>agO) else agO
  |_,_=>agO
 |_,_=>agO
def vq:List (Nat×Nat×SV)->List SV->Option (List SV)
 | [],cs=>agF cs
 |(off,sz,v)::r,cs=>match v.stored with
  |some w=>bif Do (agD w) sz&&aak (off+sz) (agD cs) then vq r (pf off w cs) else agO
  |none=>agO
def xI (e:SE):List (Nat×Nat×fj)->List (Nat×Nat×SV)
 | []=>[]
 |p::r=>(p.1,p.2.1,bG e p.2.2)::xI e r
def Nv (r:List PT) (e:SE) (n:Nat):List (Nat×fj)->Option (List (Nat×RT r))
 | []=>agF []
 |p::ps=>match RT.of r (bG e p.2).cells,Nv r e n ps with
  |some a,agF l=>bif aaS p.1 n then agF ((p.1,a)::l) else agO
  |_,_=>agO
def rowAt {α:Type} (i:Nat):α->List (Nat×α)->α
 |z,[]=>z
 |z,(j,a)::r=>rowAt i (bif Do j i then a else z) r
def H5 {α:Type} (f:Nat->α):Nat->Nat->List α
 |_,0=>[]
 |i,n+1=>f i::H5 f (i+1) n
def Ca (e:SE) (d:Int):Option fj->Option Int
 |none=>agF d
 |some x=>match bG e x with
  | .int _ n=>agF n
  |_=>agO
def mmS (isMax:Bool) (k:IntKind):Int->List SV->Option SV
 |a,[]=>agF (.int k a)
 |a,x::r=>match x with
  | .int l b=>bif eZ k l then mmS isMax k (bif isMax then (if b>a then b else a) else (if b<a then b else a)) r else agO
  |_=>agO
def Nw:List SV->Option (List Int)
 | []=>agF []
 |x::xs=>match x,Nw xs with
  | .int .i64 n,agF l=>agF (n::l)
  |_,_=>agO
def UA (n:Option Nat) (v:SV):Option (List Int):=
 match n,v with
 |none,.int .i64 a=>agF [a]
 |some n,.agg cs=>bif Do (agD cs) n&&!Nat.beq n 1 then Nw cs else agO
 |_,_=>agO
def JO (n:Nat) (i:Int) (j:Nat) (f:Nat->fZ R):fZ R:=
 match n with
 |0=>aM
 |n+1=>fQ (i==abY j) (f j) (JO n i (j+1) f)
def la {α:Type} (x:Option α) (k:α->fZ R):fZ R:=
 match x with
 |some a=>k a
 |none=>aM
def ofV (k:fJ->fZ R) (v:SV):fZ R:=k {v}
def aaO (s:List SB) (esz:Nat) (x:SV) (i:Int) (k:fJ->fZ R):fZ R:=
 match x with
 | .sl r l=>bif Do (agD r) esz then kO (aG l i) fun a=>k {v:= .bu (RT.sv r a) 0} else aM
 | .own t _=>match nth s t with
  |some (.arr r l)=>bif Do (agD r) esz then kO (aG l i) fun a=>k {v:= .pa t r i a 0} else aM
  |_=>aM
 | .pre t len _ _=>match nth s t with
  |some (.arr r l)=>bif Do (agD r) esz then kO (aG (l.take len) i) fun a=>k {v:= .pa t r i a 0} else aM
  |_=>aM
 | .part t off len _ _=>match nth s t with
  |some (.arr r l)=>bif Do (agD r) esz then kO (aG ((l.drop off).take len) i) fun a=>k {v:= .pa t r (.ofNat (off+i.toNat)) a 0} else aM
  |_=>aM
 |_=>aM
def aaP (s:List SB) (agg:Option Nat) (p:SV) (k:fJ->fZ R):fZ R:=
 match p with
 | .bp t _ off=>match nth s t with
  |some (.box cs)=>la (zi agg off cs) fun v=>k {v,rd:=[t]}
  |_=>aM
 | .pa t r _ a off=>match nth s t with
  |some (.arr _ _)=>la (zi agg off (RT.sv r a)) fun v=>k {v,rd:=[t]}
  |_=>aM
 | .pb t i off=>match nth s t with
  |some (.arr r l)=>kO (aG l i) fun a=>la (zi agg off (RT.sv r a)) fun v=>k {v,rd:=[t]}
  |_=>aM
 | .bu cs off=>la (zi agg off cs) fun v=>k {v}
 |_=>aM
def Rp (s:List SB) (z:List Nat) (sz:Nat) (p v:SV) (k:fJ->fZ R):fZ R:=
 match p with
 | .bp t _ off=>match nth s t with
  |some (.box cs)=>la v.stored fun w=>bif Do (agD w) sz&&aak (off+sz) (agD cs)&&!has z t then k {v:= .undef,wr:=[(t,.box (pf off w cs))]} else aM
  |_=>aM
 | .pa t r i a off=>match nth s t with
  |some (.arr q l)=>bif Do (agD v.cells) sz&&aak (off+sz) (agD r)&&!has z t then
   la (RT.of q (pf off v.cells (RT.sv r a))) fun b=>k {v:= .undef,wr:=[(t,.arr q (bO l i b))]} else aM
  |_=>aM
 | .pb t i off=>match nth s t with
  |some (.arr q l)=>bif Do (agD v.cells) sz&&aak (off+sz) (agD q)&&!has z t then
   (bif Do sz (agD q) then la (RT.of q v.cells) fun b=>k {v:= .undef,wr:=[(t,.arr q (bO l i b))]}
   else kO (aG l i) fun a=>la (RT.of q (pf off v.cells (RT.sv q a))) fun b=>k {v:= .undef,wr:=[(t,.arr q (bO l i b))]}) else aM
  |_=>aM
 |_=>aM
def LS (e:SE) (t off len cap:Nat) (ex:Bool) (lo hi mx:Option fj) (k:fJ->fZ R):fZ R:=
 la (Ca e 0 lo) fun a=>la (Ca e (.ofNat len) hi) fun b=>match mx with
  |none=>fQ (ah5 (0<=a)&&ah5 (a<=b)&&ah5 (b<= .ofNat cap)) (k {v:= .part t (off+a.toNat) (b.toNat-a.toNat) (cap-a.toNat) ex}) aM
  |some m=>match bG e m with
   | .int _ c=>fQ (ah5 (0<=a)&&ah5 (a<=b)&&ah5 (b<=c)&&ah5 (c<= .ofNat cap)) (k {v:= .part t (off+a.toNat) (b.toNat-a.toNat) (c.toNat-a.toNat) agP}) aM
   |_=>aM
def aiz (e:SE) (s:List SB) (esz:Nat) (x:SV) (lo hi mx:Option fj) (k:fJ->fZ R):fZ R:=
 match x with
 | .sl r l=>match mx with
  |none=>bif Do (agD r) esz then la (Ca e 0 lo) fun a=>la (Ca e (abY (agD l)) hi) fun b=>kO (gO l a b) fun m=>k {v:= .sl r m} else aM
  |some _=>aM
 | .own t ex=>match nth s t with
  |some (.arr r l)=>bif Do (agD r) esz then (match lo,hi,mx with
   |none,agO,agO=>k {v:= .own t ex}
   |none,agF h,agO=>match bG e h with
    | .int _ b=>kO (gO l 0 b) fun _=>k {v:= .pre t b.toNat (agD l) ex}
    |_=>aM
   |lo,hi,mx=>LS e t 0 (agD l) (agD l) ex lo hi mx k) else aM
  |_=>aM
 | .pre t len cap ex=>match nth s t with
  |some (.arr r _)=>bif Do (agD r) esz then (match lo,hi,mx with
   |none,agO,agO=>fQ (aak len cap) (k {v:= .pre t len cap ex}) aM
   |none,agF h,agO=>match bG e h with
    | .int _ b=>fQ (ah5 (0<=b)&&ah5 (b<= .ofNat cap)) (k {v:= .pre t b.toNat cap ex}) aM
    |_=>aM
   |lo,hi,mx=>LS e t 0 len cap ex lo hi mx k) else aM
  |_=>aM
 | .part t off len cap ex=>match nth s t with
  |some (.arr r _)=>bif Do (agD r) esz then LS e t off len cap ex lo hi mx k else aM
  |_=>aM
 |_=>aM
def fa {α:Type} (l:List α) (n:Nat) (m:List α):List α:=l.take n++m++l.drop (n+agD m)
def SV.abX:SV->Bool
 | .part .. =>agP
 |_=>agS
def Nx (s:List SB) (z:List Nat) (esz:Nat) (x y:SV) (k:fJ->fZ R):fZ R:=
 match zj s y with
 |none=>aM
 |some ⟨q,m⟩=>bif Do (agD q) esz then (match x with
  | .nil _ c=>bif c then kO (bP m) fun m'=>k {v:= .own (agD s) agS,news:=[.arr q m'],rd:=vp y} else aM
  | .own t ex=>match nth s t with
   |some (.arr r l)=>match rM q r m with
    |none=>aM
    |some m=>match ex with
     |true=>fQ l.isEmpty (kO (bP m) fun m'=>k {v:= .own (agD s) agS,news:=[.arr r m'],rd:=t::vp y})
      (fQ m.isEmpty (k {v:= .own t agP,rd:=vp y}) (kO (bm l m) fun l'=>k {v:= .own (agD s) agS,news:=[.arr r l'],rd:=t::vp y}))
     |false=>fQ m.isEmpty (k {v:= .own t agS,rd:=vp y})
      (bif has z t then aM else kO (bm l m) fun l'=>k {v:= .own (agD s) agS,news:=[.arr r l'],wr:=[(t,.dead)],rd:=vp y})
   |_=>aM
  | .pre t len cap ex=>match nth s t with
   |some (.arr r l)=>match rM q r m with
    |none=>aM
    |some m=>bif ex then aM else fQ m.isEmpty (k {v:= .pre t len cap agS,rd:=vp y})
     (fQ (aak (len+agD m) cap) (fQ (aak (len+agD m) (agD l)&&!has z t) (k {v:= .pre t (len+agD m) cap agS,wr:=[(t,.arr r (fa l len m))],rd:=vp y}) aM)
      (bif has z t||y.abX then aM else kO (bm (l.take len) m) fun l'=>fQ (aak len (agD l)) (k {v:= .own (agD s) agS,news:=[.arr r l'],wr:=[(t,.dead)],rd:=vp y}) aM))
   |_=>aM
  |_=>aM) else aM
def Rq (s:List SB) (z:List Nat) (esz:Nat) (zero:Row) (x:SV) (k:fJ->fZ R):fZ R:=
 match x with
 | .part t off len _ _=>match nth s t with
  |some (.arr r l)=>match EG zero with
   |some q=>bif AV q r&&Do (agD r) esz then fQ (Do len 0) (k {v:= .undef})
    (fQ (aak (off+len) (agD l)&&!has z t) (k {v:= .undef,wr:=[(t,.arr r (fa l off (aaE len (RT.zero r))))]}) aM) else aM
   |none=>aM
  |_=>aM
 |_=>aM
def Ny (n:Option Nat) (zero:PV) (ok:Bool) (t:Nat) (l:List (List Int)) (q:SV) (k:fJ->fZ R):fZ R:=
 match zero,ok with
 | .bool agS,agS=>la (UA n q) fun a=>kO (JM l a) fun b=>k {v:= .bool b,rd:=[t]}
 |_,_=>aM
def Rr (n:Option Nat) (t:Nat) (l:List (List Int)) (q x:SV) (k:fJ->fZ R):fZ R:=
 match x with
 | .bool agP=>la (UA n q) fun a=>kO (JN l a) fun m=>k {v:= .undef,wr:=[(t,.set m)]}
 |_=>aM
def PT.get:(p:PT)->p.T->List (RT [.i .i64,p])->Int->p.T
 | .i _,z,l,k=>CW (α:=Int) z l k
 | .b,z,l,k=>CW (α:=Bool) z l k
def PT.put:(p:PT)->List (RT [.i .i64,p])->Int->p.T->List (RT [.i .i64,p])
 | .i _,l,k,a=>CX (α:=Int) l k a
 | .b,l,k,a=>CX (α:=Bool) l k a
def Nz (n:Option Nat) (zero:PV) (ok:Bool) (t:Nat) (p:PT) (l:List (RT [.i .i64,p])) (q:SV) (k:fJ->fZ R):fZ R:=
 match n with
 |none=>match ok with
  |false=>match q with
   | .int .i64 a=>la (p.of (Uy zero)) fun z=>k {v:=p.sv (p.get z l a),rd:=[t]}
   |_=>aM
  |true=>aM
 |some _=>aM
def Rs (n:Option Nat) (t:Nat) (p:PT) (l:List (RT [.i .i64,p])) (q x:SV) (k:fJ->fZ R):fZ R:=
 match n with
 |none=>match q with
  | .int .i64 a=>la (p.of x) fun v=>k {v:= .undef,wr:=[(t,.bD p (p.put l a v))]}
  |_=>aM
 |some _=>aM
def EH (s:List SB) (z:List Nat) (t:Nat) (r:List PT) (l:List (RT r)) (off len:Nat) (y:SV) (k:fJ->fZ R):fZ R:=
 match zj s y with
 |none=>aM
 |some ⟨q,m⟩=>match rM q r m with
  |none=>aM
  |some m=>fQ (m.take len).isEmpty (k {v:= .int .i64 0,rd:=vp y})
   (fQ (aak (off+(m.take len).length) (agD l)&&!has z t) (k {v:= .int .i64 (.ofNat (m.take len).length),wr:=[(t,.arr r (fa l off (m.take len)))],rd:=vp y}) aM)
def aaQ (s:List SB) (z:List Nat) (esz:Nat) (x y:SV) (k:fJ->fZ R):fZ R:=
 match x with
 | .own t _=>match nth s t with
  |some (.arr r l)=>bif Do (agD r) esz then EH s z t r l 0 (agD l) y k else aM
  |_=>aM
 | .pre t len _ _=>match nth s t with
  |some (.arr r l)=>bif Do (agD r) esz then EH s z t r l 0 len y k else aM
  |_=>aM
 | .part t off len _ _=>match nth s t with
  |some (.arr r l)=>bif Do (agD r) esz then EH s z t r l off len y k else aM
  |_=>aM
 |_=>aM
def l9 (e:SE) (s:List SB) (z:List Nat) (op:kG) (k:fJ->fZ R):fZ R:=
 match op with
 | .Ql x=>k {v:=bG e x}
 | .pick c a b=>match bG e c with
  | .bool c=>fQ c (k {v:=bG e a}) (k {v:=bG e b})
  |_=>aM
 | .bin op x y=>match bG e x with
  | .int ka a=>match bG e y with
   | .int kb b=>match op with
    | .shl=>fQ (ah5 (b<0)) aM (k {v:= .int ka (ame ka a b)})
    | .shr=>fQ (ah5 (b<0)) aM (k {v:= .int ka (nu ka a b)})
    |op=>bif eZ ka kb then LR op ka a b (ofV k) else aM
   |_=>aM
  |_=>aM
 | .I3 neg x y=>match bG e x with
  | .bool a=>match bG e y with
   | .bool b=>k {v:= .bool (bif neg then !(a==b) else a==b)}
   |_=>aM
  |_=>aM
 | .eqc n neg x y=>match bG e x with
  | .agg xs=>match bG e y with
   | .agg ys=>bif Do (agD xs) n&&Do (agD ys) n then la (eqS xs ys) fun b=>k {v:= .bool (bif neg then !b else b)} else aM
   |_=>aM
  |_=>aM
 | .un op x=>match op with
  | .neg=>match bG e x with
   | .int a n=>k {v:= .int a (ai a (0-n))}
   |_=>aM
  | .not=>match bG e x with
   | .bool b=>k {v:= .bool !b}
   |_=>aM
  |_=>aM
 | .conv a x=>match bG e x with
  | .int _ n=>k {v:= .int a (ai a n)}
  |_=>aM
 | .len x=>match bG e x with
  | .nil _ _=>k {v:= .int .i64 0}
  | .pre _ len _ _=>k {v:= .int .i64 (.ofNat len)}
  | .part _ _ len _ _=>k {v:= .int .i64 (.ofNat len)}
  |v=>la (zj s v) fun c=>k {v:= .int .i64 (.ofNat (agD c.l))}
 | .Ll n=>k {v:= .int .i64 (.ofNat n)}
 | .box x=>la (bG e x).stored fun cs=>k {v:= .bp (agD s) (agD cs) 0,news:=[.box cs]}
 | .alloc cells=>k {v:= .bp (agD s) (agD cells) 0,news:=[.box (AW cells)]}
 | .build zero parts=>la (vq (xI e parts) (AW zero)) fun cs=>k {v:= .agg cs}
 | .Az esz n zero parts=>la (EG zero) fun r=>bif Do (agD r) esz then la (Nv r e n parts) fun ps=>
  k {v:= .own (agD s) agP,news:=[.arr r (H5 (fun i=>rowAt i (RT.zero r) ps) 0 n)]} else aM
 | .CL x y=>match bG e x with
  | .sl r l=>match bG e y with
   | .sl q m=>k {v:= .part (agD s) 0 2 2 agP,news:=[.box [.sl r l,.sl q m]]}
   |_=>aM
  |_=>aM
 | .load agg p=>aaP s agg (bG e p) k
 | .store sz p v=>Rp s z sz (bG e p) (bG e v) k
 | .I4 x=>match bG e x with
  | .pa t r i a o=>k {v:= .pa t r i a o}
  | .pb t i o=>k {v:= .pb t i o}
  | .bp t n o=>k {v:= .bp t n o}
  | .bu c o=>k {v:= .bu c o}
  | .eh f a b=>k {v:= .eh f a b}
  |_=>aM
 | .I5 off p=>match bG e p with
  | .pa t r i a o=>k {v:= .pa t r i a (o+off)}
  | .pb t i o=>k {v:= .pb t i (o+off)}
  | .bp t n o=>k {v:= .bp t n (o+off)}
  | .bu c o=>k {v:= .bu c (o+off)}
  |_=>aM
 | .iD agg off x=>match bG e x with
  | .agg cs=>la (zi agg off cs) (ofV k)
  |_=>aM
 | .I6 esz x i=>match bG e i with
  | .int _ n=>aaO s esz (bG e x) n k
  |_=>aM
 | .CN n esz p i=>match bG e i with
  | .int _ j=>match bG e p with
   | .bp t m o=>JO n j 0 fun j=>k {v:= .bp t m (o+j*esz)}
   | .bu c o=>JO n j 0 fun j=>k {v:= .bu c (o+j*esz)}
   |_=>aM
  |_=>aM
 | .idx n esz agg x i=>match bG e i with
  | .int _ j=>match bG e x with
   | .agg cs=>JO n j 0 fun j=>la (zi agg (j*esz) cs) (ofV k)
   |_=>aM
  |_=>aM
 | .I7 x i=>match bG e i with
  | .int _ j=>match bG e x with
   | .str t=>kO (aaN t j) fun b=>k {v:= .int .u8 b}
   |_=>aM
  |_=>aM
 | .OG esz x lo hi mx=>aiz e s esz (bG e x) lo hi mx k
 | .clear esz zero x=>Rq s z esz zero (bG e x) k
 | .copy esz x y=>aaQ s z esz (bG e x) (bG e y) k
 | .mks esz zero l c=>match bG e l with
  | .int _ n=>match bG e c with
   | .int _ m=>fQ (n==m) (la (EG zero) fun r=>bif Do (agD r) esz then kO (wN n (RT.zero r)) fun x=>k {v:= .own (agD s) agP,news:=[.arr r x]} else aM) aM
   |_=>aM
  |_=>aM
 | .mkf fn a b=>k {v:= .eh fn (jx e a) (jx e b)}
 | .mkm z=>match z with
  |none=>k {v:= .mp (agD s),news:=[.set []]}
  |some z=>la (cd z) fun p=>k {v:= .mp (agD s),news:=[.bD p []]}
 | .lookup n zero ok m q=>match bG e m with
  | .mp t=>match nth s t with
   |some (.set l)=>Ny n zero ok t l (bG e q) k
   |some (.bD p l)=>Nz n zero ok t p l (bG e q) k
   |_=>aM
  |_=>aM
 | .HA n m q x=>match bG e m with
  | .mp t=>match nth s t with
   |some (.set l)=>bif has z t then aM else Rr n t l (bG e q) (bG e x) k
   |some (.bD p l)=>bif has z t then aM else Rs n t p l (bG e q) (bG e x) k
   |_=>aM
  |_=>aM
 | .ext i x=>match bG e x with
  | .bS vs=>la (nth vs i) (ofV k)
  |_=>aM
 | .append esz x y=>Nx s z esz (bG e x) (bG e y) k
 | .mm isMax x xs=>match bG e x with
  | .int a n=>la (mmS isMax a n (jx e xs)) (ofV k)
  |_=>aM
 |_=>aM
end
mutual
def GU (s:List SB) (bx:Nat->Option (List SV)):SV->Option SV
 | .int k n=>agF (.int k n)
 | .bool b=>agF (.bool b)
 | .str x=>agF (.str x)
 | .dz=>agF .dz
 | .agg cs=>match rN s bx cs with|some l=>agF (.agg l)|none=>agO
 | .bS cs=>match rN s bx cs with|some l=>agF (.bS l)|none=>agO
 | .sl r l=>agF (.sl r l)
 | .nil e _=>agF (.nil e agS)
 | .own t _=>match nth s t with
  |some (.arr r l)=>agF (.sl r l)
  |_=>agO
 | .pre t len _ _=>match nth s t with
  |some (.arr r l)=>agF (.sl r (l.take len))
  |_=>agO
 | .part t off len _ _=>match nth s t with
  |some (.arr r l)=>agF (.sl r ((l.drop off).take len))
  |_=>agO
 | .pa t r _ a off=>match nth s t with
  |some (.arr _ _)=>agF (.bu (RT.sv r a) off)
  |_=>agO
 | .bp t _ off=>match nth s t with
  |some (.box _)=>match bx t with|some l=>agF (.bu l off)|none=>agO
  |_=>agO
 | .bu cs off=>match rN s bx cs with|some l=>agF (.bu l off)|none=>agO
 | .eh f a b=>match rN s bx a,rN s bx b with
  |some x,agF y=>agF (.eh f x y)
  |_,_=>agO
 |_=>agO
def rN (s:List SB) (bx:Nat->Option (List SV)):List SV->Option (List SV)
 | []=>agF []
 |x::xs=>match GU s bx x,rN s bx xs with
  |some y,agF ys=>agF (y::ys)
  |_,_=>agO
end
def LU (s:List SB) (bx:Nat->Option (List SV)):List SV->Bool
 | []=>agP
 |x::xs=>match x with
  | .mp _=>LU s bx xs
  |x=>match GU s bx x with
   |some _=>LU s bx xs
   |none=>agS
def kv (s:List SB):Nat->Nat->Option (List SV)
 |0,_=>agO
 |n+1,t=>match nth s t with
  |some (.box cs)=>rN s (kv s n) cs
  |_=>agO
mutual
def LV (bx:Nat->List Nat):SV->List Nat
 | .agg cs=>qP bx cs
 | .bS cs=>qP bx cs
 | .own t _=>[t]
 | .pre t _ _ _=>[t]
 | .part t _ _ _ _=>[t]
 | .pa t _ _ _ _=>t::bx t
 | .pb t _ _=>t::bx t
 | .bp t _ _=>t::bx t
 | .bu cs _=>qP bx cs
 | .mp t=>[t]
 | .eh _ a b=>qP bx a++qP bx b
 |_=>[]
def qP (bx:Nat->List Nat):List SV->List Nat
 | []=>[]
 |x::xs=>LV bx x++qP bx xs
end
def wY (s:List SB):Nat->Nat->List Nat
 |0,_=>[]
 |n+1,t=>match nth s t with
  |some (.box cs)=>qP (wY s n) cs
  |_=>[]
mutual
def SV.sure:SV->Bool
 | .gP=>agS
 | .agg cs=>lY cs
 | .bS cs=>lY cs
 | .bu cs _=>lY cs
 | .eh _ a b=>lY a&&lY b
 |_=>agP
def lY:List SV->Bool
 | []=>agP
 |x::xs=>x.sure&&lY xs
end
mutual
def zW:SV->Bool
 | .int _ _| .bool _| .str _=>agP
 | .agg cs=>qQ cs
 | .bS cs=>qQ cs
 |_=>agS
def qQ:List SV->Bool
 | []=>agP
 |x::xs=>zW x&&qQ xs
end
mutual
def Rt (s:List SB):SV->Option SV
 | .int k n=>agF (.int k n)
 | .bool b=>agF (.bool b)
 | .str x=>agF (.str x)
 | .agg cs=>match LW s cs with|some l=>agF (.agg l)|none=>agO
 | .bS cs=>match LW s cs with|some l=>agF (.bS l)|none=>agO
 | .sl r l=>agF (.sl r l)
 | .nil e _=>agF (.nil e agS)
 | .own t _=>match nth s t with
  |some (.arr r l)=>agF (.sl r l)
  |_=>agO
 | .pre t len _ _=>match nth s t with
  |some (.arr r l)=>agF (.sl r (l.take len))
  |_=>agO
 | .part t off len _ _=>match nth s t with
  |some (.arr r l)=>agF (.sl r ((l.drop off).take len))
  |_=>agO
 |_=>agO
def LW (s:List SB):List SV->Option (List SV)
 | []=>agF []
 |x::xs=>match Rt s x,LW s xs with
  |some y,agF ys=>agF (y::ys)
  |_,_=>agO
end
mutual
def Pm (s:List SB) (z:List Nat):List Nat->SV->Option (SV×List Nat)
 |seen,.int k n=>agF (.int k n,seen)
 |seen,.bool b=>agF (.bool b,seen)
 |seen,.agg cs=>match JP s z seen cs with|some p=>agF (.agg p.1,p.2)|none=>agO
 |seen,.bS cs=>match JP s z seen cs with|some p=>agF (.bS p.1,p.2)|none=>agO
 |seen,.nil e c=>bif c then agF (.nil e agS,seen) else agO
 |seen,.own t _=>match nth s t with
  |some (.arr r l)=>bif has seen t||has z t then agO else agF (.sl r l,t::seen)
  |_=>agO
 |_,_=>agO
def JP (s:List SB) (z:List Nat):List Nat->List SV->Option (List SV×List Nat)
 |seen,[]=>agF ([],seen)
 |seen,x::xs=>match Pm s z seen x with
  |some p=>match JP s z p.2 xs with
   |some q=>agF (p.1::q.1,q.2)
   |none=>agO
  |none=>agO
end
mutual
def xJ:Nat->SV->SV×List SB
 |nx,.sl r l=>(.own nx agS,[.arr r l])
 |nx,.nil e _=>(.own nx agS,[.arr (aaE e (.i .i64)) []])
 |nx,.agg cs=>(.agg (tH nx cs).1,(tH nx cs).2)
 |nx,.bS cs=>(.bS (tH nx cs).1,(tH nx cs).2)
 |_,v=>(v,[])
def tH:Nat->List SV->List SV×List SB
 |_,[]=>([],[])
 |nx,x::xs=>((xJ nx x).1::(tH (nx+(xJ nx x).2.length) xs).1,(xJ nx x).2++(tH (nx+(xJ nx x).2.length) xs).2)
end
def EI:SB->List Nat
 | .box cs=>qP sC cs
 |_=>[]
def yD:SB->Bool
 | .box cs=>lY cs
 |_=>agP
def Cb (s:List SB):Nat->List Nat->List Nat->Option (List Nat)
 |_,[],seen=>agF seen
 |0,_::_,_=>agO
 |n+1,t::ts,seen=>
  bif has seen t then Cb s n ts seen
  else match nth s t with
   |some b=>bif yD b then Cb s n (EI b++ts) (seen++[t]) else agO
   |none=>agO
mutual
def pQ (m:List Nat):SV->Option SV
 | .agg cs=>match sU m cs with|some l=>agF (.agg l)|none=>agO
 | .bS cs=>match sU m cs with|some l=>agF (.bS l)|none=>agO
 | .own t ex=>match idxOf t m with|some u=>agF (.own u ex)|none=>agO
 | .pre t len cap ex=>match idxOf t m with|some u=>agF (.pre u len cap ex)|none=>agO
 | .part t off len cap ex=>match idxOf t m with|some u=>agF (.part u off len cap ex)|none=>agO
 | .pa t _ i _ off=>match idxOf t m with|some u=>agF (.pb u i off)|none=>agO
 | .pb t i off=>match idxOf t m with|some u=>agF (.pb u i off)|none=>agO
 | .bp t n off=>match idxOf t m with|some u=>agF (.bp u n off)|none=>agO
 | .bu cs off=>match sU m cs with|some l=>agF (.bu l off)|none=>agO
 | .mp t=>match idxOf t m with|some u=>agF (.mp u)|none=>agO
 | .eh f a b=>match sU m a,sU m b with
  |some x,agF y=>agF (.eh f x y)
  |_,_=>agO
 | .gP=>agO
 |v=>agF v
def sU (m:List Nat):List SV->Option (List SV)
 | []=>agF []
 |x::xs=>match pQ m x,sU m xs with
  |some y,agF ys=>agF (y::ys)
  |_,_=>agO
end
def LX (m:List Nat):SB->Option SB
 | .box cs=>match sU m cs with|some l=>agF (.box l)|none=>agO
 |b=>agF b
def Gs (s:List SB) (m:List Nat):List Nat->Option (List SB)
 | []=>agF []
 |t::ts=>match nth s t with
  |some b=>match LX m b,Gs s m ts with
   |some b',agF r=>agF (b'::r)
   |_,_=>agO
  |none=>agO
def rowOf (rk:List (Nat×List PT)) (esz:Nat):List PT:=
 match rk with
 | []=>aaE esz (.i .i64)
 |(n,r)::q=>bif Do n esz&&Do (agD r) esz then r else rowOf q esz
def H6:Option Nat->SV->SV
 |some _,.own t _=> .own t agS
 |some _,.pre t l c _=> .pre t l c agS
 |some _,.part t o l c _=> .part t o l c agS
 |_,v=>v
def wO (rk:List (Nat×List PT)) (e:SE) (m:List Nat):Nat->List (Nat×Option Nat)->Option (SE×List SB)
 |_,[]=>agF ([],[])
 |nx,(s,k)::r=>
  match k,CY s e with
  |some esz,.nil _ agP=>match wO rk e m (nx+1) r with
   |some p=>agF ((s,.own nx agS)::p.1,.arr (rowOf rk esz) []::p.2)
   |none=>agO
  |_,v=>match pQ m v,wO rk e m nx r with
   |some v',agF p=>agF ((s,H6 k v')::p.1,p.2)
   |_,_=>agO
def EJ (rk:List (Nat×List PT)) (st:oF) (t c esz:Nat):oF:=
 match nth st.aA t with
 |some (.box cs)=>match nth cs c with
  |some (.nil _ agP)=>{st with aA:=st.aA.set t (.box (cs.set c (.own (agD st.aA) agS)))++[.arr (rowOf rk esz) []]}
  |_=>st
 |_=>st
def Ru:SV->Option Nat
 | .bp t _ 0=>agF t
 |_=>agO
def UB:SV->Option Nat
 | .eh _ _ (x::_)=>Ru x
 |x=>Ru x
def lK (rk:List (Nat×List PT)):List (Nat×Option Nat)->oF->oF
 | [],st=>st
 |(s,k)::r,st=>match k with
  |some n=>bif aak 1000 n then (match UB (CY s st.env) with
   |some t=>lK rk r (EJ rk st t (n / 1000-1) (n%1000))
   |none=>lK rk r st) else lK rk r st
  |none=>lK rk r st
def GV (s:List SB) (v:SV):SV:=
 match v with
 | .own t ex=>match nth s t with
  |some (.arr _ l)=> .pre t (agD l) (agD l) ex
  |_=>v
 |_=>v
def NA (s:List SB) (c:Nat):SE->SE
 | []=>[]
 |(t,v)::r=>bif Do t c then (t,GV s v)::r else (t,v)::NA s c r
def AX:List (Nat×Option Nat)->oF->oF
 | [],st=>st
 |(t,_)::r,st=>bif aak 1000000 t then AX r {st with env:=NA st.aA (t-1000000) st.env} else AX r st
def AY (e:SE):List (Nat×Option Nat)->Bool
 | []=>agP
 |(s,_)::r=>(CY s e).sure&&AY e r
def EK (e:SE):List (Nat×Option Nat)->List Nat
 | []=>[]
 |(s,_)::r=>LV sC (CY s e)++EK e r
def LY:List SB->Nat->List Nat
 |b::r,n+1=>EI b++LY r n
 |_,_=>[]
def EL:List SB->Nat->Bool
 |b::r,n+1=>yD b&&EL r n
 |_,_=>agP
def EM (rk:List (Nat×List PT)) (live:List (Nat×Option Nat)) (st:oF):Option oF:=
 bif AY st.env live&&EL st.aA st.kn then
  match Cb st.aA 4096 (LY st.aA st.kn++EK st.env live) (uq st.kn) with
  |none=>agO
  |some m=>match Gs st.aA m m,wO rk st.env m (agD m) live with
   |some s1,agF (e1,s2)=>agF (AX live (lK rk live {env:=e1,aA:=s1++s2,fz:=xg st.fz 0 m,kn:=st.kn}))
   |_,_=>agO
 else agO
def EN (rk:List (Nat×List PT)) (live:List (Nat×Option Nat)) (st:oF):Option oF:=
 match EM rk live st with
 |some s=>bif live.any fun p=>p.2.isSome then EM rk live s else agF s
 |none=>agO
inductive AK where
 |i
 |b
 |n
 |l (r:List PT)
 |s
@[reducible] def AK.T : AK -> Type
  | .i => Int
  | .b => Bool
  | .n => Nat
  | .l r => List (RT r)
  | .s => List (List Int)
@[reducible] def gT : List AK -> Type
  | [] => Unit
  | [a] => a.T
  | a :: q :: r => a.T × gT (q :: r)
inductive w9 where
 |i (n:Int)
 |b (x:Bool)
 |n (x:Nat)
 |l (r:List PT) (x:List (RT r))
 |s (x:List (List Int))
def w9.k:w9->AK
 | .i _=> .i
 | .b _=> .b
 | .n _=> .n
 | .l r _=> .l r
 | .s _=> .s
def AK.at:(a:AK)->a.T->w9
 | .i,x=> .i x
 | .b,x=> .b x
 | .n,x=> .n x
 | .l r,x=> .l r x
 | .s,x=> .s x
def AK.of:(a:AK)->w9->Option a.T
 | .i,.i x=>agF x
 | .b,.b x=>agF x
 | .n,.n x=>agF x
 | .l r,.l q x=>rM q r x
 | .s,.s x=>agF x
 |_,_=>agO
def kQ:(ks:List AK)->gT ks->List w9
 | [],_=>[]
 | [a],x=>[a.at x]
 |a::q::r,x=>a.at x.1::kQ (q::r) x.2
def lf:(ks:List AK)->List w9->Option (gT ks)
 | [],[]=>agF ()
 | [a],[x]=>a.of x
 |a::q::r,x::xs=>match a.of x,lf (q::r) xs with
  |some y,agF ys=>agF (y,ys)
  |_,_=>agO
 |_,_=>agO
mutual
def Cc:SV->List w9
 | .int _ n=>[.i n]
 | .bool b=>[.b b]
 | .agg cs=>Cf cs
 | .bS cs=>Cf cs
 | .sl r l=>[.l r l]
 | .pre _ len cap _=>[.n len,.n cap]
 | .part _ off len cap _=>[.n off,.n len,.n cap]
 | .pb _ i _=>[.i i]
 | .bu cs _=>Cf cs
 | .eh _ a b=>Cf a++Cf b
 |_=>[]
def Cf:List SV->List w9
 | []=>[]
 |x::xs=>Cc x++Cf xs
end
def Rv:SB->List w9
 | .arr r l=>[.l r l]
 | .box cs=>Cf cs
 | .set l=>[.s l]
 | .bD p l=>[.l [.i .i64,p] l]
 | .dead=>[]
def H7:List SB->List w9
 | []=>[]
 |b::r=>Rv b++H7 r
def Pn:SE->List w9
 | []=>[]
 |(_,v)::r=>Cc v++Pn r
def nM (st:oF):List w9:=Pn st.env++H7 st.aA
mutual
def wP:SV->SV->Bool
 | .undef,.undef=>agP
 | .jl,.jl=>agP
 | .dz,.dz=>agP
 | .int k _,.int l _=>eZ k l
 | .bool _,.bool _=>agP
 | .agg a,.agg b=>xK a b
 | .bS a,.bS b=>xK a b
 | .sl r _,.sl q _=>AV r q
 | .nil e c,.nil f d=>Do e f&&c==d
 | .own t x,.own u y=>Do t u&&x==y
 | .pre t _ _ x,.pre u _ _ y=>Do t u&&x==y
 | .part t _ _ _ x,.part u _ _ _ y=>Do t u&&x==y
 | .pb t _ o,.pb u _ p=>Do t u&&Do o p
 | .bp t n o,.bp u m p=>Do t u&&Do n m&&Do o p
 | .bu a o,.bu b p=>xK a b&&Do o p
 | .eh f a b,.eh g c d=>Do f g&&xK a c&&xK b d
 | .mp t,.mp u=>Do t u
 | .gP,.gP=>agP
 |_,_=>agS
def xK:List SV->List SV->Bool
 | [],[]=>agP
 |x::xs,y::ys=>wP x y&&xK xs ys
 |_,_=>agS
end
def aaR:SB->SB->Bool
 | .arr r _,.arr q _=>AV r q
 | .box a,.box b=>xK a b
 | .set _,.set _=>agP
 | .bD p _,.bD q _=>p.same q
 | .dead,.dead=>agP
 |_,_=>agS
def EO:List SB->List SB->Bool
 | [],[]=>agP
 |x::xs,y::ys=>aaR x y&&EO xs ys
 |_,_=>agS
def NB:SE->SE->Bool
 | [],[]=>agP
 |(t,x)::xs,(u,y)::ys=>Do t u&&wP x y&&NB xs ys
 |_,_=>agS
def NC:List Nat->List Nat->Bool
 | [],[]=>agP
 |x::xs,y::ys=>Do x y&&NC xs ys
 |_,_=>agS
def zX (a b:oF):Bool:=NB a.env b.env&&EO a.aA b.aA&&NC a.fz b.fz&&Do a.kn b.kn
mutual
def sH:SV->List w9->SV×List w9
 | .int k _,.i n::q=>(.int k n,q)
 | .bool _,.b x::q=>(.bool x,q)
 | .agg cs,q=>(.agg (qR cs q).1,(qR cs q).2)
 | .bS cs,q=>(.bS (qR cs q).1,(qR cs q).2)
 | .sl _ _,.l r l::q=>(.sl r l,q)
 | .pre t _ _ x,.n len:: .n cap::q=>(.pre t len cap x,q)
 | .part t _ _ _ x,.n off:: .n len:: .n cap::q=>(.part t off len cap x,q)
 | .pb t _ o,.i i::q=>(.pb t i o,q)
 | .bu cs o,q=>(.bu (qR cs q).1 o,(qR cs q).2)
 | .eh f a b,q=>(.eh f (qR a q).1 (qR b (qR a q).2).1,(qR b (qR a q).2).2)
 |v,q=>(v,q)
def qR:List SV->List w9->List SV×List w9
 | [],q=>([],q)
 |x::xs,q=>((sH x q).1::(qR xs (sH x q).2).1,(qR xs (sH x q).2).2)
end
def LZ:SB->List w9->SB×List w9
 | .arr _ _,.l r l::q=>(.arr r l,q)
 | .box cs,q=>(.box (qR cs q).1,(qR cs q).2)
 | .set _,.s l::q=>(.set l,q)
 | .bD _ _,.l [.i .i64,p] l::q=>(.bD p l,q)
 |b,q=>(b,q)
def zY:List SB->List w9->List SB×List w9
 | [],q=>([],q)
 |b::r,q=>((LZ b q).1::(zY r (LZ b q).2).1,(zY r (LZ b q).2).2)
def JQ:SE->List w9->SE×List w9
 | [],q=>([],q)
 |(t,v)::r,q=>((t,(sH v q).1)::(JQ r (sH v q).2).1,(JQ r (sH v q).2).2)
def uG (st:oF) (q:List w9):oF:={st with env:=(JQ st.env q).1,aA:=(zY st.aA (JQ st.env q).2).1}
def Rw:List w9->List AK
 | []=>[]
 |a::r=>a.k::Rw r
def ptK {β:Type 1} (p:PT) (c:PT->β):β:=
 match p with
 | .i k=>c (.i k)
 | .b=>c .b
def rK {β:Type 1}:List PT->(List PT->β)->β
 | [],c=>c []
 |p::r,c=>ptK p fun p=>rK r fun r=>c (p::r)
def UC {β:Type 1}:List AK->(List AK->β)->β
 | [],c=>c []
 | .i::r,c=>UC r fun r=>c (.i::r)
 | .b::r,c=>UC r fun r=>c (.b::r)
 | .n::r,c=>UC r fun r=>c (.n::r)
 | .l q::r,c=>rK q fun q=>UC r fun r=>c (.l q::r)
 | .s::r,c=>UC r fun r=>c (.s::r)
mutual
def qS:SV->Option PV
 | .int k n=>agF (.int k n)
 | .bool b=>agF (.bool b)
 | .str x=>agF (.str x)
 | .dz=>agF .dz
 | .agg cs=>match oA cs with|some l=>agF (.agg l)|none=>agO
 | .bS cs=>match oA cs with|some l=>agF (.bS l)|none=>agO
 | .sl r l=>agF (.sl (agD r) agS (l.map (RT.pv r)))
 | .nil e c=>agF (.sl e c [])
 | .bu cs off=>match oA cs with|some l=>agF (.bu l off)|none=>agO
 | .eh f a b=>match oA a,oA b with
  |some x,agF y=>agF (.eh f x y)
  |_,_=>agO
 |_=>agO
def oA:List SV->Option (List PV)
 | []=>agF []
 |x::xs=>match qS x,oA xs with
  |some y,agF ys=>agF (y::ys)
  |_,_=>agO
end
structure bR (α:Type) where
 enc:α->List SV
 dec:List SV->Option (α×List SV)
 law: ∀{vs:List SV} {a:α} {rest:List SV} {ps:List PV},dec vs=agF (a,rest)->oA vs=agF ps-> ∃p q,ps=p++q/\oA (enc a)=agF p/\oA rest=agF q
structure Arg (α:Type) where
 enc:α->SV
 dec:SV->Option α
 law: ∀{v:SV} {a:α} {p:PV},dec v=agF a->qS v=agF p->qS (enc a)=agF p
structure au (α:Type) where
 enc:α->List SV
 dec:List SV->Option α
 law: ∀{vs:List SV} {a:α} {ps:List PV},dec vs=agF a->oA vs=agF ps->oA (enc a)=agF ps
inductive Kd where
 |pure
 |uj
 |own
structure ru where
 {α β:Type}
 args:au α
 res:Arg β
 fn:α->Option β
 kd:Kd
 ow:Bool
structure ff where
 ka:List AK
 ta:List SV
 tb:List SB
 ko:List AK
 tv:SV
 to:List SB
 fn:gT ka->Option (gT ko)
def AZ:(p:PT)->PV->Option p.T
 | .i k,.int l n=>bif eZ l k then agF n else agO
 | .b,.bool x=>agF x
 |_,_=>agO
def Gt:(r:List PT)->List PV->Option (RT r)
 | [],[]=>agF ()
 | [p],[v]=>AZ p v
 |p::q::r,v::vs=>match AZ p v,Gt (q::r) vs with
  |some a,agF b=>agF (a,b)
  |_,_=>agO
 |_,_=>agO
def A0 (r:List PT):List (List PV)->Option (List (RT r))
 | []=>agF []
 |x::xs=>match Gt r x,A0 r xs with
  |some a,agF l=>agF (a::l)
  |_,_=>agO
structure Srt where
 r:List PT
 g:Option FuncId
 fn:List (RT r)->Option (List (RT r))
def UD:Option FuncId->List PV->Bool
 |none,[]=>agP
 |some g,[.eh h [] []]=>Do h g
 |_,_=>agS
def Rx (q:Srt) (args:List PV) (aA:bW) (fz:List Nat):Option (PV×bW×List Nat):=
 match args with
 | .own t e off len _ _::r=>match aA[t]? with
  |some (.arr e1 rows)=>if Do e (agD q.r)&&Do off 0&&aak len (agD rows)&&aak len lI&&!has fz t&&UD q.g r then
   (match A0 q.r (rows.take len) with
   |some l=>match q.fn l with
    |some m=>if Do (agD m) (agD l) then agF (.bS [],aA.set t (.arr e1 (m.map (RT.pv q.r)++rows.drop len)),fz) else agO
    |none=>agO
   |none=>agO) else agO
  |_=>agO
 |_=>agO
inductive Cd where
 |code (x:aK)
 |ins (esz:Nat)
 |srt (q:Srt)
 |cat
instance:Coe aK Cd:=⟨.code⟩
def Cd.ent:Cd->TO
 | .code x=> .code x
 | .ins n=> .OH (Qw n)
 | .srt q=> .OH (Rx q)
 | .cat=> .OH abk
structure Ctx where
 lp:Option Nat
 con:FuncId->List ru
 fpc:FuncId->List ff
 code:FuncId->Option Cd
 rk:List (Nat×List PT)
 jn:Bool
inductive XRS where
 |loc (r:fJ)
 |shr (v:SV) (s:List SB) (z:List Nat)
def SV.abZ:SV->Bool
 | .own .. | .pre .. | .part .. | .pa .. | .pb .. | .bp .. | .mp .. =>agP
 |_=>agS
def zZ:List SV->Bool
 | []=>agS
 |x::xs=>x.abZ||zZ xs
mutual
def TX (ts:List Nat):SV->SV
 | .pa t r i a off=>bif has ts t then .pb t i off else .pa t r i a off
 | .agg cs=> .agg (Ry ts cs)
 | .bS cs=> .bS (Ry ts cs)
 | .bu cs off=> .bu (Ry ts cs) off
 | .eh f a b=> .eh f (Ry ts a) (Ry ts b)
 |v=>v
def Ry (ts:List Nat):List SV->List SV
 | []=>[]
 |x::xs=>TX ts x::Ry ts xs
end
def dgE (ts:List Nat):SE->SE
 | []=>[]
 |(t,v)::r=>(t,TX ts v)::dgE ts r
def UE (ts:List Nat):SB->SB
 | .box cs=> .box (Ry ts cs)
 |b=>b
def BK (ts:List Nat):List SB->List SB
 | []=>[]
 |b::r=>UE ts b::BK ts r
def Rz:List SB->Nat->SB->List SB
 | [],_,_=>[]
 |_::r,0,b=>b::r
 |x::r,n+1,b=>x::Rz r n b
def qx:List (Nat×SB)->List SB->List SB
 | [],s=>s
 |(t,b)::r,s=>qx r (Rz s t b)
def xL:List (Nat×SB)->List Nat
 | []=>[]
 |(t,_)::r=>t::xL r
def H8 (d:Option Nat) (v:SV) (e:SE):SE:=
 match d with
 |some t=>(t,v)::e
 |none=>e
def apS:List SB->List SB->List SB
 | [],l=>l
 |b::r,l=>b::apS r l
def fJ.next (d:Option Nat) (st:oF) (r:fJ):oF:=
 match r.wr with
 | []=>{env:=H8 d r.v st.env,aA:=apS st.aA r.news,fz:=r.fr++st.fz,kn:=st.kn}
 |w=>{env:=H8 d r.v (dgE (xL w) st.env),aA:=apS (BK (xL w) (qx w st.aA)) r.news,fz:=r.fr++st.fz,kn:=st.kn}
def fJ.ok (z:List Nat) (r:fJ):Bool:=(xL r.wr).all fun t=>!has z t
def fJ.tr (nx:Nat) (r:fJ):Tr:=
 ⟨r.rd++r.fr,xL r.wr,!r.news.isEmpty,agS,(r.rd++r.fr).all (aaS · nx)&&(xL r.wr).all (aaS · nx),nx,nx+agD r.news⟩
def RA:Tr:=⟨[],[],agP,agP,agP,0,0⟩
def pg {R:Type}:List SB->List SB->fZ R->fZ R
 | [],_,k=>k
 |x::xs,y::ys,k=>match x with
  | .arr r l=>match y with
   | .arr q m=>bif AV r q then fQ (agD m==agD l) (pg xs ys k) aM else aM
   | .dead=>pg xs ys k
   |_=>aM
  | .dead=>match y with
   | .dead=>pg xs ys k
   |_=>aM
  | .box _=>match y with
   | .box _=>pg xs ys k
   | .dead=>pg xs ys k
   |_=>aM
  |_=>pg xs ys k
 |_,_,_=>aM
abbrev UF:=FuncId->List SV->List SB->List Nat-> ∀R:Type,(SV->List SB->List Nat->fZ R)->fZ R
section
variable {R : Type}
def aiA (_:FuncId) (_:List SV):fZ R:=aM
def amg (_:FuncId) (_:List SV) (_:List SB):fZ R:=aM
def L0 (f:FuncId) (m:Bool) (s:List SB) (tk:List Nat) (vs:List SV) (k:XRS->fZ R):List ru->fZ R
 | []=>aiA f vs
 |c::r=>match c.args.dec vs with
  |some a=>bif m==c.ow then kO (c.fn a) fun b=>match c.kd with
   | .pure=>k (.loc {v:=c.res.enc b,rd:=tk})
   | .uj=>k (.loc {v:=c.res.enc b,rd:=tk,fr:=tk})
   | .own=>k (.loc {v:=(xJ (agD s) (c.res.enc b)).1,news:=(xJ (agD s) (c.res.enc b)).2,rd:=tk}) else L0 f m s tk vs k r
  |none=>L0 f m s tk vs k r
mutual
def JR (g:Nat->Nat):SV->SV
 | .agg cs=> .agg (C0 g cs)
 | .bS cs=> .bS (C0 g cs)
 | .own t ex=> .own (g t) ex
 | .pre t len cap ex=> .pre (g t) len cap ex
 | .part t off len cap ex=> .part (g t) off len cap ex
 | .pa t _ i _ off=> .pb (g t) i off
 | .pb t i off=> .pb (g t) i off
 | .bp t n off=> .bp (g t) n off
 | .bu cs off=> .bu (C0 g cs) off
 | .mp t=> .mp (g t)
 | .eh f a b=> .eh f (C0 g a) (C0 g b)
 |v=>v
def C0 (g:Nat->Nat):List SV->List SV
 | []=>[]
 |x::xs=>JR g x::C0 g xs
end
def RC (g:Nat->Nat):SB->SB
 | .box cs=> .box (C0 g cs)
 |b=>b
def zk (g:Nat->Nat):List Nat->List SB->List (Nat×SB)
 |t::r,b::s=>(t,RC g b)::zk g r s
 |_,_=>[]
def aaT (k:Nat) (v:SV) (s:List SB):Bool:=(LV sC v++s.flatMap EI).all fun t=>aaS t k
def fpS (f : FuncId) (n : Nat) (tk : List Nat) (vs : List SV) (s0 : List SB) (k : XRS -> fZ R) : List ff -> fZ R
  | [] => amg f vs s0
  | c :: r => bif xK c.ta vs && EO c.tb s0 then (match lf c.ka (Cf vs ++ H7 s0) with
      | some a => kO (c.fn a) fun b =>
          k (.loc { v := JR (jV tk n) (sH c.tv (kQ c.ko b)).1, wr := zk (jV tk n) tk (zY c.to (sH c.tv (kQ c.ko b)).2).1 })
      | none => fpS f n tk vs s0 k r) else fpS f n tk vs s0 k r
def GW (cx:Ctx) (inl:UF) (e:SE) (s:List SB) (z:List Nat) (op:kG) (k:XRS->fZ R):fZ R:=
 match op with
 | .call m f args=>match m with
  | .TN=>match rN s (kv s deep) (jx e args) with
   |some vs=>L0 f agS s (qP (wY s deep) (jx e args)) vs k (cx.con f)
   |none=>aM
  | .own=>match rN s (kv s deep) (jx e args) with
   |some vs=>L0 f agP s (qP (wY s deep) (jx e args)) vs k (cx.con f)
   |none=>aM
  | .shr=>inl f (jx e args) s z R fun v s' z'=>k (.shr v s' z')
  | .fp=>match LU s (kv s deep) (jx e args) with
   |false=>aM
   |true=>let tk:=oy (qP (wY s deep) (jx e args))
    bif tk.all (fun t=>!has z t) then (match sU tk (jx e args),Gs s tk tk with
     |some vs,agF s0=>fpS f (agD s) tk vs s0 k (cx.fpc f)
     |_,_=>aM) else aM
 | .wF x args=>match bG e x with
  | .eh f a b=>bif zZ (jx e args++b) then inl f (a++jx e args++b) s z R fun v s' z'=>k (.shr v s' z')
   else match rN s (kv s deep) (a++jx e args++b) with
   |some vs=>L0 f agS s (qP (wY s deep) (a++jx e args++b)) vs k (cx.con f)
   |none=>aM
  |_=>aM
 |op=>l9 e s z op fun r=>k (.loc r)
def ND (d:Option Nat) (st:oF) (tr:List Tr) (k:oF->List Tr->fZ R) (x:XRS):fZ R:=
 match x with
 | .loc r=>bif r.ok st.fz then Uz r.v fun v=>k ({r with v}.next d st) (r.tr (agD st.aA)::tr) else aM
 | .shr v s z=>Uz v fun v=>pg st.aA s (bif st.fz.all (has z) then k {env:=H8 d v (dgE (uq (agD st.aA)) st.env),aA:=s,fz:=z,kn:=st.kn} (RA::tr) else aM)
def oG (cx:Ctx) (inl:UF):List bE->oF->List Tr->(oF->List Tr->fZ R)->fZ R
 | [],st,tr,k=>k st tr
 |o::r,st,tr,k=>
  let run:=fun st:oF=>match o.op with
   | .pick (.t c) a b=>match CY c st.env with
    | .bool x=>fQ x (ND o.dst {st with env:=zV c (.bool agP) st.env} tr (oG cx inl r · · k) (.loc {v:=bG st.env a}))
     (ND o.dst {st with env:=zV c (.bool agS) st.env} tr (oG cx inl r · · k) (.loc {v:=bG st.env b}))
    |_=>aM
   |op=>GW cx inl st.env st.aA st.fz op (ND o.dst st tr (oG cx inl r · · k))
  let skip:=fun st:oF=>oG cx inl r {st with env:=H8 o.dst .jl st.env} (Tr.idle::tr) k
  match o.guard with
  |none=>run st
  |some (s,want)=>match CY s st.env with
   | .bool x=>bif want then fQ x (run {st with env:=zV s (.bool agP) st.env}) (skip {st with env:=zV s (.bool agS) st.env})
    else fQ x (skip {st with env:=zV s (.bool agP) st.env}) (run {st with env:=zV s (.bool agS) st.env})
   | .jl=>skip st
   |_=>aM
def JS (e:SE):List Nat->(SE->fZ R)->fZ R
 | [],k=>k []
 |s::r,k=>Uz (CY s e) fun v=>JS e r fun e'=>k ((s,v)::e')
def jnV:SV->SV->SV
 | .undef,_=> .gP
 |_,v=>v
def jnE (o:SE):SE->SE
 | []=>[]
 |(t,v)::r=>(t,jnV (CY t o) v)::jnE o r
def jnL (o:SE):List Nat->SE
 | []=>[]
 |t::r=>(t,jnV (CY t o) (CY t o))::jnL o r
def Po (o:SE) (fH:List Nat) (st:oF):oF:={st with env:=jnL o fH}
def guards:List bE->Nat
 | []=>0
 |o::r=>match o.guard with
  |none=>guards r
  |some _=>guards r+1
def jnC:ji->Bool
 | .seq (.region _ ops _) (.cond _ _ _)=>aak 8 (guards ops)
 |_=>agS
def jnK:ji->List Nat
 | .seq (.region _ _ fH) _=>fH
 |_=>[]
noncomputable def xM (cx:Ctx) (inl:UF):(c:ji)->(R:Type)->oF->(gS->oF->fZ R)->fZ R
 | .skip,_,st,k=>k .normal st
 | .region d ops fH,_,st,k=>oG cx inl ops st [] fun kA tr=>
  let fin:=JS kA.env fH fun e=>k .normal {kA with env:=e}
  match d with
  |none=>fin
  |some bf=>match qL 0 (tr.reverse.zip bf) with
   |true=>fin
   |false=>aM
 | .seq a b,R,st,k=>match cx.jn&&jnC a with
  |false=>xM cx inl a R st fun e kA=>match e with
   | .normal=>xM cx inl b R kA k
   |e=>k e kA
  |true=>UC (Rw (nM (Po st.env (jnK a) st))) fun ks=>match lf ks (nM (Po st.env (jnK a) st)) with
   |none=>aM
   |some y0=>fun ρ w=>Nt cx.lp (fun y:Bool×gT ks=>fQ y.1
    (xM cx inl a (Step (Bool×gT ks) ρ) st fun e st2=>match e with
     | .normal=>bif zX (Po st.env (jnK a) st) {st2 with env:=jnE st.env st2.env} then (match lf ks (nM {st2 with env:=jnE st.env st2.env}) with
      |some y'=>CZ (.next (agS,y'))
      |none=>aM) else aM
     |e=>fun xa w'=>k e st2 xa fun r=>w' (.done (w r)))
    (fun xa w'=>xM cx inl b R (uG (Po st.env (jnK a) st) (kQ ks y.2)) k xa fun r=>w' (.done (w r))) (Step (Bool×gT ks) ρ) fun z=>z) (agP,y0)
 | .cond c a b,R,st,k=>match bG st.env c with
  | .bool x=>fQ x (xM cx inl a R st k) (xM cx inl b R st k)
  |_=>aM
 | .block id b,R,st,k=>xM cx inl b R st fun e kA=>match e with
  | .exit j=>bif Do j id then k .normal kA else k (.exit j) kA
  |e=>k e kA
 | .loop live b,_,st,k=>match EN cx.rk live st with
  |none=>aM
  |some st1=>UC (Rw (nM st1)) fun ks=>match lf ks (nM st1) with
   |none=>aM
   |some y0=>fun ρ w=>Nt cx.lp (fun y:gT ks=>xM cx inl b (Step (gT ks) ρ) (uG st1 (kQ ks y)) (fun e st2=>match e with
    | .normal=>match EN cx.rk live st2 with
     |some L1=>bif zX st1 L1 then (match lf ks (nM L1) with
      |some y'=>CZ (.next y')
      |none=>aM) else aM
     |none=>aM
    |e=>fun xa w'=>k e st2 xa fun r=>w' (.done (w r))) (Step (gT ks) ρ) fun z=>z) y0
 | .exit id,_,st,k=>k (.exit id) st
 | .ret,_,st,k=>k .ret st
def L2 (st:oF):RV->Option SV
 | .tmp t=>agF (CY t st.env)
 | .cell t agg=>match CY t st.env with
  | .bp t _ off=>match nth st.aA t with
   |some (.box cs)=>zi agg off cs
   |_=>agO
  | .bu cs off=>zi agg off cs
  |_=>agO
def yE (st:oF):List RV->Option (List SV)
 | []=>agF []
 |r::rs=>match L2 st r,yE st rs with
  |some v,agF vs=>agF (v::vs)
  |_,_=>agO
def Cg:List SV->SV
 | [v]=>v
 |vs=> .bS vs
def L3:Nat->List SV->SE
 |_,[]=>[]
 |i,v::r=>(i,v)::L3 (i+1) r
noncomputable def JT (cx:Ctx) (inl:UF) (x:aK) (R:Type) (args:List SV) (s:List SB) (z:List Nat) (k:SV->List SB->List Nat->fZ R):fZ R:=
 bif Do (agD args) x.CO then xM cx inl x.code R {env:=L3 0 args,aA:=s,fz:=z,kn:=agD s} fun e st=>match e with
  | .exit _=>aM
  |_=>match yE st x.res with
   |some vs=>k (Cg vs) st.aA st.fz
   |none=>aM
 else aM
def fJ.na (s:List SB) (r:fJ):List SB:=
 match r.wr with
 | []=>apS s r.news
 |w=>apS (BK (xL w) (qx w s)) r.news
def C1:Option FuncId->List SV->Bool
 |none,[]=>agP
 |some g,[.eh h [] []]=>Do h g
 |_,_=>agS
structure aiB where
 t:Nat
 r:List PT
 l:List (RT r)
 i:Int
 m:List (RT r)
def UG (esz:Nat) (args:List SV) (s:List SB) (z:List Nat):Option aiB:=
 match args with
 | [.own t _,.int .i64 i,.own u _]=>match nth s t with
  |some (.arr r l)=>match nth s u with
   |some (.arr q m)=>match rM q r m with
    |some m=>bif Do (agD r) esz&&!Nat.beq t u&&!has z t then agF ⟨t,r,l,i,m⟩ else agO
    |none=>agO
   |_=>agO
  |_=>agO
 |_=>agO
def ab2 (esz:Nat) (args:List SV) (s:List SB) (z:List Nat) (k:SV->List SB->List Nat->fZ R):fZ R:=
 match UG esz args s z with
 |some a=>kO (H0 a.l a.i a.m) fun l'=>k (.own (agD s) agS) (fJ.na s {v:= .own (agD s) agS,news:=[.arr a.r l'],wr:=[(a.t,.dead)]}) z
 |none=>aM
structure aiC where
 t:Nat
 r:List PT
 l:List (RT r)
 m:List (RT r)
def UH (args:List SV) (s:List SB) (z:List Nat):Option aiC:=
 match args with
 | [.part t off len _ _]=>match nth s t with
  |some (.box [.sl r l,.sl q m])=>match rM q r m with
   |some m=>bif Do (agD r) 1&&Do off 0&&Do len 2&&!has z t then agF ⟨t,r,l,m⟩ else agO
   |none=>agO
  |_=>agO
 |_=>agO
def ab3 (args:List SV) (s:List SB) (z:List Nat) (k:SV->List SB->List Nat->fZ R):fZ R:=
 match UH args s z with
 |some a=>kO (abV a.l a.m) fun l'=>k (.own (agD s) agS) (fJ.na s {v:= .own (agD s) agS,news:=[.arr a.r l'],wr:=[(a.t,.dead)]}) z
 |none=>aM
def UI (r:List PT) (g:Option FuncId) (args:List SV) (s:List SB) (z:List Nat):Option (Nat×Option Nat×List (RT r)):=
 match args with
 | .own t _::a=>match nth s t with
  |some (.arr q l)=>match rM q r l with
   |some l=>bif !has z t&&C1 g a then agF (t,agO,l) else agO
   |none=>agO
  |_=>agO
 | .pre t len _ _::a=>match nth s t with
  |some (.arr q l)=>match rM q r l with
   |some l=>bif !has z t&&C1 g a then agF (t,agF len,l) else agO
   |none=>agO
  |_=>agO
 |_=>agO
def ab4 (q:Srt) (args:List SV) (s:List SB) (z:List Nat) (k:SV->List SB->List Nat->fZ R):fZ R:=
 match UI q.r q.g args s z with
 |some (t,agO,l)=>kO (EF q.fn l) fun m=>k (.bS []) (fJ.na s {v:= .bS [],wr:=[(t,.arr q.r m)]}) z
 |some (t,agF len,l)=>kO (H3 q.fn len l) fun m=>k (.bS []) (fJ.na s {v:= .bS [],wr:=[(t,.arr q.r m)]}) z
 |none=>aM
noncomputable def RD (cx:Ctx):Nat->UF
 |0=>fun _ _ _ _ _ _=>aM
 |n+1=>fun f args s z R k=>match cx.code f with
  |some (.code x)=>JT cx (RD cx n) x R args s z k
  |some (.ins e)=>ab2 e args s z k
  |some (.srt q)=>ab4 q args s z k
  |some .cat=>ab3 args s z k
  |none=>aM
def RE (kd:Kd) {β:Type} (res:Arg β) (v:SV) (s:List SB) (z:List Nat):fZ β:=
 match kd with
 | .pure=>bif zW v then la (res.dec v) CZ else aM
 | .uj=>bif zW v then aM else la (Rt s v) fun u=>la (res.dec u) CZ
 | .own=>la (Pm s z [] v) fun u=>la (res.dec u.1) CZ
noncomputable def aaU (cx:Ctx) (x:aK) {α β:Type} (args:au α) (res:Arg β) (kd:Kd) (a:α):Option β:=
 JT cx (RD cx 8) x β (args.enc a) [] [] (RE kd res) β fun b=>b
def EP:List SB->Bool
 | []=>agP
 |b::r=>yD b&&EP r
def A1 {R:Type}:List SB->List SB->fZ R->fZ R
 | [],[],k=>k
 |x::xs,y::ys,k=>match x with
  | .arr r l=>match y with
   | .arr q m=>bif AV r q then fQ (agD m==agD l) (A1 xs ys k) aM else aM
   |_=>aM
  | .dead=>match y with
   | .dead=>A1 xs ys k
   |_=>aM
  | .box _=>match y with
   | .box _=>A1 xs ys k
   |_=>aM
  | .set _=>match y with
   | .set _=>A1 xs ys k
   |_=>aM
  | .bD _ _=>match y with
   | .bD _ _=>A1 xs ys k
   |_=>aM
 |_,_,_=>aM
noncomputable def amh (wd:Bool) (cx:Ctx) (x:aK) (ka:List AK) (ta:List SV) (tb:List SB) (ko:List AK) (tv:SV) (to:List SB) (a:gT ka):Option (gT ko):=
 JT cx (RD cx 8) x (gT ko) (qR ta (kQ ka a)).1 (zY tb (qR ta (kQ ka a)).2).1 [] (fun v s z=>match z with
  | []=>let u:=bif wd then GV s v else v
   let s1:=s.take (agD tb)
   bif wP tv u&&EO to s1&&aaT (agD tb) u s1&&u.sure&&EP s1 then A1 (zY tb (qR ta (kQ ka a)).2).1 s1 (la (lf ko (Cc u++H7 s1)) CZ) else aM
  |_=>aM) (gT ko) fun b=>b
end
end Go.Vm
