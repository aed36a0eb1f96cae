/- The logical machine, part 2: VmFp, VmRun, VmInv, VmStep, VmShr, VmOp, VmReg, VmReg2, VmNorm, VmNorm2, VmCode, VmSound, VmPrim, VmIns, VmCat, VmTab, VmTab2, VmComp, VmLaw, VmSym, SvBase, SvDef, SvCod, SvRel. -/
import Derived.Test.YtkdikjnhkfffjaaGreatPVm1
import Derived.Orders
import Derived.Laws.Sem
import Derived.Laws.Externs
import Derived.Lib.SliceRun
import Derived.Laws.CopyRow
import Derived.ProofKit
import Derived.Carry
import Derived.OpenShut
import Derived.Deep.Slices
import Derived.Deep.Grids
open List renaming getElem?_eq_getElem->EQ,getElem?_append_left->NE,getElem?_append_right->aai,getElem?_eq_some_iff->aaP,take_of_length_le->abv,all_eq_true->abx,replicate->abE,mem_append->abK,pairwise_iff_getElem->abM,flatMap_cons->abP,drop_of_length_le->abQ,append_nil->abS,mem_append_left->abT,mem_cons->abV,mem_singleton->ac6,nodup_append->acl,getElem?_set->acm,append_assoc->acF,any_eq_true->acG,drop_zero->ad4,length->ad7
open Nat renaming beq->If,le_refl->UV,lt_or_ge->aaQ,lt_trichotomy->ab0,le_trans->abr,ble->abu,zero_le->abw,eq_or_lt_of_le->aby,lt_of_lt_of_le->abD,blt->abF,le_of_lt->abL,mul_le_mul_right->abU,ble_eq->abX,lt_or_gt_of_ne->ac3,beq_eq->aci,le_total->ack
open Bool renaming and_eq_true->IR,not_eq_true'->abz,true->adu,false->adw
open Option.some renaming injEq->PP
open Option renaming map_eq_some_iff->WF,some->adc,none->ado
open Prod.mk renaming injEq->abq
open Array renaming getD_eq_getD_getElem?->abt,getElem?_setIfInBounds_self_of_lt->abA,getElem?_eq_some_iff->abB,replicate->abC,getElem?_eq_getElem->abN,ext'->ad3
open Int renaming ofNat->acI
open Go.Sem renaming run_bind->ad5
open Go.World renaming cell?->ad6
open Decidable renaming decide->ae0
/- A call that works on the blocks that its arguments lead to, numbered anew: what it does to the memory. -/
namespace Go.Vm
theorem kz{α:Type}{l:List α}{i:Nat}{x:α}(h:l[i]? =adc x):i<(ad7 l):=(aaP.1 h).1
theorem GU: ∀{l:List Nat} {t:Nat},t∈vz l↔t∈l
 | [],t=>by simp[vz]
 |a::r,t=>by
  rw[vz];split
  ·rename_i h
   rw[GU];have:=uR.1 h
   grind
  simp[GU]
theorem yw: ∀{l:List Nat},(vz l).Nodup
 | []=>by simp[vz]
 |a::r=>by
  rw[vz];split
  ·exact yw
  rename_i h
  rw[List.nodup_cons];exact⟨λhm=>h (uR.2 (GU.1 hm)),yw⟩
theorem JC: ∀{a b:di},AD a b=adu-> ∀(i:Nat) (x:ox),a[i]? =adc x-> ∃y,b[i]? =adc y/\x.cu=y.cu
 | [],_,_,i,x,h=>by simp at h
 |c::r,d::q,hf,i,x,h=>by
  simp[AD,]at hf;cases i with
  |zero=>
   grind
  |succ i=>simpa using JC hf.2 i x (by simpa using h)
 |_::_,[],hf,_,_,_=>by cases hf
theorem JD{g:Nat->Nat}: ∀{tk:List Nat} {s:di} {t:Nat} {k:ox},(t,k)∈tU g tk s↔ ∃(i:Nat) (b:ox),tk[i]? =adc t/\s[i]? =adc b/\k=D4 g b
 | [],s,t,k=>by simp[tU]
 |a::r,[],t,k=>by simp[tU]
 |a::r,b::s,t,k=>by
  simp only[tU,abV,JD];constructor
  ·rintro(⟨rfl,rfl⟩|⟨i,c,h1,h2,h3⟩)
   ·exact⟨0,b,rfl,rfl,rfl⟩
   exact⟨i+1,c,by simpa using h1,by simpa using h2,h3⟩
  grind
theorem Mq{g:Nat->Nat}: ∀(s:di) (i:Nat),(Fi g s)[i]? =(s[i]?).map (D4 g)
 | [],i=>by simp[Fi]
 |b::r,0=>by simp[Fi]
 |b::r,i+1=>by simpa[Fi]using Mq r i
theorem Fs{g:Nat->Nat}: ∀(s:di),(Fi g s).length=ad7 s
 | []=>rfl
 |b::r=>by simp[Fi,Fs r]
section
variable {P : Program} {F : qo} {rec : Task -> Option Out} {im : Im} {loc : Loc} {aB : di} {w : World} {tk : List Nat} {g : Nat -> Nat} {l1 l2 : Loc}
mutual
theorem VR.D6: ∀{x:PV} {v:Value},VR im l1 x v->(∀u,u∈lG zE x-> ∀li,l1 u=adc li->l2 (g u)=adc li)->VR im l2 (GG g x) v
 |_,_,.undef v,_=> .undef v
 |_,_,.nD,_=> .nD
 |_,_,.int k n,_=> .int k n
 |_,_,.bool b,_=> .bool b
 |_,_,.str s,_=> .str s
 |_,_,.agg cs vs h,hg=> .agg _ vs (gz.D6 h (λu hu=>hg u (by simpa[lG]using hu)))
 |_,_,.cV cs vs h,hg=> .cV _ vs (gz.D6 h (λu hu=>hg u (by simpa[lG]using hu)))
 |_,_,.sl aO vX rows a cap hc hk h,_=> .sl aO vX rows a cap hc hk h
 |_,_,.own t aO off len cap ex li a eC h1 h2 h3 h4 h5 h6 h7,hg=> .own _ aO off len cap ex li a eC (hg _ (by simp[lG]) _ h1) h2 h3 h4 h5 h6 h7
 |_,_,.ptr t aO row off li h1 h2 h3,hg=> .ptr _ aO row off li (hg _ (by simp[lG]) _ h1) h2 h3
 |_,_,.bZ cs off b o vs h hv,hg=> .bZ _ off b o vs (gz.D6 h (λu hu=>hg u (by simpa[lG]using hu))) hv
 |_,_,.mp t li h,hg=> .mp _ li (hg _ (by simp[lG]) _ h)
 |_,_,.fE fn a b as bs ha hb,hg=> .fE fn _ _ as bs (gz.D6 ha (λu hu=>hg u (by simp[lG,hu]))) (gz.D6 hb (λu hu=>hg u (by simp[lG,hu])))
 |_,_,.fv,_=> .fv
theorem gz.D6: ∀{x:List PV} {v:List Value},gz im l1 x v->(∀u,u∈fb zE x-> ∀li,l1 u=adc li->l2 (g u)=adc li)->gz im l2 (BK g x) v
 |_,_,.nil,_=> .nil
 |_,_,.cons x v xs vs h hs,hg=> .cons _ v _ vs (VR.D6 h (λu hu=>hg u (by simp[fb,hu]))) (gz.D6 hs (λu hu=>hg u (by simp[fb,hu])))
end
theorem VR.GG{x:PV}{v:Value}(hg: ∀u,u∈lG zE x-> ∀li,l1 u=adc li->l2 (g u)=adc li)(h:VR im l1 x v):VR im l2 (Vm.GG g x) v:=h.D6 hg
theorem gz.GG{x:List PV}{v:List Value}(hg: ∀u,u∈fb zE x-> ∀li,l1 u=adc li->l2 (g u)=adc li)(h:gz im l1 x v):gz im l2 (BK g x) v:=h.D6 hg
theorem Ft: ∀(x:List PV),(BK g x).length=ad7 x
 | []=>rfl
 |x::xs=>by simp[BK,Ft xs]
theorem BR.GG{li:LI}{k:ox}(hg: ∀u,u∈wH k-> ∀li,l1 u=adc li->l2 (g u)=adc li)(h:BR im l1 w li k):BR im l2 w li (D4 g k):=by
 cases k with
 |arr e rows=>exact h
 |box cs=>obtain⟨a1,a2,a3,vs,el,a4,a5,a6⟩:=h;exact⟨by rw[Ft];exact a1,a2,a3,vs,el,a4,a5,a6.GG hg⟩
 |map es=>exact h
 |dead=>trivial
theorem Co(k:ox):(D4 g k).cu=k.cu:=by cases k<;>rfl
theorem Sj(Jx:GS P rec){f:FuncId}{args:List PV}{fz:List Nat}{r:rQ}{us:List Value}
 (h:y9 rec f args aB fz=adc r) (ha:gz im loc args us) (hk:lI im loc aB w r):
 zf P f ⟨us⟩ w λu w'=> ∃fP bE,VR fP bE r.v u/\yh im loc aB w r fP bE w':=by
 unfold y9 at h;have LN:(vz (fb (gN aB deep) args)).Nodup:=yw;generalize LM:vz (fb (gN aB deep) args)=tk at h LN;split at h
 ·cases h
 rename_i a s0 JE;unfold abG at JE;split at JE
 case isFalse=>cases JE
 rename_i am8;simp only[abx,abz]at am8;split at JE
 case h_2=>cases JE
 rename_i a' s0' hra hrs;simp only[PP,abq]at JE;obtain⟨rfl,rfl⟩:=JE;split at h
 case h_2=>cases h
 rename_i v s hr;unfold Jk at h;split at h
 case isFalse=>cases h
 rename_i Yp;injection h with h;obtain⟨RY,LO⟩:=GH hrs;have hf0:=JC Yp;have qf:(ad7 tk)<=(ad7 s):=by
  rcases Nat.eq_zero_or_pos (ad7 tk)with h0|h0
  ·omega
  obtain⟨y,hy,_⟩:=hf0 (ad7 tk-1) (s0'[ad7 tk-1]'(by omega)) (EQ _)
  grind
 let Yq:Loc:=λu=>match tk[u]? with|some t=>loc t|none=>ado
 have LQ:Ren tk loc Yq:=λu t hu=>by grind
 have hC: ∀u li,Yq u=adc li-> ∃t,tk[u]? =adc t/\loc t=adc li:=by
  grind
 have Yr: ∀t k,(t,k)∈r.wr↔ ∃(i:Nat) (b:ox),tk[i]? =adc t/\s[i]? =adc b/\k=D4 (nK tk (ad7 aB)) b:=λt k=>by rw[<-h];exact JD
 have afj: ∀u t,tk[u]? =adc t->(t∈r.rd\/ ∃b,(t,b)∈r.wr):=λu t ht=>by have:=kz ht;exact .inr ⟨_,(Yr t _).2 ⟨u,_,ht,EQ (by omega),rfl⟩⟩
 have ze: ∀(u t:Nat) (k:ox),tk[u]? =adc t->s0'[u]? =adc k-> ∃k0:ox,aB[t]? =adc k0/\k.cu=k0.cu:=λu t k ht hs=>by
  grind[Fk]
 have hSR:SR im Yq s0' [] w:={
  bW:=hk.bW
  eB:=λu li hl=>by
   obtain⟨t,h1,h2⟩:=hC u li hl;obtain⟨k,jI,yu⟩:=hk.tok t (afj u t h1) li h2
   grind[Ml]
  lh:=λt u li lj k k' hl qH hs BZ IX am' hb=>by
   obtain⟨a1,h1,h2⟩:=hC t li hl;obtain⟨a2,h3,h4⟩:=hC u lj qH;obtain⟨k0,g1,g2⟩:=ze t a1 k h1 hs;obtain⟨k0',g1',g2'⟩:=ze u a2 k' h3 BZ;have:=hk.lh a1 a2 li lj k0 k0' (afj t a1 h1) (afj u a2 h3) h2 h4 g1 g1' (by rw[<-g2];exact IX) (by rw[<-g2'];exact am') hb;subst this;have pw:=abM.1 LN
   grind
  free:=λt li k hl hs IX _=>by obtain⟨a1,h1,h2⟩:=hC t li hl;obtain⟨k0,g1,g2⟩:=ze t a1 k h1 hs;have iL:=kz h1;exact hk.free a1 _ ((Yr a1 _).2 ⟨t,_,h1,EQ (by omega),rfl⟩) li k0 h2 g1 (by grind)}
 refine(Jx f a' s0' [] v s [] hr im Yq w us hSR (yq LQ ha hra)).mono λu w' ⟨fP,P5,hf⟩=>?_
 let bE:=λt=>match loc t with
  |some li=>adc li
  |none=>if(ad7 aB)<=t/\t-(ad7 aB)<(ad7 r.news)then P5 (t-(ad7 aB)+ad7 tk)else ado
 have aiC:p7 loc bE:=λt li hl=>by grind
 have NK:(ky (ad7 tk) v s=adu/\r.news=[])\/(ky (ad7 tk) v s=adw/\r.news=Fi (nK tk (ad7 aB)) (s.drop (ad7 tk))):=by
  rw[<-h];cases VZ:ky (ad7 tk) v s with
  |true=>exact .inl ⟨rfl,by simp⟩
  |false=>exact .inr ⟨rfl,by simp⟩
 have aiD:ky (ad7 tk) v s=adw->ad7 r.news=ad7 s-(ad7 tk):=λh1=>by
  rcases NK with⟨h2,_⟩|⟨_,h2⟩
  ·rw[h1]at h2;cases h2
  rw[h2];simp[Fs]
 have ana: ∀u li,P5 u=adc li->u<(ad7 s):=λu li hl=>let ⟨k,jI,_⟩:=hf.sr.eB u li hl;kz jI
 have Ys: ∀j li,bE (ad7 aB+j)=adc li->j<ad7 r.news->P5 (ad7 tk+j)=adc li:=λj li hl hj=>by simp only[bE,hk.fresh j hj]at hl;rw[AC ⟨by omega,by omega⟩]at hl;rw[show(ad7 aB)+j-(ad7 aB)+ad7 tk=ad7 tk+j by omega]at hl;exact hl
 have hg: ∀u,(u<ad7 tk\/ky (ad7 tk) v s=adw)-> ∀li,P5 u=adc li->bE (nK tk (ad7 aB) u)=adc li:=by
  intro u hu0 li hl;unfold nK;split
  ·rename_i t ht
   rcases hf.rI u li hl with h1|h1
   ·obtain⟨t',h2,h3⟩:=hC u li h1
    rw[ht]at h2;injection h2 with h2;subst h2;exact aiC _ _ h3
   have:=kz ht;omega
  rename_i hn
  have hu:(ad7 tk)<=u:=by simpa using hn
  rcases hu0 with hu0|hu0
  ·omega
  have iL:=ana u li hl;have NK:=aiD hu0;simp (disch:=omega) only[bE,hk.fresh];rw[AC ⟨by omega,by omega⟩,show(ad7 aB)+(u-(ad7 tk))-(ad7 aB)+ad7 tk=u by omega];exact hl
 have VZ: ∀u,ky (ad7 tk) v s=adu->(u∈lG zE v\/ ∃i b,i<ad7 tk/\s[i]? =adc b/\u∈wH b)->u<(ad7 tk):=λu h1 h2=>by
  unfold ky at h1;have h3:=abx.1 h1 u (by
   rcases h2 with h2|⟨i,b,g1,g2,g3⟩
   ·simp[h2]
   refine abK.2 (.inr (List.mem_flatMap.2 ⟨b,?_,g3⟩))
   exact List.mem_of_getElem? (i:=i) (by rw[List.getElem?_take];simp[g1,g2]))
  simpa using h3
 have hgv: ∀u,u∈lG zE v-> ∀li,P5 u=adc li->bE (nK tk (ad7 aB) u)=adc li:=λu hu=>hg u (by
  cases hq:ky (ad7 tk) v s with
  |true=>exact .inl (VZ u hq (.inl hu))
  |false=>exact .inr rfl)
 have hgb: ∀i b,i<ad7 tk->s[i]? =adc b-> ∀u,u∈wH b-> ∀li,P5 u=adc li->bE (nK tk (ad7 aB) u)=adc li:=λi b hi hb u hu=>hg u (by
  cases hq:ky (ad7 tk) v s with
  |true=>exact .inl (VZ u hq (.inr ⟨i,b,hi,hb,hu⟩))
  |false=>exact .inr rfl)
 have hMC: ∀u t li,tk[u]? =adc t->loc t=adc li->P5 u=adc li:=λu t li ht hl=>hf.fq u li (by simp only[Yq,ht];exact hl)
 refine⟨fP,bE,by rw[<-h];exact hf.vr.GG hgv,?_⟩;have Yt: ∀(j:Nat) (k:ox),r.news[j]? =adc k-> ∃b,s[ad7 tk+j]? =adc b/\k=D4 (nK tk (ad7 aB)) b:=λj k hj=>by
  rcases NK with⟨_,h0⟩|⟨_,h0⟩
  ·rw[h0]at hj;simp at hj
  rw[h0]at hj;simp only[Mq,List.getElem?_drop,WF]at hj;obtain⟨b,h1,h2⟩:=hj;exact⟨b,h1,h2.symm⟩
 have abW: ∀t li,P5 t=adc li->ad7 tk<=t-> ∀k,s[t]? =adc k->k.cu=adu->w.heap.size<=li.eB:=by
  intro t li hl ht k hs IX;rcases hf.own t li k hl hs IX with h1|⟨u,lu,ku,h1,h2,h3,h4⟩
  ·exact h1
  exfalso
  obtain⟨a1,g1,g2⟩:=hC u lu h1;obtain⟨y,y1,y2⟩:=hf0 u ku h2;have:=hf.sr.lh u t lu li y k (hMC u a1 lu g1 g2) hl y1 hs (by rw[<-y2];exact h3) IX h4;subst this;have:=kz g1;omega
 exact {
  jD:=hf.jD,fq:=aiC
  bW:=hf.sr.bW
  fA:=λb o hb=>by
   rcases hf.fA b o hb with h1|h1|⟨t,li,k,h1,h2,h3,h4⟩
   ·exact .inl h1
   ·exact .inr (.inl h1)
   exfalso
   obtain⟨a1,g1,g2⟩:=hC t li h1;obtain⟨y,y1,y2⟩:=hf0 t k h2;have:=hf.sr.free t li y (hMC t a1 li g1 g2) y1 (by rw[<-y2];exact h3) rfl;rw[h4,hb]at this;cases this
  os:=hf.os,tape:=hf.tape,output:=hf.output,size:=hf.size
  frame:=λb hb hh=>hf.frame b hb λt li k hl hs IX=>by obtain⟨a1,g1,g2⟩:=hC t li hl;obtain⟨k0,e1,e2⟩:=ze t a1 k g1 hs;have iL:=kz g1;exact hh a1 _ li k0 ((Yr a1 _).2 ⟨t,_,g1,EQ (by omega),rfl⟩) g2 e1 (by rw[<-e2];exact IX)
  VO:=λt k hm IX=>by obtain⟨i,b,g1,g2,rfl⟩:=(Yr t k).1 hm;rw[Co]at IX;have iL:=kz g1;have e:=EQ (l:=s0') (i:=i) (by omega);obtain⟨y,y1,y2⟩:=hf0 i _ e;rw[g2]at y1;injection y1 with y1;subst y1;obtain⟨k0,e1,e2⟩:=ze i t _ g1 e;exact⟨k0,e1,by rw[<-e2,y2];exact IX⟩
  wr:=λt k li hm hl=>by obtain⟨i,b,g1,g2,rfl⟩:=(Yr t k).1 hm;obtain⟨k',jI,yu⟩:=hf.sr.eB i li (hMC i t li g1 hl);rw[g2]at jI;injection jI with jI;subst jI;exact yu.GG (hgb i b (kz g1) g2)
  oy:=λt li hl=>by
   simp only[bE]at hl;cases RY:loc t with
   |some lj=>rw[RY]at hl;exact .inl hl
   |none=>
    rw[RY]at hl;dsimp only at hl;split at hl
    ·rename_i hn
     exact .inr ⟨hn.1,by omega⟩
    cases hl
  news:=λj k li hj hl=>by
   have Se:j<(ad7 r.news):=kz hj;obtain⟨b,hb,rfl⟩:=Yt j k hj;have RY:=Ys j li hl Se;obtain⟨k',jI,yu⟩:=hf.sr.eB _ li RY;rw[hb]at jI;injection jI with jI;subst jI;have hq:ky (ad7 tk) v s=adw:=by
    rcases NK with⟨_,h0⟩|⟨h0,_⟩
    ·rw[h0]at Se;simp at Se
    exact h0
   refine⟨yu.GG (λu _=>hg u (.inr hq)),λIX=>?_⟩;rw[Co]at IX;exact⟨hf.sr.free _ li b RY hb IX rfl,.inl (abW _ li RY (by omega) b hb IX)⟩
  distinct:=λi j ki kj li lj hi hj hsi V5 hli hlj hb=>by obtain⟨b1,e1,rfl⟩:=Yt i ki hi;obtain⟨b2,e2,rfl⟩:=Yt j kj hj;rw[Co]at hsi V5;have h1:=Ys i li hli (kz hi);have h2:=Ys j lj hlj (kz hj);have:=hf.sr.lh _ _ li lj b1 b2 h1 h2 e1 e2 hsi V5 hb;omega}
end
end Go.Vm
/- A region's run in the order of the text, step by step; what a block holds when adc of its operations are done. -/
namespace Go.Vm
structure Cp(F:qo)(rec:Task->Option Out)(ops:List cI)(S:Nat->St)(X:Nat->Option XR):Prop where
 steps: ∀(i:Nat) (o:cI),ops[i]? =adc o->
  (wanted o.guard (S i).env=adc adu/\ ∃x,BV F rec (S i).env (S i).aB (S i).fz o.op=adc x/\x.ok (S i).fz=adu/\X i=adc x/\S (i+1)=x.next o.dst (S i))\/
  (wanted o.guard (S i).env=adc adw/\X i=ado/\S (i+1)={S i with env:=lf o.dst .nD (S i).env})
def D1(x:Option XR)(s:St):Tr:=
 match x with
 |some x=>x.tr (ad7 s.aB)
 |none=>Tr.idle
def D7(S:Nat->St)(X:Nat->Option XR)(n:Nat):List Tr:=(List.range n).map λi=>D1 (X i) (S i)
theorem Sk(S:Nat->St)(X:Nat->Option XR)(n:Nat):D7 S X (n+1)=D1 (X 0) (S 0)::D7 (λi=>S (i+1)) (λi=>X (i+1)) n:=by unfold D7;rw[List.range_succ_eq_map];simp
theorem GV{F:qo}{rec:Task->Option Out}: ∀(ops:List cI) (st:St) (tr:List Tr) (oh:St) (V6:List Tr),rS F rec ops st tr=adc (oh,V6)->
 ∃S X,S 0=st/\S (ad7 ops)=oh/\Cp F rec ops S X/\V6=(D7 S X (ad7 ops)).reverse++tr
 | [],st,tr,oh,V6,h=>by obtain⟨rfl,rfl⟩:=h;exact⟨λ_=>st,λ_=>ado,rfl,rfl,⟨λi o h=>by simp at h⟩,by simp[D7]⟩
 |o::l,st,tr,oh,V6,h=>by
  simp[rS]at h;have mk: ∀(s1:St) (x:Option XR) (t1:Tr),D1 x st=t1->rS F rec l s1 (t1::tr)=adc (oh,V6)->
   ((wanted o.guard st.env=adc adu/\ ∃y,BV F rec st.env st.aB st.fz o.op=adc y/\y.ok st.fz=adu/\x=adc y/\s1=y.next o.dst st)\/
    (wanted o.guard st.env=adc adw/\x=ado/\s1={st with env:=lf o.dst .nD st.env}))->
   ∃S X,S 0=st/\S (o::l).length=oh/\Cp F rec (o::l) S X/\V6=(D7 S X (o::l).length).reverse++tr:=by
   intro s1 x t1 ht he hs;obtain⟨S,X,h0,hn,dy,htr⟩:=GV l s1 (t1::tr) oh V6 he;refine⟨λi=>match i with|0=>st|i+1=>S i,λi=>match i with|0=>x|i+1=>X i,rfl,hn,⟨λi o' ho=>?_⟩,?_⟩
   ·cases i with
    |zero=>
     simp at ho;subst ho;rcases hs with⟨a,y,b,c,d,e⟩|⟨a,b,c⟩
     ·exact .inl ⟨a,y,b,c,d,by rw[<-e];exact h0⟩
     exact .inr ⟨a,b,by rw[<-c];exact h0⟩
    |succ i=>exact dy.steps i o' (by simpa using ho)
   grind[List.length_cons,Sk]
  cases hw:wanted o.guard st.env with
  |none=>grind
  |some b=>
   rw[hw]at h;cases b with
   |false=>exact mk _ ado _ rfl h (.inr ⟨hw,rfl,rfl⟩)
   |true=>
    cases hx:BV F rec st.env st.aB st.fz o.op with
    |none=>grind
    |some x=>
     rw[hx]at h;dsimp only at h;split at h
     ·rename_i nE
      exact mk _ (adc x) _ rfl h (.inl ⟨hw,x,hx,nE,rfl,rfl⟩)
     cases h
theorem kB: ∀(wr:List (Nat×ox)) (s:di),(lH wr s).length=ad7 s
 | [],s=>rfl
 |(t,b)::r,s=>by rw[lH,kB r];simp
theorem zg: ∀(wr:List (Nat×ox)) (s:di) (t:Nat),(∀k,(t,k)∉wr)->(lH wr s)[t]? =s[t]?
 | [],s,t,_=>rfl
 |(u,b)::r,s,t,h=>by
  rw[lH,zg r _ t (λk hk=>h k (by simp[hk]))]
  grind
theorem JF: ∀(wr:List (Nat×ox)) (s:di),AE wr=adu-> ∀{t:Nat} {k:ox},(t,k)∈wr->t<ad7 s->(lH wr s)[t]? =adc k
 |(u,b)::r,s,hn,t,k,hm,iL=>by
  simp only[AE,IR,abx,]at hn;rw[lH];rcases abV.1 hm with h|h
  ·injection h with h1 h2
   subst h1 h2;rw[zg r _ t λk' hk=>by simpa using hn.1 (t,k') hk];simp[iL]
  exact JF r _ hn.2 h (by simpa using iL)
section
variable {F : qo} {rec : Task -> Option Out} {ops : List cI} {S : Nat -> St} {X : Nat -> Option XR}
def W(X:Nat->Option XR)(i t:Nat):Prop:=
 match X i with
 |some (.loc r)=> ∃k,(t,k)∈r.wr
 |some (.shr ..)=>True
 |none=>False
def FR(X:Nat->Option XR)(i t:Nat):Prop:=
 match X i with
 |some (.loc r)=>t∈r.fr
 |some (.shr _ _ z)=>t∈z
 |none=>False
def Fu(S:Nat->St)(X:Nat->Option XR)(n:Nat)(done:Nat->Prop)(t:Nat)(k:ox):Prop:=
 ∃m,m<=n/\(∀i,i<n->W X i t->(done i↔i<m))/\(∀c,c<n->(S c).aB.length<=t->t<(S (c+1)).aB.length->c<m)/\(S m).aB[t]? =adc k
theorem UI{e:Env}{aB:di}{fz:List Nat}{op:oK}{v:PV}{s:di}{z:List Nat}(h:BV F rec e aB fz op=adc (.shr v s z)):(ad7 aB)<=ad7 s/\ ∀t,t∈fz->t∈z:=by
 have key: ∀{f:FuncId} {args:List PV},iQ rec f args aB fz=adc (.shr v s z)->ad7 aB<=ad7 s/\ ∀t,t∈fz->t∈z:=by
  intro f args h;unfold iQ at h;split at h
  ·split at h
   ·rename_i hc
    simp[IR,abX,abx]at hc;simp[PP,]at h;obtain⟨rfl,rfl,rfl⟩:=h;exact⟨hc.1,λt ht=>uR.1 (hc.2 t ht)⟩
   cases h
  cases h
 cases op with
 |call m f args=>
  cases m with
  |pur=>simp[BV]at h
  |own=>simp[BV]at h
  |shr=>exact key h
  |fp=>simp[BV]at h
 |BJ x args=>
  simp[BV]at h;split at h
  ·split at h
   ·exact key h
   simp at h
  cases h
 |_=>simp[BV]at h
theorem Cp.afk(hr:Cp F rec ops S X){i:Nat}(hi:i<ad7 ops):(S i).aB.length<=(S (i+1)).aB.length:=by
 rcases hr.steps i _ (EQ hi)with⟨_,x,hx,_,_,hn⟩|⟨_,_,hn⟩
 ·rw[hn]
  cases x with
  |loc r=>simp[XR.next,yo,kB]
  |shr v s z=>exact(UI hx).1
 grind
theorem Cp.kC(hr:Cp F rec ops S X){i j:Nat}(p8:i<=j)(hj:j<=ad7 ops):(S i).aB.length<=(S j).aB.length:=by
 induction j with
 |zero=>grind
 |succ j ih=>
  rcases aby p8 with h|h
  ·grind
  exact abr (ih (by omega) (by omega)) (hr.afk (by omega))
theorem Cp.same(hr:Cp F rec ops S X){i t:Nat}(hi:i<ad7 ops)(hw: ¬W X i t)(ht:t<(S i).aB.length):(S (i+1)).aB[t]? =(S i).aB[t]?:=by
 rcases hr.steps i _ (EQ hi)with⟨_,x,hx,_,hX,hn⟩|⟨_,_,hn⟩
 ·rw[hn]
  cases x with
  |loc r=>simp[XR.next,yo];rw[NE (by rw[kB];exact ht)];exact zg _ _ _ λk hk=>hw (by unfold W;grind)
  |shr v s z=>exact absurd (by unfold W;rw[hX];trivial) hw
 rw[hn]
theorem Cp.Dm(hr:Cp F rec ops S X){m m' t:Nat}(hm:m<=m')(Fv:m'<=ad7 ops)(hw: ∀i,m<=i->i<m'-> ¬W X i t)(ht:t<(S m).aB.length):(S m').aB[t]? =(S m).aB[t]?:=by
 induction m' with
 |zero=>grind
 |succ j ih=>
  rcases aby hm with h|h
  ·subst h;rfl
  rw[hr.same (by omega) (hw j (by omega) (by omega)) (abD ht (hr.kC (by omega) (by omega)))]
  grind
theorem dD{α:Type}{l:List α}{i:Nat}{x:α}(h:l[i]? =adc x):i<(ad7 l):=(aaP.1 h).1
theorem Fu.unique(hr:Cp F rec ops S X){done:Nat->Prop}{t:Nat}{k k':ox}(h:Fu S X (ad7 ops) done t k)(h':Fu S X (ad7 ops) done t k'):k=k':=by
 obtain⟨m,hm,hw,hc,hs⟩:=h;obtain⟨m',Fv,hw',IB,BZ⟩:=h';rcases ack m m' with h|h
 ·have:=hr.Dm h Fv (λi h1 h2 hW=>by
   have a:=hw i (by omega) hW;have b:=hw' i (by omega) hW;have:=a.1 (b.2 h2);omega) (dD hs)
  grind
 have:=hr.Dm h hm (λi h1 h2 hW=>by
  have a:=hw i (by omega) hW;have b:=hw' i (by omega) hW;have:=b.1 (a.2 h2);omega) (dD BZ)
 grind
theorem Cp.Yu(hr:Cp F rec ops S X){i t:Nat}(hi:i<ad7 ops)(hd:(ops[i]).dst≠adc t):lk t (S (i+1)).env=lk t (S i).env:=by
 have key: ∀(d:Option Nat) (v:PV) (e:Env),d≠adc t->lk t (lf d v e)=lk t e:=by
  intro d v e h;cases d with
  |none=>rfl
  |some s=>simp[lf];rw[wK,Do (λe=>h (by rw[e]))]
 rcases hr.steps i _ (EQ hi)with⟨_,x,hx,_,hX,hn⟩|⟨_,_,hn⟩
 ·rw[hn]
  cases x with
  |loc r=>exact key _ _ _ hd
  |shr v s z=>exact key _ _ _ hd
 grind
theorem Cp.Sl(hr:Cp F rec ops S X){m m' t:Nat}(hm:m<=m')(Fv:m'<=ad7 ops)(hd: ∀i (hi:i<ad7 ops),m<=i->i<m'->(ops[i]).dst≠adc t):lk t (S m').env=lk t (S m).env:=by
 induction m' with
 |zero=>grind
 |succ j ih=>
  rcases aby hm with h|h
  ·subst h;rfl
  rw[hr.Yu (by omega) (hd j (by omega) (by omega) (by omega))]
  grind
end
end Go.Vm
/- A region: what holds while adc of its operations are done, and that one more keeps it. -/
namespace Go.Vm
def ay(x:cI):List Nat:=(x.op.iu.filterMap λ| .t n=>adc n| .c _=>ado)++(match x.guard with|some (s,_)=>[s]|none=>[])
def zS(ops:Array Oper):Option (Nat×Bool)->Option (Nat×Bool)->Bool
 |none,ado=>adu
 |some (s,b),adc (j,c)=>b==c&&((ops[j]?).bind (·.dst))==adc s
 |_,_=>adw
def yx(P:Program)(prims:FuncId->Bool)(nt:Nat)(ops:Array Oper)(x:cI)(o:Oper):Bool:=
 x.dst==o.dst&&(match x.dst with|some d=>abF d nt|none=>adu)&&zS ops x.guard o.guard&&BM P prims o.type x.op o.op
def xC(X:Nat->Option XR)(i:Nat):Prop:= ∃v s z,X i=adc (.shr v s z)
def jU(X:Nat->Option XR)(i:Nat):Prop:=
 match X i with
 |some (.loc r)=>r.rd≠[]\/r.fr≠[]\/r.wr≠[]\/r.news≠[]
 |some (.shr ..)=>True
 |none=>False
def A(X:Nat->Option XR)(i t:Nat):Prop:=
 match X i with
 |some (.loc r)=>t∈r.rd\/t∈r.fr
 |_=>False
structure Ord(ops:List cI)(S:Nat->St)(X:Nat->Option XR)(B1:Nat->Nat->Prop):Prop where
 JG: ∀(i j t:Nat) (x y:cI),i<j->ops[i]? =adc x->ops[j]? =adc y->x.dst=adc t->(t∈ay y\/y.dst=adc t)->B1 i j
 Yv: ∀(i j t:Nat) (x y:cI),i<j->ops[i]? =adc x->ops[j]? =adc y->y.dst=adc t->t∈ay x->B1 i j
 Sm: ∀i j t,i<j->j<ad7 ops->W X i t->(A X j t\/W X j t)->B1 i j
 afl: ∀i j t,i<j->j<ad7 ops->A X i t->W X j t->B1 i j
 afm: ∀i j t,i<j->j<ad7 ops-> ¬xC X i->(S i).aB.length<=t->t<(S (i+1)).aB.length-> ¬xC X j->W X j t->B1 i j
 PA: ∀i j,i<j->j<ad7 ops->(xC X i/\jU X j\/jU X i/\xC X j)->B1 i j
 cl: ∀i t,i<ad7 ops-> ¬xC X i->(A X i t\/W X i t)->t<(S i).aB.length\/ ∀c,i<c->c<ad7 ops->B1 i c
structure Inv(ops:List cI)(S:Nat->St)(X:Nat->Option XR)(nV:Im)(eD:Loc)(w0:World)(nt:Nat)(done:Nat->Prop)(im:Im)(loc:Loc)(a:Act)(w:World):Prop where
 tm: ∀t,∃m,m<=ad7 ops/\(∀i x,ops[i]? =adc x->x.dst=adc t->(done i↔i<m))/\VR im loc (lk t (S m).env) (a.tmps.getD t Go.undef)
 bW: ∀b o,im b=adc o->w.heap[b]? =adc o
 tok: ∀t li,loc t=adc li-> ∃k,Fu S X (ad7 ops) done t k/\BR im loc w li k
 lh: ∀t u li lj k k',loc t=adc li->loc u=adc lj->Fu S X (ad7 ops) done t k->Fu S X (ad7 ops) done u k'->k.cu=adu->k'.cu=adu->li.eB=lj.eB->t=u
 free: ∀t li k,loc t=adc li->Fu S X (ad7 ops) done t k->k.cu=adu->t∉(S 0).fz->(∀i,i<ad7 ops->done i-> ¬FR X i t)->im li.eB=ado
 fresh: ∀i,i<ad7 ops-> ¬done i-> ∀t,(S i).aB.length<=t->t<(S (i+1)).aB.length->loc t=ado
 jD:rW nV im
 fq:p7 eD loc
 os:w.os=w0.os
 tape:Tape w0 w
 output:w.output=w0.output
 size:w0.heap.size<=w.heap.size
 frame: ∀b,b<w0.heap.size->(∀t li k,eD t=adc li->(S 0).aB[t]? =adc k->k.cu=adu->li.eB≠b)->w.heap[b]? =w0.heap[b]?
 fA: ∀b o,im b=adc o->nV b=adc o\/w0.heap.size<=b\/ ∃t li k,eD t=adc li/\(S 0).aB[t]? =adc k/\k.cu=adu/\li.eB=b
 rI: ∀t li,loc t=adc li->eD t=adc li\/(S 0).aB.length<=t
 own: ∀t li k,loc t=adc li->Fu S X (ad7 ops) done t k->k.cu=adu->(w0.heap.size<=li.eB\/ ∃u lu ku,eD u=adc lu/\(S 0).aB[u]? =adc ku/\ku.cu=adu/\lu.eB=li.eB)
 defers:a.defers=[]
 R6:a.tmps.size=nt
def plus(done:Nat->Prop)(i:Nat):Nat->Prop:=λj=>done j\/j=i
section
variable {F : qo} {rec : Task -> Option Out} {ops : List cI} {S : Nat -> St} {X : Nat -> Option XR} {B1 : Nat -> Nat -> Prop} {nV : Im} {eD : Loc} {w0 : World} {nt : Nat}
  {done : Nat -> Prop} {im : Im} {loc : Loc} {a : Act} {w : World} {i : Nat}
structure Place(ops:List cI)(B1:Nat->Nat->Prop)(done:Nat->Prop)(i:Nat):Prop where
 lt:i<ad7 ops
 nd: ¬done i
 pre: ∀j,j<ad7 ops->B1 j i->done j
 fE: ∀k,k<ad7 ops->done k-> ∀j,j<ad7 ops->B1 j k->done j
theorem Place.Cq(hp:Place ops B1 done i){k:Nat}(hk:k<ad7 ops)(h:B1 i k): ¬done k:=λhd=>hp.nd (hp.fE k hk hd i hp.lt h)
theorem Inv.slot(hr:Cp F rec ops S X)(ho:Ord ops S X B1)(hv:Inv ops S X nV eD w0 nt done im loc a w)(hp:Place ops B1 done i){x:cI}(hx:ops[i]? =adc x){t:Nat}(ht:t∈ay x):
 VR im loc (lk t (S i).env) (a.tmps.getD t Go.undef):=by
 obtain⟨m,hm,hd,tL⟩:=hv.tm t;have hwr: ∀j y,ops[j]? =adc y->y.dst=adc t->(done j↔j<i):=by
  intro j y hy XS;rcases ab0 j i with h|h|h
  ·exact⟨λ_=>h,λ_=>hp.pre j (dD hy) (ho.JG j i t y x h hy hx XS (.inl ht))⟩
  ·subst h;exact⟨λhd=>absurd hd hp.nd,λh=>by omega⟩
  exact⟨λP6=>absurd P6 (hp.Cq (dD hy) (ho.Yv i j t x y h hx hy XS ht)),λh'=>by omega⟩
 have same:lk t (S i).env=lk t (S m).env:=by
  rcases ack m i with h|h
  ·refine hr.Sl h (abL hp.lt) λj hj h1 h2 zh=>?_
   have a1:=hd j _ (EQ hj) zh;have a2:=hwr j _ (EQ hj) zh;have:=a1.1 (a2.2 h2);omega
  refine(hr.Sl h hm λj hj h1 h2 zh=>?_).symm
  have a1:=hd j _ (EQ hj) zh;have a2:=hwr j _ (EQ hj) zh;have:=a2.1 (a1.2 h2);omega
 grind
theorem Inv.cur(hr:Cp F rec ops S X)(ho:Ord ops S X B1)(hv:Inv ops S X nV eD w0 nt done im loc a w)(hp:Place ops B1 done i){t:Nat}{li:LI}(hl:loc t=adc li)
 (ht:(A X i t\/W X i t)) {k:ox} (hc:Fu S X (ad7 ops) done t k):(S i).aB[t]? =adc k:=by
 obtain⟨m,hm,hw,hcr,hs⟩:=hc;have eX:t<(S i).aB.length:=by
  rcases aaQ t (S i).aB.length with h|h
  ·exact h
  have hmi:i<m:=by
   rcases aaQ i m with h'|h'
   ·exact h'
   have:=hr.kC h' (abL hp.lt);have:=dD hs;omega
  have: ∃c,i<=c/\c<m/\(S c).aB.length<=t/\t<(S (c+1)).aB.length:=by
   have hex: ∀d,i+d<=m->t<(S (i+d)).aB.length-> ∃c,i<=c/\c<i+d/\(S c).aB.length<=t/\t<(S (c+1)).aB.length:=by
    intro d
    induction d with
    |zero=>intro _ h2;exact absurd h2 (by simpa using h)
    |succ d ih=>
     intro h1 h2;rcases aaQ t (S (i+d)).aB.length with h3|h3
     ·obtain⟨c,c1,c2,c3,c4⟩:=ih (by omega) h3
      exact⟨c,c1,by omega,c3,c4⟩
     exact⟨i+d,by omega,by omega,h3,h2⟩
   obtain⟨c,c1,c2,c3,c4⟩:=hex (m-i) (by omega) (by rw[show i+(m-i)=m by omega];exact dD hs);exact⟨c,c1,by omega,c3,c4⟩
  obtain⟨c,c1,c2,c3,c4⟩:=this;have hcn:c<(ad7 ops):=by omega
  have anc: ¬done c:=by
   intro hdc;rcases aby c1 with e|e
   ·subst e;exact hp.nd hdc
   by_cases hsh:xC X i
   ·refine hp.Cq hcn (ho.PA i c e hcn (.inl ⟨hsh,?_⟩)) hdc
    rcases hr.steps c _ (EQ hcn)with⟨_,x,hx,_,hX,hn⟩|⟨_,_,hn⟩
    ·unfold jU;rw[hX]
     cases x with
     |loc r=>refine .inr (.inr (.inr λNQ=>?_));rw[hn]at c4;simp[XR.next,yo,kB,NQ]at c4;omega
     |shr v s z=>trivial
    rw[hn]at c4;simp at c4;omega
   rcases ho.cl i t hp.lt hsh ht with h'|h'
   ·omega
   exact hp.Cq hcn (h' c e hcn) hdc
  have:=hv.fresh c hcn anc t c3 c4
  grind
 have hwr: ∀j,j<ad7 ops->W X j t->(done j↔j<i):=by
  intro j hj hW;rcases ab0 j i with h|h|h
  ·exact⟨λ_=>h,λ_=>hp.pre j hj (ho.Sm j i t h hp.lt hW ht)⟩
  ·subst h;exact⟨λhd=>absurd hd hp.nd,λh=>by omega⟩
  refine⟨λP6=>absurd P6 (hp.Cq hj ?_),λh'=>by omega⟩
  rcases ht with ht|ht
  ·exact ho.afl i j t h hj ht hW
  exact ho.Sm i j t h hj ht (.inr hW)
 rcases ack m i with h|h
 ·rw[hr.Dm h (abL hp.lt) (λj h1 h2 hW=>by
   have a1:=hw j (by have:=hp.lt;omega) hW;have a2:=hwr j (by have:=hp.lt;omega) hW
   grind) (dD hs)]
  exact hs
 rw[<-hr.Dm h hm (λj h1 h2 hW=>by
  grind) eX]
 exact hs
end
end Go.Vm
/- A region: one more operation keeps what holds. -/
namespace Go.Vm
theorem BR.aiE{im fP:Im}{loc bE:Loc}{w w':World}{li:LI}{k:ox}(h:BR im loc w li k)(hi:rW im fP)(hl:p7 loc bE)
 (hw:k.cu=adu->w'.heap[li.eB]? =w.heap[li.eB]?):BR fP bE w' li k:=by
 cases hs:k.cu with
 |true=>exact h.mono hi hl (hw hs)
 |false=>
  cases k with
  |arr e rows=>
   cases rows with
   |nil=>exact⟨h.1,h.2.1,λfo=>absurd rfl fo⟩
   |cons _ _=>cases hs
  |box _=>cases hs
  |map _=>cases hs
  |dead=>trivial
section
variable {F : qo} {rec : Task -> Option Out} {ops : List cI} {S : Nat -> St} {X : Nat -> Option XR} {B1 : Nat -> Nat -> Prop} {nV : Im} {eD : Loc} {w0 : World} {nt : Nat}
  {done : Nat -> Prop} {im : Im} {loc : Loc} {a : Act} {w : World} {i : Nat}
theorem Cp.aiF(hr:Cp F rec ops S X){j:Nat}(hj:j<ad7 ops): ∀t,t∈(S j).fz->t∈(S (j+1)).fz:=by
 intro t ht;rcases hr.steps j _ (EQ hj)with⟨_,x,hx,_,_,hn⟩|⟨_,_,hn⟩
 ·rw[hn]
  cases x with
  |loc r=>simp[XR.next];grind
  |shr v s z=>exact(UI hx).2 t ht
 grind
theorem Cp.IY(hr:Cp F rec ops S X){m m':Nat}(h:m<=m')(hm:m'<=ad7 ops): ∀t,t∈(S m).fz->t∈(S m').fz:=by
 induction m' with
 |zero=>grind
 |succ j ih=>
  rcases aby h with e|e
  ·grind
  exact λt ht=>hr.aiF (by omega) t (ih (by omega) (by omega) t ht)
theorem Cp.aen(hr:Cp F rec ops S X){j:Nat}(hj:j<ad7 ops){t:Nat}(h:FR X j t):t∈(S (j+1)).fz:=by
 rcases hr.steps j _ (EQ hj)with⟨_,x,hx,_,hX,hn⟩|⟨_,hX,_⟩
 ·rw[hn]
  unfold FR at h;rw[hX]at h;cases x with
  |loc r=>exact abT _ h
  |shr v s z=>exact h
 unfold FR at h;grind
theorem aiG{j t:Nat}(h:FR X j t):A X j t\/W X j t:=by
 unfold FR at h;unfold A W
 grind
theorem Inv.JH(hr:Cp F rec ops S X)(ho:Ord ops S X B1)(hp:Place ops B1 done i){t:Nat}(hW:W X i t)(hz:t∉(S i).fz):
 t∉(S 0).fz/\ ∀j,j<ad7 ops->done j-> ¬FR X j t:=by
 refine⟨λh=>hz (hr.IY (abw _) (abL hp.lt) t h),λj hj hd hf=>?_⟩;rcases ab0 j i with h|h|h
 ·exact hz (hr.IY h (abL hp.lt) t (hr.aen hj hf))
 ·subst h;exact hp.nd hd
 exact hp.Cq hj (ho.Sm i j t h hj hW (aiG hf)) hd
theorem Inv.known(hr:Cp F rec ops S X)(ho:Ord ops S X B1)(hv:Inv ops S X nV eD w0 nt done im loc a w)(hp:Place ops B1 done i){r:rQ}(hX:X i=adc (.loc r))(nE:(XR.loc r).ok (S i).fz=adu)
 (hn:(S (i+1)).aB.length=(S i).aB.length+ad7 r.news):lI im loc (S i).aB w r where
 bW:=hv.bW
 tok:=λt ht li hl=>by
  obtain⟨k,hc,yu⟩:=hv.tok t li hl;refine⟨k,hv.cur hr ho hp hl ?_ hc,yu⟩;rcases ht with ht|ht
  ·exact .inl (by unfold A;grind)
  exact .inr (by unfold W;grind)
 free:=λt k hm li k' hl hs pO=>by
  have hW:W X i t:=by unfold W;grind
  simp only[XR.ok,IR,abx,abz]at nE;have hz:=mS.1 (nE.1 (t,k) hm);obtain⟨h0,h1⟩:=Inv.JH hr ho hp hW hz;obtain⟨k2,hc,_⟩:=hv.tok t li hl;have:=hv.cur hr ho hp hl (.inr hW) hc;rw[hs]at this;injection this with this;subst this;exact hv.free t li k' hl hc pO h0 h1
 fresh:=λj hj=>hv.fresh i hp.lt hp.nd _ (by omega) (by omega)
 lh:=λt u li lj k k' ht hu hl qH hs BZ pO Mr hb=>by
  have aw: ∀t,(t∈r.rd\/ ∃b,(t,b)∈r.wr)->A X i t\/W X i t:=λt h=>by
   rcases h with h|h
   ·exact .inl (by unfold A;grind)
   exact .inr (by unfold W;rw[hX];exact h)
  obtain⟨k1,GQ,_⟩:=hv.tok t li hl;obtain⟨k2,Pp,_⟩:=hv.tok u lj qH;have e1:=hv.cur hr ho hp hl (aw t ht) GQ;have e2:=hv.cur hr ho hp qH (aw u hu) Pp;rw[hs]at e1;injection e1 with e1;subst e1;rw[BZ]at e2;injection e2 with e2;subst e2;exact hv.lh t u li lj _ _ hl qH GQ Pp pO Mr hb
theorem Inv.Fw(hr:Cp F rec ops S X)(ho:Ord ops S X B1)(hv:Inv ops S X nV eD w0 nt done im loc a w)(hp:Place ops B1 done i){x:cI}(hx:ops[i]? =adc x){r:rQ}(hX:X i=adc (.loc r))
 (nE:(XR.loc r).ok (S i).fz=adu) (hS:S (i+1)=(XR.loc r).next x.dst (S i)) {v':Value} {fP:Im} {bE:Loc} {w':World} (tL:VR fP bE r.v v') (he:yh im loc (S i).aB w r fP bE w')
 (zh: ∀d,x.dst=adc d->d<nt):Inv ops S X nV eD w0 nt (plus done i) fP bE (a.put x.dst v') w':=by
 have eX:(S (i+1)).aB.length=(S i).aB.length+(ad7 r.news):=by rw[hS];simp[XR.next,yo,kB]
 have AN:=hp.lt;have Es:AE r.wr=adu:=by simp[XR.ok,IR]at nE;exact nE.2
 have AI:(S (i+1)).aB=lH r.wr (S i).aB++r.news:=by rw[hS];exact yo _ _
 have aiH: ∀t k,(t,k)∈r.wr->t<(S i).aB.length->(S (i+1)).aB[t]? =adc k:=by
  grind[NE,kB,JF]
 have afn: ∀j k,r.news[j]? =adc k->(S (i+1)).aB[(S i).aB.length+j]? =adc k:=by
  grind
 have wlt: ∀t li,loc t=adc li->W X i t->t<(S i).aB.length:=by intro t li hl hW;obtain⟨k,hc,_⟩:=hv.tok t li hl;exact dD (hv.cur hr ho hp hl (.inr hW) hc)
 have NY: ∀t k li,(t,k)∈r.wr->loc t=adc li->Fu S X (ad7 ops) (plus done i) t k:=by
  intro t k li hm hl;have hW:W X i t:=by unfold W;grind
  have iL:=wlt t li hl hW;refine⟨i+1,AN,λj hj UJ=>?_,λc hc h1 h2=>?_,aiH t k hm iL⟩
  ·rcases ab0 j i with h|h|h
   ·exact⟨λ_=>by omega,λ_=> .inl (hp.pre j hj (ho.Sm j i t h AN UJ (.inr hW)))⟩
   ·subst h;exact⟨λ_=>by omega,λ_=> .inr rfl⟩
   refine⟨λhd=>?_,λh'=>by omega⟩
   rcases hd with hd|hd
   ·exact absurd hd (hp.Cq hj (ho.Sm i j t h hj hW (.inr UJ)))
   omega
  rcases aaQ c (i+1)with h|h
  ·exact h
  have:=hr.kC (by omega) (by omega);omega
 have Fx: ∀j k,r.news[j]? =adc k->Fu S X (ad7 ops) (plus done i) ((S i).aB.length+j) k:=by
  intro j k hj;have Se:=dD hj;refine⟨i+1,AN,λq hq hWq=>?_,λc hc h1 h2=>?_,afn j k hj⟩
  ·rcases ab0 q i with h|h|h
   ·refine⟨λ_=>by omega,λ_=> .inl ?_⟩
    by_cases hs:xC X q
    ·
     refine hp.pre q hq (ho.PA q i h AN (.inl ⟨hs,?_⟩));unfold jU;grind
    rcases ho.cl q _ hq hs (.inr hWq)with h'|h'
    ·have:=hr.kC (show q<=i by omega) (by omega);omega
    exact hp.pre q hq (h' i h AN)
   ·subst h;exact⟨λ_=>by omega,λ_=> .inr rfl⟩
   refine⟨λhd=>?_,λh'=>by omega⟩
   rcases hd with hd|hd
   ·exfalso
    by_cases hs:xC X q
    ·refine hp.Cq hq (ho.PA i q h hq (.inr ⟨?_,hs⟩)) hd
     unfold jU;grind
    exact hp.Cq hq (ho.afm i q _ h hq (by rintro⟨v,s,z,e⟩;grind) (by omega) (by omega) hs hWq) hd
   omega
  rcases aaQ c (i+1)with h|h
  ·exact h
  have:=hr.kC (by omega) (by omega);omega
 have UK: ∀t k,¬W X i t->Fu S X (ad7 ops) done t k->Fu S X (ad7 ops) (plus done i) t k:=by
  intro t k hW hc;obtain⟨m,hm,h1,h2,h3⟩:=hc;refine⟨m,hm,λj hj UJ=>?_,h2,h3⟩;have fo:j≠i:=λe=>hW (e▸UJ)
  have:=h1 j hj UJ;exact⟨λhd=>this.1 (hd.resolve_right fo),λh=> .inl (this.2 h)⟩
 have Dn: ∀t li,bE t=adc li->(∃j k,t=(S i).aB.length+j/\r.news[j]? =adc k/\loc t=ado)\/loc t=adc li:=by
  intro t li hl;rcases he.oy t li hl with h|⟨h1,h2⟩
  ·exact .inr h
  refine .inl ⟨t- (S i).aB.length,r.news[t- (S i).aB.length],by omega,EQ (by omega),?_⟩
  exact hv.fresh i AN hp.nd t h1 (by omega)
 have old: ∀t li k,loc t=adc li->Fu S X (ad7 ops) (plus done i) t k->k.cu=adu-> ∃k0,Fu S X (ad7 ops) done t k0/\k0.cu=adu/\BR im loc w li k0/\(¬W X i t->k0=k)/\(W X i t->(t,k)∈r.wr):=by
  intro t li k hl hc hs;obtain⟨k0,LR,yu⟩:=hv.tok t li hl
  by_cases hW:W X i t
  ·have NZ:=hW
   unfold W at NZ;rw[hX]at NZ;obtain⟨k2,hm⟩:=NZ;have e:=(NY t k2 li hm hl).unique hr hc;subst e;obtain⟨k3,h3,h4⟩:=he.VO t k2 hm hs;have:=hv.cur hr ho hp hl (.inr hW) LR
   grind
  have e:=(UK t k0 hW LR).unique hr hc
  grind
 have N0: ∀t k li k0,(t,k)∈r.wr->loc t=adc li->(S i).aB[t]? =adc k0->Fu S X (ad7 ops) done t k0:=by
  intro t k li k0 hm hl hs;obtain⟨k1,GQ,_⟩:=hv.tok t li hl;have:=hv.cur hr ho hp hl (.inr (by unfold W;grind)) GQ
  grind
 have Yw: ∀t li k0,t∈r.fr->loc t=adc li->(S i).aB[t]? =adc k0->Fu S X (ad7 ops) done t k0:=by
  intro t li k0 hm hl hs;obtain⟨k1,GQ,_⟩:=hv.tok t li hl;have:=hv.cur hr ho hp hl (.inl (by unfold A;grind)) GQ
  grind
 refine {
  tm:=λt=>?_
  bW:=he.bW
  tok:=λt li hl=>?_
  lh:=λt u li lj k k' hl qH hc IB hs BZ hb=>?_
  free:=λt li k hl hc hs h0 hf=>?_
  fresh:=λj hj LN t h1 h2=>?_
  jD:=hv.jD.trans he.jD
  fq:=hv.fq.trans he.fq
  os:=he.os.trans hv.os
  tape:=he.tape.trans hv.tape
  output:=he.output.trans hv.output
  size:=abr hv.size he.size
  frame:=λb hb hh=>?_
  fA:=λb o hb=>?_
  rI:=λt li hl=>?_
  own:=λt li k hl hc hs=>?_
  defers:=by cases hd:x.dst<;>simp[Act.put,hv.defers]
  R6:=by cases hd:x.dst<;>simp[Act.put,hv.R6]}
 ·
  by_cases hd:x.dst=adc t
  ·refine⟨i+1,AN,λj y hy XS=>?_,?_⟩
   ·rcases ab0 j i with h|h|h
    ·exact⟨λ_=>by omega,λ_=> .inl (hp.pre j (dD hy) (ho.JG j i t y x h hy hx XS (.inr hd)))⟩
    ·subst h;exact⟨λ_=>by omega,λ_=> .inr rfl⟩
    refine⟨λP6=>?_,λh'=>by omega⟩
    rcases P6 with P6|P6
    ·exact absurd P6 (hp.Cq (dD hy) (ho.JG i j t x y h hx hy hd (.inr XS)))
    omega
   rw[hS]
   simp[XR.next,hd,lf,wK,Act.put];have:=zh t hd;simp[hv.R6,this,tL]
  obtain⟨m,hm,h1,h2⟩:=hv.tm t
  refine⟨m,hm,λj y hy XS=>?_,?_⟩
  ·have fo:j≠i:=by grind
   have:=h1 j y hy XS;exact⟨λP6=>this.1 (P6.resolve_right fo),λh=> .inl (this.2 h)⟩
  have:=h2.mono he.jD he.fq
  cases hxd:x.dst with
  |none=>assumption
  |some d=>
   have fo:d≠t:=λe=>hd (by rw[hxd,e])
   simpa[Act.put,fo]using this
 ·
  rcases Dn t li hl with⟨j,k,rfl,hj,_⟩|V0
  ·obtain⟨h2,_⟩:=he.news j k li hj hl
   grind
  obtain⟨k0,LR,yu⟩:=hv.tok t li V0
  by_cases hW:W X i t
  ·have NZ:=hW
   unfold W at NZ;rw[hX]at NZ;obtain⟨k2,hm⟩:=NZ;exact⟨k2,NY t k2 li hm V0,he.wr t k2 li hm V0⟩
  refine⟨k0,UK t k0 hW LR,yu.aiE he.jD he.fq λhs=>?_⟩
  refine he.frame _ (yu.lt hs) λt2 k2 l2 k3 hm PJ hs3 pO XQ=>?_
  have:=hv.lh t2 t l2 li k3 k0 PJ V0 (N0 t2 k2 l2 k3 hm PJ hs3) LR pO hs XQ;exact hW (by unfold W;grind)
 ·
  have ang: ∀t u li lj k k',(∃j k,t=(S i).aB.length+j/\r.news[j]? =adc k/\loc t=ado)->loc u=adc lj->bE t=adc li->Fu S X (ad7 ops) (plus done i) t k->Fu S X (ad7 ops) (plus done i) u k'->
   k.cu=adu->k'.cu=adu->li.eB=lj.eB->False:=by
   intro t u li lj k k' hj hlu hl hc IB hs BZ hb;obtain⟨j,k1,rfl,hj,_⟩:=hj;have e:=(Fx j k1 hj).unique hr hc;subst e;obtain⟨h2,h3⟩:=he.news j k1 li hj hl;obtain⟨k0,LR,Pr,afo,hk0,hw0⟩:=old u lj k' hlu IB BZ;have iL:=afo.lt Pr;rcases(h3 hs).2 with h|⟨td,lt,kd,hm,hld,hsd,Yx,hbd⟩
   ·omega
   have:=hv.lh td u lt lj kd k0 hld hlu (N0 td _ lt kd hm hld hsd) LR Yx Pr (by rw[hbd,hb])
   subst this;have V1:=hw0 (by unfold W;grind);have e2:=(NY td _ lj hm hlu).unique hr (NY td _ lj V1 hlu);subst e2;cases BZ
  rcases Dn t li hl with h1|h1
  ·rcases Dn u lj qH with h2|h2
   ·obtain⟨j1,k1,rfl,hj1,_⟩:=h1
    obtain⟨j2,k2,rfl,hj2,_⟩:=h2;have e1:=(Fx j1 k1 hj1).unique hr hc;have e2:=(Fx j2 k2 hj2).unique hr IB;subst e1 e2;rw[he.distinct j1 j2 k1 k2 li lj hj1 hj2 hs BZ hl qH hb]
   grind
  rcases Dn u lj qH with h2|h2
  ·grind
  obtain⟨k0,LR,Pr,_⟩:=old t li k h1 hc hs
  obtain⟨k1,GQ,hs1,_⟩:=old u lj k' h2 IB BZ;exact hv.lh t u li lj k0 k1 h1 h2 LR GQ Pr hs1 hb
 ·
  rcases Dn t li hl with⟨j,k1,rfl,hj,_⟩|V0
  ·have e:=(Fx j k1 hj).unique hr hc
   subst e;obtain⟨h2,h3⟩:=he.news j k1 li hj hl;exact(h3 hs).1
  obtain⟨k0,LR,Pr,afo,_,_⟩:=old t li k V0 hc hs
  have hn:=hv.free t li k0 V0 LR Pr h0 (λj hj hd=>hf j hj (.inl hd));cases hb:fP li.eB with
  |none=>rfl
  |some o=>
   rcases he.fA _ _ hb with h|h|⟨t2,l2,k2,h1,h2,h3,h4,h5⟩
   ·grind
   ·have:=afo.lt Pr;omega
   have hm:=uR.1 h1
   have:=hv.lh t2 t l2 li k2 k0 h2 V0 (Yw t2 l2 k2 hm h2 h3) LR h4 Pr h5;exact absurd (by unfold FR;grind) (hf i AN (.inr rfl))
 ·
  have hji:=λe=>LN (.inr e)
  have afq:=λh=>LN (.inl h)
  cases hl:bE t with
  |none=>rfl
  |some li=>
   rcases he.oy t li hl with h|⟨h3,h4⟩
   ·rw[hv.fresh j hj afq t h1 h2]at h;cases h
   rcases ac3 hji with h|h
   ·have:=hr.kC (show j+1<=i by omega) (by omega);omega
   have:=hr.kC (show i+1<=j by omega) (by omega);omega
 ·
  have Sn:=abD hb hv.size;rw[he.frame b Sn (λt k li k0 hm hl hs pO XQ=>?_)]
  ·exact hv.frame b hb hh
  rcases hv.own t li k0 hl (N0 t k li k0 hm hl hs) pO with h|⟨u,lu,ku,h1,h2,h3,h4⟩
  ·omega
  grind
 ·rcases he.fA b o hb with h|h|⟨t,li,k,h1,h2,h3,h4,h5⟩
  ·exact hv.fA b o h
  ·exact .inr (.inl (abr hv.size h))
  rcases hv.own t li k h2 (Yw t li k (uR.1 h1) h2 h3) h4 with h|⟨u,lu,ku,g1,g2,g3,g4⟩
  ·exact .inr (.inl (by omega))
  grind
 ·rcases he.oy t li hl with h|⟨h,_⟩
  ·exact hv.rI t li h
  exact .inr (abr (hr.kC (abw _) (by omega)) h)
 rcases Dn t li hl with⟨j,k1,rfl,hj,_⟩|V0
 ·have e:=(Fx j k1 hj).unique hr hc
  subst e;obtain⟨h2,h3⟩:=he.news j k1 li hj hl;rcases(h3 hs).2 with h|⟨td,lt,kd,hm,hld,hsd,Yx,hbd⟩
  ·exact .inl (abr hv.size h)
  rcases hv.own td lt kd hld (N0 td _ lt kd hm hld hsd) Yx with h|⟨u,lu,ku,g1,g2,g3,g4⟩
  ·exact .inl (by omega)
  grind
 obtain⟨k0,LR,Pr,_⟩:=old t li k V0 hc hs
 exact hv.own t li k0 V0 LR Pr
end
end Go.Vm
/- A region: a call that works on the blocks themselves, and a skipped operation. -/
namespace Go.Vm
section
variable {F : qo} {rec : Task -> Option Out} {ops : List cI} {S : Nat -> St} {X : Nat -> Option XR} {B1 : Nat -> Nat -> Prop} {nV : Im} {eD : Loc} {w0 : World} {nt : Nat}
  {done : Nat -> Prop} {im : Im} {loc : Loc} {a : Act} {w : World} {i : Nat}
theorem Ms{v:PV}{s:di}{z:List Nat}(hX:X i=adc (.shr v s z))(t:Nat):W X i t:=by unfold W;rw[hX];trivial
theorem AO{j t:Nat}(h:W X j t):jU X j:=by
 unfold W at h;unfold jU
 grind
theorem Inv.sr(hr:Cp F rec ops S X)(ho:Ord ops S X B1)(hv:Inv ops S X nV eD w0 nt done im loc a w)(hp:Place ops B1 done i){v:PV}{s:di}{z:List Nat}(hX:X i=adc (.shr v s z)):
 SR im loc (S i).aB (S i).fz w where
 bW:=hv.bW
 eB:=λt li hl=>by obtain⟨k,hc,hb⟩:=hv.tok t li hl;exact⟨k,hv.cur hr ho hp hl (.inr (Ms hX t)) hc,hb⟩
 lh:=λt u li lj k k' hl qH hs BZ h h' hb=>by obtain⟨k1,GQ,_⟩:=hv.tok t li hl;obtain⟨k2,Pp,_⟩:=hv.tok u lj qH;have e1:=hv.cur hr ho hp hl (.inr (Ms hX t)) GQ;have e2:=hv.cur hr ho hp qH (.inr (Ms hX u)) Pp;rw[hs]at e1;injection e1 with e1;subst e1;rw[BZ]at e2;injection e2 with e2;subst e2;exact hv.lh t u li lj _ _ hl qH GQ Pp h h' hb
 free:=λt li k hl hs h hz=>by obtain⟨k1,GQ,_⟩:=hv.tok t li hl;have e1:=hv.cur hr ho hp hl (.inr (Ms hX t)) GQ;rw[hs]at e1;injection e1 with e1;subst e1;obtain⟨h0,h1⟩:=Inv.JH hr ho hp (Ms hX t) (mS.1 hz);exact hv.free t li _ hl GQ h h0 h1
theorem Inv.Yy{S:Nat->St}(ho:Ord ops S X B1)(hp:Place ops B1 done i){x:cI}(hx:ops[i]? =adc x){v:PV}{v':Value}{fP:Im}{bE:Loc}
 (hv:Inv ops S X nV eD w0 nt done im loc a w) (hi:rW im fP) (hl:p7 loc bE) (hS:(S (i+1)).env=lf x.dst v (S i).env) (tL:VR fP bE v v') (zh: ∀d,x.dst=adc d->d<nt):
 ∀t,∃m,m<=ad7 ops/\(∀j y,ops[j]? =adc y->y.dst=adc t->(plus done i j↔j<m))/\VR fP bE (lk t (S m).env) ((a.put x.dst v').tmps.getD t Go.undef):=by
 intro t;have AN:=hp.lt
 by_cases hd:x.dst=adc t
 ·refine⟨i+1,AN,λj y hy XS=>?_,?_⟩
  ·rcases ab0 j i with h|h|h
   ·exact⟨λ_=>by omega,λ_=> .inl (hp.pre j (dD hy) (ho.JG j i t y x h hy hx XS (.inr hd)))⟩
   ·subst h;exact⟨λ_=>by omega,λ_=> .inr rfl⟩
   refine⟨λP6=>?_,λh'=>by omega⟩
   rcases P6 with P6|P6
   ·exact absurd P6 (hp.Cq (dD hy) (ho.JG i j t x y h hx hy hd (.inr XS)))
   omega
  rw[hS]
  simp[hd,lf,wK,Act.put];have:=zh t hd;simp[hv.R6,this,tL]
 obtain⟨m,hm,h1,h2⟩:=hv.tm t
 refine⟨m,hm,λj y hy XS=>?_,?_⟩
 ·have fo:j≠i:=by grind
  have:=h1 j y hy XS;exact⟨λP6=>this.1 (P6.resolve_right fo),λh=> .inl (this.2 h)⟩
 have:=h2.mono hi hl
 cases hxd:x.dst with
 |none=>assumption
 |some d=>
  have fo:d≠t:=λe=>hd (by rw[hxd,e])
  simpa[Act.put,fo]using this
theorem put_defers(a:Act)(d:Option Nat)(v:Value):(a.put d v).defers=a.defers:=by cases d<;>rfl
theorem P7(a:Act)(d:Option Nat)(v:Value):(a.put d v).tmps.size=a.tmps.size:=by cases d<;>simp[Act.put]
theorem Inv.Yz(hr:Cp F rec ops S X)(ho:Ord ops S X B1)(hv:Inv ops S X nV eD w0 nt done im loc a w)(hp:Place ops B1 done i){x:cI}(hx:ops[i]? =adc x){v:PV}{s:di}{z:List Nat}
 (hX:X i=adc (.shr v s z)) (hS:S (i+1)=(XR.shr v s z).next x.dst (S i)) {v':Value} {fP:Im} {bE:Loc} {w':World} (hf:zQ im loc (S i).aB w v s z fP bE w' v')
 (zh: ∀d,x.dst=adc d->d<nt):Inv ops S X nV eD w0 nt (plus done i) fP bE (a.put x.dst v') w':=by
 have AN:=hp.lt;have AI:(S (i+1)).aB=s:=by rw[hS];rfl
 have afr: ∀t li,loc t=adc li-> ∀k,(S i).aB[t]? =adc k->Fu S X (ad7 ops) done t k:=by
  intro t li hl k hs;obtain⟨k1,GQ,_⟩:=hv.tok t li hl;have e1:=hv.cur hr ho hp hl (.inr (Ms hX t)) GQ
  grind
 have afs: ∀t k,s[t]? =adc k->Fu S X (ad7 ops) (plus done i) t k:=by
  intro t k hs;refine⟨i+1,AN,λj hj UJ=>?_,λc hc h1 h2=>?_,by grind⟩
  ·rcases ab0 j i with h|h|h
   ·exact⟨λ_=>by omega,λ_=> .inl (hp.pre j hj (ho.PA j i h AN (.inr ⟨AO UJ,⟨v,s,z,hX⟩⟩)))⟩
   ·subst h;exact⟨λ_=>by omega,λ_=> .inr rfl⟩
   refine⟨λhd=>?_,λh'=>by omega⟩
   rcases hd with hd|hd
   ·exact absurd hd (hp.Cq hj (ho.PA i j h hj (.inl ⟨⟨v,s,z,hX⟩,AO UJ⟩)))
   omega
  rcases aaQ c (i+1)with h|h
  ·exact h
  have:=hr.kC (by omega) (by omega)
  grind
 have N3: ∀t li,bE t=adc li-> ∀k,Fu S X (ad7 ops) (plus done i) t k->s[t]? =adc k:=by
  intro t li hl k hc;obtain⟨k1,h1,_⟩:=hf.sr.eB t li hl;have:=hc.unique hr (afs t k1 h1)
  grind
 refine {
  tm:=Inv.Yy ho hp hx hv hf.jD hf.fq (by rw[hS];rfl) hf.vr zh
  bW:=hf.sr.bW
  tok:=λt li hl=>by
   obtain⟨k,h1,h2⟩:=hf.sr.eB t li hl
   grind
  lh:=λt u li lj k k' hl qH hc IB hs BZ hb=>hf.sr.lh t u li lj k k' hl qH (N3 t li hl k hc) (N3 u lj qH k' IB) hs BZ hb
  free:=λt li k hl hc hs h0 zd=>by refine hf.sr.free t li k hl (N3 t li hl k hc) hs (mS.2 ?_);have:=zd i AN (.inr rfl);unfold FR at this;grind
  fresh:=λj hj LN t h1 h2=>?_
  jD:=hv.jD.trans hf.jD
  fq:=hv.fq.trans hf.fq
  os:=hf.os.trans hv.os
  tape:=hf.tape.trans hv.tape
  output:=hf.output.trans hv.output
  size:=abr hv.size hf.size
  frame:=λb hb hh=>?_
  fA:=λb o hb=>?_
  rI:=λt li hl=>?_
  own:=λt li k hl hc hs=>?_
  defers:=by rw[put_defers];exact hv.defers
  R6:=by rw[P7];exact hv.R6}
 ·have hji:=λe=>LN (.inr e)
  have afq:=λh=>LN (.inl h)
  cases hl:bE t with
  |none=>rfl
  |some li=>
   obtain⟨k,hk,_⟩:=hf.sr.eB t li hl;have iL:=dD hk;rcases hf.rI t li hl with h|h
   ·rw[hv.fresh j hj afq t h1 h2]at h;cases h
   rcases ac3 hji with h'|h'
   ·have:=hr.kC (show j+1<=i by omega) (by omega);omega
   have:=hr.kC (show i+1<=j by omega) (by omega)
   grind
 ·rw[hf.frame b (abD hb hv.size) λt li k hl hs pO XQ=>?_]
  ·exact hv.frame b hb hh
  rcases hv.own t li k hl (afr t li hl k hs) pO with h|⟨u,lu,ku,g1,g2,g3,g4⟩
  ·omega
  grind
 ·rcases hf.fA b o hb with h|h|⟨t,li,k,h1,h2,h3,h4⟩
  ·exact hv.fA b o h
  ·exact .inr (.inl (abr hv.size h))
  rcases hv.own t li k h1 (afr t li h1 k h2) h3 with h|⟨u,lu,ku,g1,g2,g3,g4⟩
  ·exact .inr (.inl (by omega))
  grind
 ·rcases hf.rI t li hl with h|h
  ·exact hv.rI t li h
  exact .inr (abr (hr.kC (abw _) (by omega)) h)
 rcases hf.own t li k hl (N3 t li hl k hc) hs with h|⟨u,lu,ku,h1,h2,h3,h4⟩
 ·exact .inl (abr hv.size h)
 rcases hv.own u lu ku h1 (afr u lu h1 ku h2) h3 with h|⟨u',lu',ku',g1,g2,g3,g4⟩
 ·exact .inl (by omega)
 grind
theorem Inv.step_skip(_hr:Cp F rec ops S X)(ho:Ord ops S X B1)(hv:Inv ops S X nV eD w0 nt done im loc a w)(hp:Place ops B1 done i){x:cI}(hx:ops[i]? =adc x)
 (hX:X i=ado) (hS:S (i+1)={S i with env:=lf x.dst .nD (S i).env}) (zh: ∀d,x.dst=adc d->d<nt):Inv ops S X nV eD w0 nt (plus done i) im loc (a.put x.dst Go.undef) w:=by
 have hnW: ∀t,¬W X i t:=λt h=>by unfold W at h;grind
 have afs: ∀t k,Fu S X (ad7 ops) done t k->Fu S X (ad7 ops) (plus done i) t k:=by
  intro t k ⟨m,hm,h1,h2,h3⟩;refine⟨m,hm,λj hj UJ=>?_,h2,h3⟩;have fo:j≠i:=λe=>hnW t (e▸UJ)
  have:=h1 j hj UJ;exact⟨λhd=>this.1 (hd.resolve_right fo),λh=> .inl (this.2 h)⟩
 have N3: ∀t k,Fu S X (ad7 ops) (plus done i) t k->Fu S X (ad7 ops) done t k:=by
  intro t k ⟨m,hm,h1,h2,h3⟩;refine⟨m,hm,λj hj UJ=>?_,h2,h3⟩;have fo:j≠i:=λe=>hnW t (e▸UJ)
  have:=h1 j hj UJ;exact⟨λhd=>this.1 (.inl hd),λh=>(this.2 h).resolve_right fo⟩
 refine {
  tm:=Inv.Yy ho hp hx hv (.refl _) (.refl _) (by rw[hS]) .nD zh
  bW:=hv.bW
  tok:=λt li hl=>let ⟨k,h1,h2⟩:=hv.tok t li hl;⟨k,afs t k h1,h2⟩
  lh:=λt u li lj k k' hl qH hc IB hs BZ hb=>hv.lh t u li lj k k' hl qH (N3 t k hc) (N3 u k' IB) hs BZ hb
  free:=λt li k hl hc hs h0 zd=>hv.free t li k hl (N3 t k hc) hs h0 λj hj hd=>zd j hj (.inl hd)
  fresh:=λj hj LN t h1 h2=>hv.fresh j hj (λh=>LN (.inl h)) t h1 h2
  jD:=hv.jD
  fq:=hv.fq
  os:=hv.os
  tape:=hv.tape
  output:=hv.output
  size:=hv.size
  frame:=hv.frame
  fA:=hv.fA
  rI:=hv.rI
  own:=λt li k hl hc hs=>hv.own t li k hl (N3 t k hc) hs
  defers:=by rw[put_defers];exact hv.defers
  R6:=by rw[P7];exact hv.R6}
theorem Inv.start{st:St}(h0:S 0=st)(oD:SR nV eD st.aB st.fz w0)(her:ER nV eD st.env a.tmps)(hd:a.defers=[])(hn:a.tmps.size=nt)(hr:Cp F rec ops S X):
 Inv ops S X nV eD w0 nt (λ_=>False) nV eD a w0:=by
 subst h0;have iL:=λt li hl=>let ⟨k,h,_⟩:=oD.eB t li hl;dD h
 have cur: ∀t li k,eD t=adc li->Fu S X (ad7 ops) (λ_=>False) t k->(S 0).aB[t]? =adc k:=by intro t li k hl ⟨m,hm,h1,h2,h3⟩;rw[<-hr.Dm (abw m) hm (λj _ hj hW=>(h1 j (by omega) hW).2 hj) (iL t li hl)];exact h3
 exact {
  tm:=λt=>⟨0,abw _,λj y _ _=>⟨λh=>h.elim,λh=>by omega⟩,her t⟩
  bW:=oD.bW
  tok:=λt li hl=>by obtain⟨k,h1,h2⟩:=oD.eB t li hl;refine⟨k,⟨0,abw _,λj _ _=>⟨λh=>h.elim,λh=>by omega⟩,λc hc h3 h4=>?_,h1⟩,h2⟩;have:=iL t li hl;have:=hr.kC (abw c) (by omega);omega
  lh:=λt u li lj k k' hl qH hc IB=>oD.lh t u li lj k k' hl qH (cur t li k hl hc) (cur u lj k' qH IB)
  free:=λt li k hl hc hs hz _=>oD.free t li k hl (cur t li k hl hc) hs (mS.2 hz)
  fresh:=λj hj _ t h1 h2=>by
   cases hl:eD t with
   |none=>rfl
   |some li=>have:=iL t li hl;have:=hr.kC (abw j) (by omega);omega
  jD:= .refl _
  fq:= .refl _
  os:=rfl
  tape:= .refl _
  output:=rfl
  size:=UV _
  frame:=λ_ _ _=>rfl
  fA:=λ_ _ h=> .inl h
  rI:=λ_ _ h=> .inl h
  own:=λt li k hl hc hs=> .inr ⟨t,li,k,hl,cur t li k hl hc,hs,rfl⟩
  defers:=hd
  R6:=hn}
structure Kept(nV:Im)(eD:Loc)(mC:di)(w0:World)(st:St)(im:Im)(loc:Loc)(w:World):Prop where
 sr:SR im loc st.aB st.fz w
 jD:rW nV im
 fq:p7 eD loc
 os:w.os=w0.os
 tape:Tape w0 w
 output:w.output=w0.output
 size:w0.heap.size<=w.heap.size
 frame: ∀b,b<w0.heap.size->(∀t li k,eD t=adc li->mC[t]? =adc k->k.cu=adu->li.eB≠b)->w.heap[b]? =w0.heap[b]?
 fA: ∀b o,im b=adc o->nV b=adc o\/w0.heap.size<=b\/ ∃t li k,eD t=adc li/\mC[t]? =adc k/\k.cu=adu/\li.eB=b
 rI: ∀t li,loc t=adc li->eD t=adc li\/ad7 mC<=t
 own: ∀t li k,loc t=adc li->st.aB[t]? =adc k->k.cu=adu->(w0.heap.size<=li.eB\/ ∃u lu ku,eD u=adc lu/\mC[u]? =adc ku/\ku.cu=adu/\lu.eB=li.eB)
theorem Inv.finish(hr : Cp F rec ops S X)(hv : Inv ops S X nV eD w0 nt done im loc a w)(hd : ∀ j, j < (ad7 ops) -> done j) :
    Kept nV eD (S 0).aB w0 (S (ad7 ops)) im loc w /\ ER im loc (S (ad7 ops)).env a.tmps /\ a.defers = [] /\ a.tmps.size = nt := by
  have cur : ∀ t k, Fu S X (ad7 ops) done t k -> (S (ad7 ops)).aB[t]? = adc k := by
    intro t k ⟨m, hm, h1, h2, h3⟩
    rw[hr.Dm hm (UV _) (λj h4 h5 hW => by have := (h1 j h5 hW).1 (hd j h5); omega) (dD h3)]
    exact h3
  have abY : ∀ t li k, loc t = adc li -> (S (ad7 ops)).aB[t]? = adc k -> Fu S X (ad7 ops) done t k := by
    intro t li k hl hs
    obtain⟨k1, hc, _⟩ := hv.tok t li hl
    have := cur t k1 hc
    rw[hs]at this; injection this with this; subst this; exact hc
  refine⟨{
    sr := { bW := hv.bW
            eB := λt li hl => let ⟨k, h1, h2⟩ := hv.tok t li hl; ⟨k, cur t k h1, h2⟩
            lh := λt u li lj k k' hl qH hs BZ => hv.lh t u li lj k k' hl qH (abY t li k hl hs) (abY u lj k' qH BZ)
            free := λt li k hl hs pO hz => by
              have hz := mS.1 hz
              refine hv.free t li k hl (abY t li k hl hs) pO (λh => hz (hr.IY (abw _) (UV _) t h)) λj hj _ hf => ?_
              exact hz (hr.IY (hj) (UV _) t (hr.aen hj hf)) }
    jD := hv.jD, fq := hv.fq, os := hv.os, tape := hv.tape, output := hv.output, size := hv.size, frame := hv.frame, fA := hv.fA, rI := hv.rI
    own := λt li k hl hs => hv.own t li k hl (abY t li k hl hs) }, λt => ?_, hv.defers, hv.R6⟩
  obtain⟨m, hm, h1, h2⟩ := hv.tm t
  rw[hr.Sl hm (UV _) λj hj h3 h4 zh => ?_]
  ·exact h2
  grind
end
end Go.Vm
/- One operation of a region, in the model. -/
namespace Go.Vm
theorem GW{P:Program}{o:Oper}{a:Act}{w:World}{f:FuncId}{us:Array Value}{R:Value->World->Prop}{next:Act->World->Prop}{Q:Exit->Act->World->Prop}
 (h:(execOp a.eval o).run P w=(callFunc f us).run P w) (hc:zf P f us w R) (hR: ∀v w',R v w'->next (a.put o.dst v) w'):o.wp P a w next Q:=by
 unfold Oper.wp;rw[h];rcases hc with⟨v,w',h1,h2⟩|⟨h1,h2⟩
 ·grind[Oper.upon_value]
 rw[h1,Oper.upon_enter]
 refine h2.mono λe w' ⟨v,he,hv⟩=>?_
 grind
theorem Sp{im:Im}{loc:Loc}{e:Env}{a:Act}(x:ib)(h: ∀t,x= .t t->VR im loc (lk t e) (a.tmps.getD t Go.undef))(o:Operand)(hc:bM x o=adu):VR im loc (x.ev e) (a.eval o):=by
 unfold bM at hc;split at hc
 ·rename_i n m
  have:n=m:=by simpa using hc
  subst this;exact h n rfl
 ·exact NH hc
 ·rename_i f g
  have:f=g:=by simpa using hc
  subst this;exact .fE f [] [] [] [] .nil .nil
 ·exact .undef _
 cases hc
section
variable {P : Program} {F : qo} {rec : Task -> Option Out} {ops : List cI} {S : Nat -> St} {X : Nat -> Option XR} {B1 : Nat -> Nat -> Prop} {nV : Im} {eD : Loc} {w0 : World} {nt : Nat}
  {done : Nat -> Prop} {im : Im} {loc : Loc} {a : Act} {w : World} {i : Nat} {prims : FuncId -> Bool} {mD : Array Oper}
theorem VR.abZ{v:Value}(h:VR im loc .nD v):v=Go.undef:=by cases h;rfl
theorem AP{r:rQ}{d:Option Nat}{st:St}:((XR.loc r).next d st).aB.length=ad7 st.aB+(ad7 r.news):=by simp[XR.next,yo,kB]
theorem Mt{x:cI}{o:Oper}{e:Env}{b:Bool}(hc:zS mD x.guard o.guard=adu)(hs: ∀s c,x.guard=adc (s,c)->VR im loc (lk s e) (a.tmps.getD s Go.undef))(h:wanted x.guard e=adc b):
 Region.wanted o (yielded mD a.tmps)=b:=by
 unfold Region.wanted;cases hg:x.guard with
 |none=>
  rw[hg]at hc h;cases ho:o.guard with
  |none=>simp[wanted]at h;subst h;rfl
  |some q=>rw[ho]at hc;simp[zS]at hc
 |some q=>
  obtain⟨s,c⟩:=q;rw[hg]at hc h;cases ho:o.guard with
  |none=>rw[ho]at hc;simp[zS]at hc
  |some q'=>
   obtain⟨j,c'⟩:=q';rw[ho]at hc;simp[zS,IR,beq_iff_eq]at hc;obtain⟨rfl,hd⟩:=hc;have hv:=hs s c hg;dsimp only;unfold yielded;rw[hd];simp[wanted]at h;split at h
   ·rename_i b' hl
    rw[hl]at hv;have:=hv.mP;have ht:a.tmps[s]? =adc (.bool b'):=by
     simp[abt]at this;cases hq:a.tmps[s]? with
     |none=>rw[hq]at this;simp[Go.undef]at this
     |some u=>rw[hq]at this;exact congrArg adc this
    simp_all
   ·rename_i hl
    rw[hl]at hv;have:=hv.abZ;injection h with h;subst h;have ht: ∀b',a.tmps[s]?≠adc (.bool b'):=by intro b' hq;simp[abt,hq,]at this;cases this
    simp
   cases h
structure N4(P:Program)(F:qo)(rec:Task->Option Out):Prop where
 func:GS P rec
 nT:Dl P F
theorem Inv.wpOp(hE:N4 P F rec)(hr:Cp F rec ops S X)(ho:Ord ops S X B1)(hv:Inv ops S X nV eD w0 nt done im loc a w)(hp:Place ops B1 done i){x:cI}{o:Oper}(hx:ops[i]? =adc x)(hmo:mD[i]? =adc o)
 (hc:yx P prims nt mD x o=adu) {Q:Exit->Act->World->Prop} {K:Act->World->Prop}
 (hK: ∀fP bE a' w',Inv ops S X nV eD w0 nt (plus done i) fP bE a' w'->K a' w'):Go.wpOp P mD Q i K a w:=by
 unfold yx at hc;simp[IR,beq_iff_eq]at hc;obtain⟨⟨⟨zh,hnt⟩,hg⟩,iM⟩:=hc;have hd: ∀d,x.dst=adc d->d<nt:=by intro d h;rw[h]at hnt;simpa using hnt
 have aep: ∀t,t∈ay x->VR im loc (lk t (S i).env) (a.tmps.getD t Go.undef):=λt ht=>hv.slot hr ho hp hx ht
 have V7: ∀y∈x.op.iu,∀o',bM y o'=adu->VR im loc (y.ev (S i).env) (a.eval o'):=by intro y hy o' hco;refine Sp y (λt ht=>aep t ?_) o' hco;subst ht;exact abT _ (List.mem_filterMap.2 ⟨.t t,hy,rfl⟩)
 have hgs: ∀s c,x.guard=adc (s,c)->VR im loc (lk s (S i).env) (a.tmps.getD s Go.undef):=by intro s c h;refine aep s (List.mem_append_right _ ?_);rw[h];simp
 unfold Go.wpOp;simp[hmo];rcases hr.steps i x hx with⟨hw,xr,me,nE,hX,hS⟩|⟨hw,hX,hS⟩
 ·rw[Mt hg hgs hw]
  left;have aiM: ∀{own:Bool} {f:FuncId} {args:List PV} {us:List Value} {r:rQ},xr= .loc r->eK F rec own f args (S i).aB (S i).fz=adc r->gz im loc args us->
   (execOp a.eval o).run P w=(callFunc f ⟨us⟩).run P w->o.wp P a w K Q:=by
   intro own f args us r hxr hcp Dj dy;subst hxr;have hk:=hv.known hr ho hp hX nE (by rw[hS];exact AP);refine GW dy (NX hE.func hE.nT hcp Dj hk) λv' w' ⟨fP,bE,tL,B0⟩=>?_
   exact hK _ _ _ _ (zh▸hv.Fw hr ho hp hx hX nE hS tL B0 hd)
  have YA: ∀{f:FuncId} {args:List PV} {us:List Value},iQ rec f args (S i).aB (S i).fz=adc xr->gz im loc args us->
   (execOp a.eval o).run P w=(callFunc f ⟨us⟩).run P w->o.wp P a w K Q:=by
   intro f args us v8 Dj dy;unfold iQ at v8;split at v8
   ·rename_i v s z Jx
    split at v8
    ·injection v8 with v8;subst v8
     refine GW dy (hE.func f args _ _ v s z Jx im loc w us (hv.sr hr ho hp hX) Dj) λv' w' ⟨fP,bE,hf⟩=>?_
     exact hK _ _ _ _ (zh▸hv.Yz hr ho hp hx hX hS hf hd)
    cases v8
   cases v8
  have afu: ∀{r:rQ},xr= .loc r->bO (S i).env (S i).aB (S i).fz x.op=adc r->o.wp P a w K Q:=by
   intro r hxr he;subst hxr;have hk:=hv.known hr ho hp hX nE (by rw[hS];exact AP);obtain⟨nx,w',bE,dy,hnx,B0⟩:=Yi iM V7 he hk;unfold Oper.wp;rw[dy];rcases hnx with⟨rfl,hu⟩|⟨v,rfl,tL⟩
   ·rw[Oper.upon_skip]
    exact hK _ _ _ _ (zh▸hv.Fw hr ho hp hx hX nE hS (by rw[hu];exact .undef _) B0 hd)
   exact hK _ _ _ _ (zh▸hv.Fw hr ho hp hx hX nE hS tL B0 hd)
  cases hxo:x.op with
  |call m f args=>
   rw[hxo]at me iM V7;have YB: ∃as ats,o.op= .call {callee:= .value (.func f),args:=as,argTypes:=ats}/\gH args as.toList=adu:=by
    cases XT:o.op with
    |call c=>
     obtain⟨callee,as,ats⟩:=c;rw[XT]at iM;cases callee with
     |value g=>
      cases g with
      |func g=>
       simp[BM,]at iM
       grind
      |_=>simp[BM]at iM
     |_=>simp[BM]at iM
    |_=>rw[XT]at iM;simp[BM]at iM
   obtain⟨as,ats,XT,hco⟩:=YB;have hrel:=qU (λy hy=>V7 y (by assumption)) hco;have dy:(execOp a.eval o).run P w=(callFunc f ⟨as.toList.map a.eval⟩).run P w:=by
    have:(⟨as.toList.map a.eval⟩:Array Value)=as.map a.eval:=by apply ad3;simp
    rw[this];simp[execOp,XT,resolve,Act.eval,Deferred.ofValue,invoke]
   cases m with
   |pur=>
    simp[BV,WF]at me
    grind
   |own=>
    simp[BV,WF]at me
    grind
   |shr=>exact YA me hrel dy
   |fp=>
    simp[BV,WF]at me;obtain⟨r,N5,hr2⟩:=me;subst hr2;have hk:=hv.known hr ho hp hX nE (by rw[hS];exact AP);refine GW dy (Sj hE.func N5 hrel hk) λv' w' ⟨fP,bE,tL,B0⟩=>?_
    exact hK _ _ _ _ (zh▸hv.Fw hr ho hp hx hX nE hS tL B0 hd)
  |BJ y args=>
   rw[hxo]at me iM V7;have YB: ∃t as ats,o.op= .call {callee:= .value (.tmp t),args:=as,argTypes:=ats}/\bM y (.tmp t)=adu/\gH args as.toList=adu:=by
    cases XT:o.op with
    |call c=>
     obtain⟨callee,as,ats⟩:=c;rw[XT]at iM;cases callee with
     |value g=>
      cases g with
      |tmp g=>
       simp[BM,]at iM
       grind
      |_=>simp[BM]at iM
     |_=>simp[BM]at iM
    |_=>rw[XT]at iM;simp[BM]at iM
   obtain⟨t,as,ats,XT,hcy,hco⟩:=YB;have hrel:=qU (λy hy=>V7 y (by simp[oK.iu,hy])) hco;have hy:=V7 y (by simp[oK.iu]) (.tmp t) hcy;simp[BV]at me;split at me
   ·rename_i f p q hyv
    rw[hyv]at hy;generalize hgv:a.eval (.tmp t)=gv at hy;cases hy with
    |fE _ _ _ us vs h1 h2=>
    have qW:=(h1.append hrel).append h2;have dy:(execOp a.eval o).run P w=(callFunc f ⟨us++as.toList.map a.eval++vs⟩).run P w:=by
     have:(⟨us++as.toList.map a.eval++vs⟩:Array Value)=(⟨us⟩++as.map a.eval)++⟨vs⟩:=by apply ad3;simp
     rw[this];simp[execOp,XT,resolve,hgv,Deferred.ofValue,invoke]
    grind[WF]
   cases me
  |_=>rw[hxo]at me;simp[BV,WF]at me;obtain⟨r,N5,hr2⟩:=me;exact afu hr2.symm (by rw[hxo];exact N5)
 rw[Mt hg hgs hw]
 exact hK _ _ _ _ (zh▸hv.step_skip hr ho hp hx hX hS hd)
end
end Go.Vm
/- A region, in the order of the text or in a drawn one. -/
namespace Go.Vm
def zT(P:Program)(prims:FuncId->Bool)(nt:Nat)(mD:Array Oper):List cI->List Oper->Bool
 | [],[]=>adu
 |x::xs,o::os=>yx P prims nt mD x o&&zT P prims nt mD xs os
 |_,_=>adw
theorem Fy{P:Program}{prims:FuncId->Bool}{nt:Nat}{mD:Array Oper}: ∀{xs:List cI} {os:List Oper},zT P prims nt mD xs os=adu->
 (ad7 xs)=ad7 os/\ ∀(i:Nat) (x:cI) (o:Oper),xs[i]? =adc x->os[i]? =adc o->yx P prims nt mD x o=adu
 | [],[],_=>⟨rfl,λi x o h=>by simp at h⟩
 |x::xs,o::os,h=>by
  simp[zT,]at h;obtain⟨h1,h2⟩:=Fy h.2
  grind
 | [],_::_,h=>by simp[zT]at h
 |_::_,[],h=>by simp[zT]at h
def bit(m i:Nat):Bool:=Nat.testBit m i
def qY(my:List Nat)(j:Nat):List Edge->Option Nat
 | []=>adc 0
 |e::es=>match qY my j es with
  |some m=>if Region.binds .any e then(if abF e.on j then adc (m|||((my.getD e.on 0)|||(1<<<e.on)))else ado)else adc m
  |none=>ado
def zU(my:List Nat):Nat->List Nat->List Oper->Bool
 |_,[],[]=>adu
 |j,m::ms,o::os=>(match qY my j o.after.toList with|some m'=>m==m'|none=>adw)&&zU my (j+1) ms os
 |_,_,_=>adw
def zV(i : Nat)(x : cI)(ux : List Nat) : List cI -> List Nat -> Bool
  | [], _ => adu
  | y :: ys, m :: ms => (bit m i || ((match x.dst with
      | some d => !has (ay y) d && (match y.dst with | some d' => !(If d d') | none => adu)
      | none => adu) && (match y.dst with | some d => !has ux d | none => adu))) && zV i x ux ys ms
  | _ :: _, [] => adw
def zW:Nat->List cI->List Nat->Bool
 |_,[],_=>adu
 |i,x::xs,_::ms=>zV i x (ay x) xs ms&&zW (i+1) xs ms
 |_,_::_,[]=>adw
def GX(P:Program)(prims:FuncId->Bool)(nt:Nat)(draw:Option (List Nat))(afw:List cI)(mD:Array Oper)(flag:Bool):Bool:=
 zT P prims nt mD afw mD.toList&&match draw with
 |none=>!flag
 |some bf=>flag&&If (ad7 bf) (ad7 afw)&&zU bf 0 bf mD.toList&&zW 0 afw bf
section
variable {P : Program} {F : qo} {rec : Task -> Option Out} {ops : List cI} {S : Nat -> St} {X : Nat -> Option XR} {B1 : Nat -> Nat -> Prop} {nV : Im} {eD : Loc} {w0 : World} {nt : Nat}
  {done : Nat -> Prop} {im : Im} {loc : Loc} {a : Act} {w : World} {i : Nat} {prims : FuncId -> Bool} {mD : Array Oper}
theorem Ord.text:Ord ops S X (· < ·) where
 JG:=λ_ _ _ _ _ h _ _ _ _=>h
 Yv:=λ_ _ _ _ _ h _ _ _ _=>h
 Sm:=λ_ _ _ h _ _ _=>h
 afl:=λ_ _ _ h _ _ _=>h
 afm:=λ_ _ _ h _ _ _ _ _ _=>h
 PA:=λ_ _ h _ _=>h
 cl:=λ_ _ _ _ _=> .inr λ_ h _=>h
theorem JI(hE:N4 P F rec)(hr:Cp F rec ops S X)(hc: ∀(i:Nat) (x:cI) (o:Oper),ops[i]? =adc x->mD[i]? =adc o->yx P prims nt mD x o=adu)(eX:(ad7 ops)=mD.size)
 {Q:Exit->Act->World->Prop} (hQ: ∀im loc a w,Inv ops S X nV eD w0 nt (λi=>i<ad7 ops) im loc a w->Q .normal a w):
 ∀(d n:Nat) (im:Im) (loc:Loc) (a:Act) (w:World),n+d=ad7 ops->Inv ops S X nV eD w0 nt (λi=>i<n) im loc a w->wpOps P mD Q (List.range' n d) a w
 |0,n,im,loc,a,w,hn,hv=>by
  have:n=(ad7 ops):=by omega
  subst this;exact hQ im loc a w hv
 |d+1,n,im,loc,a,w,hn,hv=>by
  have hx:=EQ (show n<(ad7 ops) by omega);have ho:=abN (show n<mD.size by omega);refine Inv.wpOp hE hr Ord.text hv {lt:=by omega,nd:=by omega,pre:=λj _ h=>h,fE:=λk _ h1 j _ h2=>by omega} hx ho (hc n _ _ hx ho) λfP bE a' w' h'=>?_
  refine JI hE hr hc eX hQ d _ fP bE a' w' (by omega) ?_;have e:plus (λi=>i<n) n=λi=>i<n+1:=by
   funext j;unfold plus;apply propext;omega
  grind
def Bef(my:List Nat)(i j:Nat):Prop:=bit (my.getD j 0) i=adu
theorem AQ{my:List Nat}{j:Nat}: ∀{es:List Edge} {m:Nat},qY my j es=adc m->(∀e∈es,Region.binds .any e=adu->e.on<j)/\
 ∀i,bit m i=adu-> ∃e∈es,Region.binds .any e=adu/\(e.on=i\/bit (my.getD e.on 0) i=adu)
 | [],m,h=>by simp[qY,]at h;subst h;exact⟨λe h=>(by cases h),λi h=>by simp[bit]at h⟩
 |e::es,m,h=>by
  simp[qY]at h;split at h
  ·rename_i m' Fv
   obtain⟨h1,h2⟩:=AQ Fv;split at h
   ·rename_i hb
    split at h
    ·rename_i iL
     injection h with h;subst h;refine⟨λe' Po HP=>?_,λi hi=>?_⟩
     ·rcases abV.1 Po with rfl|Po
      ·simpa using iL
      exact h1 e' Po HP
     simp only[bit,Nat.testBit_or,Bool.or_eq_true]at hi
     rcases hi with hi|hi|hi
     ·obtain⟨e',Po,h3⟩:=h2 i hi
      exact⟨e',List.mem_cons_of_mem _ Po,h3⟩
     ·exact⟨e,by simp,hb,.inr hi⟩
     refine⟨e,by simp,hb,.inl ?_⟩
     rw[Nat.one_shiftLeft,Nat.testBit_two_pow]at hi;simpa using hi
    cases h
   grind
  cases h
theorem HW{my:List Nat}: ∀{j:Nat} {ms:List Nat} {os:List Oper},zU my j ms os=adu->ad7 ms=ad7 os/\
 ∀(k:Nat) (m:Nat) (o:Oper),ms[k]? =adc m->os[k]? =adc o->qY my (j+k) o.after.toList=adc m
 |j,[],[],_=>⟨rfl,λk m o h=>by simp at h⟩
 |j,m::ms,o::os,h=>by
  simp[zU,]at h;obtain⟨h1,h2⟩:=h;obtain⟨h3,h4⟩:=HW h2
  grind
 |j,[],_::_,h=>by simp[zU]at h
 |j,_::_,[],h=>by simp[zU]at h
theorem Fz{i:Nat}{x:cI}{ux:List Nat}: ∀{ys:List cI} {ms:List Nat},zV i x ux ys ms=adu-> ∀(k:Nat) (y:cI),ys[k]? =adc y->
 bit (ms.getD k 0) i=adu\/((∀d,x.dst=adc d->d∉ay y/\y.dst≠adc d)/\ ∀d,y.dst=adc d->d∉ux)
 | [],_,_,k,y,h=>by simp at h
 |z::ys,[],h,k,y,hy=>by simp[zV]at h
 |z::ys,m::ms,h,k,y,hy=>by
  simp[zV,]at h;obtain⟨h1,h2⟩:=h;cases k with
  |succ k=>simpa using Fz h2 k y (by simpa using hy)
  |zero=>
   simp at hy;subst hy;rcases h1 with h1|⟨h1,h3⟩
   ·grind
   refine .inr ⟨λd hd=>?_,λd hd=>?_⟩
   ·rw[hd]at h1
    simp[]at h1;refine⟨mS.1 h1.1,λhz=>?_⟩;simp_all
   rw[hd]at h3
   simp[]at h3;exact mS.1 h3
theorem Cr: ∀{i0:Nat} {xs:List cI} {ms:List Nat},zW i0 xs ms=adu-> ∀(i j:Nat) (x y:cI),i<j->xs[i]? =adc x->xs[j]? =adc y->
 bit (ms.getD j 0) (i0+i)=adu\/((∀d,x.dst=adc d->d∉ay y/\y.dst≠adc d)/\ ∀d,y.dst=adc d->d∉ay x)
 |i0,[],_,_,i,j,x,y,_,hx,_=>by simp at hx
 |i0,z::xs,[],h,i,j,x,y,_,hx,_=>by simp[zW]at h
 |i0,z::xs,m::ms,h,i,j,x,y,p8,hx,hy=>by
  simp[zW,]at h;obtain⟨h1,h2⟩:=h;cases j with
  |zero=>omega
  |succ j=>
   cases i with
   |zero=>simp at hx;subst hx;simpa using Fz h1 j y (by simpa using hy)
   |succ i=>
    have:=Cr h2 i j x y (by omega) (by simpa using hx) (by simpa using hy)
    grind
theorem Mu{i:Nat}{t:Tr}: ∀{l:List _},NB i t l=adu-> ∀(k:Nat) (b:Tr) (m:Nat),l[k]? =adc (b,m)->t.zI b=adu->bit m i=adu
 | [],_,k,b,m,h,_=>by simp at h
 |(b',m')::r,h,k,b,m,hk,hc=>by
  simp[NB,]at h;cases k with
  |zero=>
   obtain⟨rfl,rfl⟩:=hk;rcases h.1 with h1|h1
   ·grind
   exact h1
  |succ k=>exact Mu h.2 k b m (by simpa using hk) hc
theorem JJ: ∀{i0:Nat} {l:List _},wJ i0 l=adu->(∀(i:Nat) (t:Tr) (m:Nat),l[i]? =adc (t,m)->t.cl=adu)/\
 ∀(i j:Nat) (t b:Tr) (m m':Nat),i<j->l[i]? =adc (t,m)->l[j]? =adc (b,m')->t.zI b=adu->bit m' (i0+i)=adu
 |_,[],_=>⟨λi t m h=>by simp at h,λi j t b m m' _ h=>by simp at h⟩
 |i0,(t0,m0)::r,h=>by
  simp[wJ,]at h;obtain⟨⟨h1,h2⟩,h3⟩:=h;obtain⟨h4,h5⟩:=JJ h3;refine⟨λi t m hi=>?_,λi j t b m m' p8 hi hj hc=>?_⟩
  ·grind
  cases j with
  |zero=>omega
  |succ j=>
   cases i with
   |zero=>
    grind[Mu]
   |succ i=>
    grind
theorem JK{l m:List Nat}{t:Nat}(h1:t∈l)(h2:t∈m):meets l m=adu:=by unfold meets;rw[acG];exact⟨t,h1,uR.2 h2⟩
theorem Ord.drawn(hr : Cp F rec ops S X){my : List Nat}(R5 : (ad7 my) = (ad7 ops))(hs : zW 0 ops my = adu)(ho : wJ 0 ((D7 S X (ad7 ops)).zip my) = adu) : Ord ops S X (Bef my) := by
  obtain⟨IW, hcz⟩ := JJ ho
  have LO : ∀ i, i < (ad7 ops) -> ((D7 S X (ad7 ops)).zip my)[i]? = adc (D1 (X i) (S i), my.getD i 0) := by
    intro i hi
    rw[List.getElem?_zip_eq_some]
    refine⟨?_, ?_⟩
    ·unfold D7; simp[hi]
    grind
  have zI : ∀ i j, i < j -> j < (ad7 ops) -> (D1 (X i) (S i)).zI (D1 (X j) (S j)) = adu -> Bef my i j := by
    intro i j p8 hj hc
    have := hcz i j _ _ _ _ p8 (LO i (by omega)) (LO j hj) hc
    unfold Bef; simpa using this
  have tch : ∀ j, jU X j -> (D1 (X j) (S j)).jU = adu := by
    intro j h
    unfold jU at h
    unfold D1
    cases hX : X j with
    | none => grind
    | some x =>
      rw[hX]at h
      cases x with
      | shr v s z => rfl
      | loc r =>
        simp[XR.tr, Tr.jU, ]
        rcases h with h | h | h | h
        ·cases XP : r.rd with
         | nil => exact absurd XP h
         | cons _ _ => simp
        ·cases XP : r.fr with
         | nil => exact absurd XP h
         | cons _ _ => simp
        ·cases XP : r.wr with
         | nil => exact absurd XP h
         | cons _ _ => simp
        grind
  have brr : ∀ j, xC X j -> (D1 (X j) (S j)).PA = adu := by
    rintro j ⟨v, s, z, h⟩; rw[h]; rfl
  have tW : ∀ j t, W X j t -> jU X j := λj t h => AO h
  have tA : ∀ j t, A X j t -> jU X j := by
    intro j t h
    unfold A at h; unfold jU
    grind
  have PA : ∀ i j, i < j -> j < (ad7 ops) -> (xC X i /\ jU X j \/ jU X i /\ xC X j) -> Bef my i j := by
    intro i j p8 hj h
    refine zI i j p8 hj ?_
    unfold Tr.zI
    rcases h with⟨h1, h2⟩ | ⟨h1, h2⟩
    ·rw[brr i h1, tch j h2]; simp
    grind
  have wrT : ∀ j t, W X j t -> ¬ xC X j -> t ∈ (D1 (X j) (S j)).wr := by
    intro j t h hn
    unfold W at h
    cases hX : X j with
    | none => grind
    | some x =>
      rw[hX]at h
      cases x with
      | shr v s z => exact absurd ⟨v, s, z, hX⟩ hn
      | loc r =>
        obtain⟨k, hk⟩ := h
        exact List.mem_map.2 ⟨(t, k), hk, rfl⟩
  have rdT : ∀ j t, A X j t -> t ∈ (D1 (X j) (S j)).rd := by
    intro j t h
    unfold A at h
    cases hX : X j with
    | none => grind
    | some x =>
      rw[hX]at h
      cases x with
      | shr v s z => exact h.elim
      | loc r => exact abK.2 h
  exact {
    JG := λi j t x y p8 hx hy hd hu => by
      rcases Cr hs i j x y p8 hx hy with h | ⟨h, _⟩
      ·unfold Bef; simpa using h
      rcases hu with hu | hu
      ·exact absurd hu (h t hd).1
      exact absurd hu (h t hd).2
    Yv := λi j t x y p8 hx hy hd hu => by
      rcases Cr hs i j x y p8 hx hy with h | ⟨_, h⟩
      ·unfold Bef; simpa using h
      exact absurd hu (h t hd)
    Sm := λi j t p8 hj hW hAW => by
      by_cases hi : xC X i
      ·exact PA i j p8 hj (.inl ⟨hi, hAW.elim (tA j t) (tW j t)⟩)
      by_cases V5 : xC X j
      ·exact PA i j p8 hj (.inr ⟨tW i t hW, V5⟩)
      refine zI i j p8 hj ?_
      unfold Tr.zI
      rcases hAW with h | h
      ·rw[JK (wrT i t hW hi) (rdT j t h)]; simp
      rw[JK (wrT i t hW hi) (wrT j t h V5)]; simp
    afl := λi j t p8 hj hA hW => by
      by_cases V5 : xC X j
      ·exact PA i j p8 hj (.inr ⟨tA i t hA, V5⟩)
      refine zI i j p8 hj ?_
      unfold Tr.zI
      rw[JK (rdT i t hA) (wrT j t hW V5)]; simp
    afm := λi j t p8 hj hsi h1 h2 V5 hW => by
      refine zI i j p8 hj ?_
      unfold Tr.zI
      have : ((D1 (X j) (S j)).wr.any λt => abu (D1 (X i) (S i)).lo t && abF t (D1 (X i) (S i)).hi) = adu := by
        rw[acG]
        refine⟨t, wrT j t hW V5, ?_⟩
        rcases hr.steps i _ (EQ (by omega))with⟨_, x, hx, _, hX, hn⟩ | ⟨_, hX, hn⟩
        ·cases x with
         | shr v s z => exact absurd ⟨v, s, z, hX⟩ hsi
         | loc r =>
           rw[hn, AP]at h2
           rw[hX]
           simp[D1, XR.tr, ]
           exact⟨h1, by simpa using h2⟩
        rw[hn]at h2; dsimp only at h2; omega
      rw[this]; simp
    PA := PA
    cl := λi t hi hsi hAW => by
      left
      have hc := IW i _ _ (LO i hi)
      cases hX : X i with
      | none => rcases hAW with h | h
                ·unfold A at h; rw[hX]at h; exact h.elim
                unfold W at h; rw[hX]at h; exact h.elim
      | some x =>
        cases x with
        | shr v s z => exact absurd ⟨v, s, z, hX⟩ hsi
        | loc r =>
          have hb : ∀ u v : Nat, abF u v = adu -> u < v := λu v h => by simpa using h
          rw[hX]at hc
          simp only[D1, XR.tr, IR, abx]at hc
          rcases hAW with h | h
          ·unfold A at h; rw[hX]at h
           exact hb _ _ (hc.1 t (abK.2 h))
          unfold W at h; rw[hX]at h
          obtain⟨k, hk⟩ := h
          exact hb _ _ (hc.2 (t, k) hk) }
end
end Go.Vm
/- A region: the theorem. -/
namespace Go.Vm
section
variable {P : Program} {F : qo} {rec : Task -> Option Out} {ops : List cI} {S : Nat -> St} {X : Nat -> Option XR} {nV : Im} {eD : Loc} {w0 : World} {nt : Nat}
  {im : Im} {loc : Loc} {a : Act} {w : World} {i : Nat} {prims : FuncId -> Bool} {mD : Array Oper} {my : List Nat}
def oz(l:Array Bool)(i:Nat):Prop:=l.getD i adw=adu
theorem P8(hE:N4 P F rec)(hr:Cp F rec ops S X)(ho:Ord ops S X (Bef my))(hc: ∀(i:Nat) (x:cI) (o:Oper),ops[i]? =adc x->mD[i]? =adc o->yx P prims nt mD x o=adu)(eX:(ad7 ops)=mD.size)
 (hm: ∀(k:Nat) (o:Oper),mD[k]? =adc o->qY my k o.after.toList=adc (my.getD k 0))
 {Q:Exit->Act->World->Prop} (hQ: ∀im loc a w (done:Nat->Prop),(∀i,i<ad7 ops->done i)->Inv ops S X nV eD w0 nt done im loc a w->Q .normal a w):
 ∀(Ey:Nat) (l:Array Bool) (im:Im) (loc:Loc) (a:Act) (w:World),l.size=ad7 ops->Ey+l.toList.count adu=ad7 ops->(∀k j,oz l k->Bef my j k->oz l j)->
  Inv ops S X nV eD w0 nt (oz l) im loc a w->wpAny P .any mD Q Ey l a w:=by
 have full: ∀l:Array Bool,l.size=ad7 ops->Region.ready .any mD l=[]-> ∀i,i<ad7 ops->oz l i:=by
  intro l hl NQ i
  induction i using Nat.strongRecOn with
  |_ i ih=>
   intro hi
   by_cases h:oz l i
   ·exact h
   have ID:i∈Region.ready .any mD l:=by
    rw[mem_ready];have ho:=abN (show i<mD.size by omega);refine⟨?_,_,ho,λe he hb=>?_⟩
    ·unfold oz at h
     have iL:i<l.size:=by omega
     simp[iL]at h ⊢;exact h
    have:=(AQ (hm i _ ho)).1 e (by simpa using he) hb
    exact ih e.on this (by omega)
   grind
 intro Ey
 induction Ey with
 |zero=>
  intro l im loc a w hl ank ab1 hv;have wN: ∀b∈l.toList,adu=b:=by
   have:l.toList.count adu=(ad7 l.toList):=by grind
   exact List.count_eq_length.1 this
  have UL: ∀i,i<ad7 ops->oz l i:=by
   intro i hi;have iL:i<l.size:=by omega
   have:=wN (l[i]) (by simp);unfold oz;simp_all
  refine⟨?_,hQ im loc a w _ UL hv⟩;cases XP:Region.ready .any mD l with
  |nil=>rfl
  |cons x xs=>
   have ID:x∈Region.ready .any mD l:=by rw[XP];simp
   obtain⟨h0,o,hox,_⟩:=mem_ready.1 ID;have iL:=(abB.1 hox).1;have:=UL x (by omega);unfold oz at this
   grind
 |succ Ey ih=>
  intro l im loc a w hl ank ab1 hv;refine⟨λNQ=>hQ im loc a w _ (full l hl NQ) hv,λi hi=>?_⟩;obtain⟨h0,o,hox,wN⟩:=mem_ready.1 hi;have iL:=(abB.1 hox).1;have YC:i<l.size:=by omega
  have hx:=EQ (show i<(ad7 ops) by omega);have aiP: ∀j,Bef my j i->oz l j:=by
   intro j hj;obtain⟨e,he,hb,h⟩:=(AQ (hm i o hox)).2 j hj;have qf:=wN e (by simpa using he) hb;rcases h with rfl|h
   ·exact qf
   exact ab1 _ _ qf h
  have LN: ¬oz l i:=by unfold oz;grind
  refine Inv.wpOp hE hr ho hv {lt:=by omega,nd:=LN,pre:=λj _ h=>aiP j h,fE:=λk _ h1 j _ h2=>ab1 k j h1 h2} hx hox (hc i _ _ hx hox) λfP bE a' w' h'=>?_
  have e:plus (oz l) i=oz (l.setIfInBounds i adu):=by
   funext j
   apply propext;unfold plus oz
   by_cases p8:i=j
   ·subst p8;simp[YC]
   simp[getD_set_ne adw p8]
   grind
  rw[e]at h';refine ih _ fP bE a' w' (by simpa using hl) ?_ ?_ h'
  ·rw[Array.toList_setIfInBounds,List.count_set (by simpa using YC)]
   have:l.toList[i]=adw:=by simp[YC]at h0;simpa using h0
   grind
  intro k j hk hj
  rw[<-e]at hk ⊢;rcases hk with hk|rfl
  ·exact .inl (ab1 k j hk hj)
  exact .inl (aiP j hj)
theorem ER.ig{st:Env}{ig:List Nat}(h:ER im loc st a.tmps):ER im loc (ig.map λs=>(s,lk s st)) a.tmps:=by
 intro t;have:lk t (ig.map λs=>(s,lk s st))=lk t st\/lk t (ig.map λs=>(s,lk s st))= .undef:=by
  induction ig with
  |nil=>exact .inr rfl
  |cons s r ih=>
   grind[wK]
 rcases this with h'|h'
 ·rw[h'];exact h t
 rw[h'];exact .undef _
structure BP(im:Im)(loc:Loc)(nt:Nat)(st:St)(a:Act):Prop where
 env:ER im loc st.env a.tmps
 defers:a.defers=[]
 R6:a.tmps.size=nt
theorem Kept.world{mC : di}{st : St}{w1 : World}(h : Kept nV eD mC w1 st im loc w)(hh : w1.heap = w0.heap)(ho : w1.os = w0.os)(ht : Tape w0 w1)(hp : w1.output = w0.output) : Kept nV eD mC w0 st im loc w :=
  { sr := h.sr, jD := h.jD, fq := h.fq, os := h.os.trans ho, tape := h.tape.trans ht, output := h.output.trans hp, size := by have := h.size; grind
    frame := by have := h.frame; grind
    fA := by have := h.fA; grind
    rI := h.rI
    own := by have := h.own; grind }
theorem SR.world{aB:di}{fz:List Nat}{w1:World}(h:SR im loc aB fz w)(hh:w1.heap=w.heap):SR im loc aB fz w1 where
 bW:=by rw[hh];exact h.bW
 eB:=λt li hl=>let ⟨k,h1,h2⟩:=h.eB t li hl;⟨k,h1,h2.mono (.refl _) (.refl _) (by rw[hh])⟩
 lh:=h.lh
 free:=h.free
theorem Sq(hE:N4 P F rec)(vD:P.follows .mixedOrders=adu){draw:Option (List Nat)}{ig:List Nat}{id:Nat}{flag:Bool}{st oh:St}
 (hc:GX P prims nt draw ops mD flag=adu) (me:oN F rec draw ops ig st=adc oh) (oD:SR nV eD st.aB st.fz w0) (ha:BP nV eD nt st a) {Q:Exit->Act->World->Prop}
 (hQ: ∀im loc a' w',Kept nV eD st.aB w0 oh im loc w'->BP im loc nt oh a'->Q .normal a' w'):(Code.region id mD flag).wp P Q a w0:=by
 unfold GX at hc;simp[IR]at hc;obtain⟨V8,hd⟩:=hc;obtain⟨eX,ab2⟩:=Fy V8;have eX:(ad7 ops)=mD.size:=by simpa using eX
 have ab2:=λi x o hx ho=>ab2 i x o hx (by simpa using ho)
 unfold oN at me;cases he:rS F rec ops st []with
 |none=>grind
 |some q=>
  obtain⟨rU,tr⟩:=q;rw[he]at me;obtain⟨S,X,h0,hn,hr,htr⟩:=GV ops st [] rU tr he;have fin: ∀(w1:World),w1.heap=w0.heap->w1.os=w0.os->Tape w0 w1->w1.output=w0.output->oh={rU with env:=ig.map λs=>(s,lk s rU.env)}-> ∀im loc a' w' (done:Nat->Prop),(∀i,i<ad7 ops->done i)->
   Inv ops S X nV eD w1 nt done im loc a' w'->Q .normal a' w':=by
   intro w1 q1 q2 q3 q4 dd im loc a' w' done hdn hv;obtain⟨hk,her,hdf,hns⟩:=hv.finish hr hdn;rw[hn]at hk her;rw[h0]at hk;subst dd;have hk:=hk.world q1 q2 q3 q4;exact hQ im loc a' w' {sr:=hk.sr,jD:=hk.jD,fq:=hk.fq,os:=hk.os,tape:=hk.tape,output:=hk.output,size:=hk.size,frame:=hk.frame,fA:=hk.fA,rI:=hk.rI,own:=hk.own} ⟨her.ig,hdf,hns⟩
  cases draw with
  |none=>
   have:flag=adw:=by simpa using hd
   subst this;injection me with me;refine wp_region ?_;rw[List.range_eq_range'];refine JI hE hr ab2 eX (λim loc a w hv=>fin w0 rfl rfl (.refl _) rfl me.symm im loc a w _ (λi h=>h) hv) mD.size 0 nV eD a w0 (by omega) ?_;have:=Inv.start h0 oD ha.env ha.defers ha.R6 hr
   grind
  |some bf=>
   dsimp only at hd me;simp[IR]at hd;obtain⟨⟨⟨rfl,hbl⟩,hmk⟩,hsl⟩:=hd;split at me
   ·rename_i XT
    injection me with me;have ann:tr.reverse=D7 S X (ad7 ops):=by rw[htr];simp
    rw[ann]at XT;obtain⟨_,hmk⟩:=HW hmk;refine wp_region_any vD ?_;refine P8 hE hr (Ord.drawn hr hbl hsl XT) ab2 eX ?_ (λim loc a w done hdn hv=>fin {w0 with drawn:=w0.drawn+1} rfl rfl ⟨rfl,Nat.le_succ _⟩ rfl me.symm im loc a w done hdn hv) mD.size _ nV eD a _ (by simp[eX]) ?_ ?_ ?_
    ·grind
    ·simp[eX,List.count_replicate]
    ·intro k j h
     unfold oz at h
     by_cases hk:k<mD.size<;>simp[hk]at h
    have:=Inv.start (w0:={w0 with drawn:=w0.drawn+1}) h0 (oD.world rfl) ha.env ha.defers ha.R6 hr
    have e:(λ_:Nat=>False)=oz (abC mD.size adw):=by
     funext i;apply propext
     unfold oz
     by_cases hk:i<mD.size<;>simp[hk]
    grind
   cases me
end
end Go.Vm
/- What a function keeps from its beginning on; the head of a loop. -/
namespace Go.Vm
theorem Kept.trans{nV LB JB:Im}{eD eL xB:Loc}{mC:di}{w0 w1 w2:World}{rU BW:St}(h1:Kept nV eD mC w0 rU LB eL w1)(h2:Kept LB eL rU.aB w1 BW JB xB w2)(hl:(ad7 mC)<=ad7 rU.aB):
 Kept nV eD mC w0 BW JB xB w2 where
 sr:=h2.sr
 jD:=h1.jD.trans h2.jD
 fq:=h1.fq.trans h2.fq
 os:=h2.os.trans h1.os
 tape:=h2.tape.trans h1.tape
 output:=h2.output.trans h1.output
 size:=abr h1.size h2.size
 frame:=λb hb hh=>by
  rw[h2.frame b (abD hb h1.size) λt li k hl hs pO XQ=>?_]
  ·exact h1.frame b hb hh
  rcases h1.own t li k hl hs pO with h|⟨u,lu,ku,g1,g2,g3,g4⟩
  ·omega
  grind
 fA:=λb o hb=>by
  rcases h2.fA b o hb with h|h|⟨t,li,k,g1,g2,g3,g4⟩
  ·exact h1.fA b o h
  ·exact .inr (.inl (abr h1.size h))
  rcases h1.own t li k g1 g2 g3 with h|⟨u,lu,ku,k1,k2,k3,k4⟩
  ·exact .inr (.inl (by omega))
  grind
 rI:=λt li h=>by
  rcases h2.rI t li h with h|h
  ·exact h1.rI t li h
  omega
 own:=λt li k hl hs pO=>by
  rcases h2.own t li k hl hs pO with h|⟨u,lu,ku,g1,g2,g3,g4⟩
  ·exact .inl (abr h1.size h)
  rcases h1.own u lu ku g1 g2 g3 with h|⟨u',lu',ku',k1,k2,k3,k4⟩
  ·exact .inl (by omega)
  grind
structure D8(nV:Im)(eD:Loc)(mC:di)(w0:World)(st:St)(im:Im)(loc:Loc)(w:World):Prop where
 kept:Kept nV eD mC w0 st im loc w
 kn:st.kn=ad7 mC
 len:(ad7 mC)<=ad7 st.aB
 dom: ∀t li,eD t=adc li->t<ad7 mC
theorem JL{F:qo}{rec:Task->Option Out}: ∀(ops:List cI) (st:St) (tr:List Tr) (oh:St) (V6:List Tr),rS F rec ops st tr=adc (oh,V6)->oh.kn=st.kn
 | [],st,tr,oh,V6,h=>by simp[rS,PP,abq]at h;rw[h.1]
 |o::l,st,tr,oh,V6,h=>by
  simp[rS]at h;split at h
  ·split at h
   ·rename_i x hx
    split at h
    ·have:=JL l _ _ oh V6 h
     rw[this];cases x<;>rfl
    cases h
   cases h
  ·have:=JL l _ _ oh V6 h
   exact this
  cases h
theorem N6{F:qo}{rec:Task->Option Out}{draw:Option (List Nat)}{ops:List cI}{ig:List Nat}{st oh:St}(h:oN F rec draw ops ig st=adc oh):oh.kn=st.kn/\ad7 st.aB<=(ad7 oh.aB):=by
 unfold oN at h;cases he:rS F rec ops st []with
 |none=>grind
 |some q=>
  obtain⟨rU,tr⟩:=q;obtain⟨S,X,h0,hn,hr,_⟩:=GV ops st [] rU tr he;have h1:=JL ops st [] rU tr he;have h2:=hr.kC (abw (ad7 ops)) (UV _)
  grind
section
variable {im : Im} {loc eL : Loc} {m : List Nat}
theorem P9{fz:List Nat}: ∀{l:List Nat} {i0 u t:Nat},l[u]? =adc t->(i0+u)∉Ca fz i0 l->t∉fz
 | [],i0,u,t,h,_=>by simp at h
 |s::r,i0,u,t,h,hn=>by
  simp[Ca]at hn;cases u with
  |zero=>
   simp at h;subst h;intro hf;rw[AC (uR.2 hf)]at hn
   grind
  |succ u=>
   refine P9 (i0:=i0+1) (by simpa using h) λID=>?_
   grind
theorem JM{aB:di}: ∀{n:Nat} {ts seen:List Nat} {m:List Nat},reach aB n ts seen=adc m->(∃l,m=seen++l)/\(seen.Nodup->m.Nodup)
 |_,[],seen,m,h=>by
  have h:adc seen=adc m:=by rw[<-h];unfold reach;cases ‹Nat› <;>rfl
  simp_all
 |0,_::_,seen,m,h=>by simp[reach]at h
 |n+1,t::ts,seen,m,h=>by
  simp[reach]at h;split at h
  ·exact JM h
  rename_i hn
  split at h
  ·obtain⟨⟨l,hl⟩,h2⟩:=JM h
   refine⟨⟨t::l,by rw[hl];simp⟩,λhd=>h2 ?_⟩;rw[acl];refine⟨hd,by simp,λa ha b hb=>?_⟩;have:b=t:=by simpa using hb
   subst this;intro e;subst e;exact hn (uR.2 ha)
  cases h
theorem P': ∀{n i:Nat},i<n->(zG n)[i]? =adc i
 |n+1,i,h=>by
  have hl: ∀n,(zG n).length=n:=by
   intro n;induction n with
   |zero=>rfl
   |succ n ih=>simp[zG,ih]
  simp[zG];rcases aaQ i n with h'|h'
  ·rw[NE (by rw[hl];exact h')];exact P' h'
  grind
theorem Qa: ∀{n i:Nat},i∈zG n->i<n
 |n+1,i,h=>by
  simp[zG,abK,ac6]at h;rcases h with h|h
  ·have:=Qa h;omega
  omega
theorem JN: ∀n,(zG n).Nodup
 |0=>by simp[zG]
 |n+1=>by
  simp[zG];rw[acl];refine⟨JN n,by simp,λa ha b hb=>?_⟩;have:=Qa ha
  grind
end
end Go.Vm
/- The head of a loop. -/
namespace Go.Vm
def V9(s2:di):Prop:= ∀(j:Nat) (k:ox),s2[j]? =adc k-> ∃e,k= .arr e []
theorem VR.Mj{im:Im}{loc:Loc}{x:PV}{u:Value}(h:VR im loc x u): ∀k:Option Nat,VR im loc (Mj k x) u
 |none=>h
 |some _=>by
  cases h with
  |own t aO off len cap ex li a eC hl he hn hc hx hk h=>exact .own t aO off len cap adw li a eC hl he hn hc hx (λh=>by cases h) h
  |undef=>exact .undef _
  |nD=>exact .nD
  |int k n=>exact .int k n
  |bool b=>exact .bool b
  |str s=>exact .str s
  |agg cs vs h=>exact .agg cs vs h
  |cV cs vs h=>exact .cV cs vs h
  |sl e c r a cap h1 h2 h3=>exact .sl e c r a cap h1 h2 h3
  |ptr t e r o li h1 h2 h3=>exact .ptr t e r o li h1 h2 h3
  |bZ cs off b o vs h hv=>exact .bZ cs off b o vs h hv
  |mp t li hl=>exact .mp t li hl
  |fE fn a b as bs ha hb=>exact .fE fn a b as bs ha hb
  |fv=>exact .fv
theorem Ez{im:Im}{loc eL:Loc}{m:List Nat}{e:Env}{tmps:Array Value}(hm:Ren m loc eL)(he:ER im loc e tmps): ∀{live:List _} {nx:Nat} {e1:Env} {s2:di},yn e m nx live=adc (e1,s2)->
 V9 s2/\((∀(j:Nat) (aO:Nat),s2[j]? =adc (.arr aO [])->eL (nx+j)=adc ⟨0,0,aO,0,0⟩)->ER im eL e1 tmps)
 | [],nx,e1,s2,h=>by obtain⟨rfl,rfl⟩:=h;exact⟨λj k h=>by simp at h,λ_ t=> .undef _⟩
 |(s,k)::r,nx,e1,s2,h=>by
  have hs:=he s;simp[yn]at h;split at h
  ·rename_i aO e' Ay
   rw[WF]at h;obtain⟨⟨e2,s3⟩,h1,h2⟩:=h;obtain⟨rfl,rfl⟩:=h2;obtain⟨g1,g2⟩:=Ez hm he h1;refine⟨λj k hj=>?_,λhl t=>?_⟩
   ·cases j with
    |zero=>grind
    |succ j=>exact g1 j k (by simpa using hj)
   rw[wK]
   split
   ·rename_i e;subst e
    rw[Ay]at hs;generalize hg:tmps.getD s Go.undef=v at hs;cases hs with
    |sl _ _ _ a cap h1 h2 h3=>
    have:cap=0:=by grind
    subst this;exact .own nx aO 0 0 0 adw ⟨0,0,aO,0,0⟩ a 0 (by simpa using hl 0 aO rfl) rfl (UV _) (UV _) (UV _) (λh=>by cases h) (.inl rfl)
   refine g2 (λj ano hj=>?_) t
   have:=hl (j+1) ano (by simpa using hj)
   grind
  split at h
  ·rename_i v' p h1 h2
   injection h with h;simp[]at h;obtain⟨rfl,rfl⟩:=h;obtain⟨g1,g2⟩:=Ez hm he h2;refine⟨g1,λhl t=>?_⟩;rw[wK];split
   ·rename_i e;subst e
    exact(X2 hm hs h1).Mj _
   exact g2 hl t
  cases h
theorem gz.setAt{im:Im}{loc:Loc}{x:PV}: ∀{xs:List PV} {vs:List Value} {c:Nat} {y:PV},gz im loc xs vs->xs[c]? =adc y->(∀v,VR im loc y v->VR im loc x v)->gz im loc (xs.set c x) vs
 | [],_,c,y,h,hc,_=>by simp at hc
 |z::zs,vs,c,y,h,hc,hx=>by
  cases h with
  |cons _ v _ us g1 g2=>
   cases c with
   |zero=>simp at hc;subst hc;exact .cons _ _ _ _ (hx v g1) g2
   |succ c=>exact .cons _ _ _ _ g1 (gz.setAt g2 (by simpa using hc) hx)
theorem Sr{nV im:Im}{eD loc:Loc}{mC:di}{w0 w:World}{nt:Nat}{st:St}{a:Act}(t c aO:Nat)(hk:D8 nV eD mC w0 st im loc w)(ha:BP im loc nt st a):
 ∃eL,D8 nV eD mC w0 (wI st t c aO) im eL w/\BP im eL nt (wI st t c aO) a:=by
 unfold wI;split
 ·rename_i cs hb
  split
  ·rename_i e hc
   have sr:=hk.kept.sr;have anp: ∀u li,loc u=adc li->u<(ad7 st.aB):=λu li h=>by obtain⟨k,h1,_⟩:=sr.eB u li h;exact dD h1
   let eL:=λu=>if u=(ad7 st.aB)then adc ⟨0,0,aO,0,0⟩else loc u
   have qf:p7 loc eL:=λu li h=>by have:=anp u li h;simp[eL,show u≠(ad7 st.aB) by omega,];exact h
   have back: ∀u li,eL u=adc li->u≠ad7 st.aB->loc u=adc li:=λu li h hu=>by simpa only[eL,hu,if_false]using h
   have V':=dD hb;have get: ∀u,u<ad7 st.aB->(st.aB.set t (.box (cs.set c (.own (ad7 st.aB) aO 0 0 0 adw)))++[.arr aO []])[u]? =if t=u then adc (.box (cs.set c (.own (ad7 st.aB) aO 0 0 0 adw)))else st.aB[u]?:=λu hu=>by
    rw[NE (by simpa using hu),acm];split
    ·rename_i e;subst e;simp
    rfl
   have aiQ:(st.aB.set t (.box (cs.set c (.own (ad7 st.aB) aO 0 0 0 adw)))++[.arr aO []])[ad7 st.aB]? =adc (.arr aO []):=by rw[aai (by simp)];simp
   have cu: ∀(u:Nat) (k:ox),(st.aB.set t (.box (cs.set c (.own (ad7 st.aB) aO 0 0 0 adw)))++[.arr aO []])[u]? =adc k->k.cu=adu->u≠ad7 st.aB/\ ∃k0:ox,st.aB[u]? =adc k0/\k0.cu=adu:=by
    intro u k hu hs;have iL:=dD hu;simp[]at iL;have fo:u≠(ad7 st.aB):=by intro e;subst e;rw[aiQ]at hu;injection hu with hu;subst hu;cases hs
    refine⟨fo,?_⟩;rw[get u (by omega)]at hu;split at hu
    ·rename_i e;subst e;exact⟨_,hb,rfl⟩
    exact⟨k,hu,hs⟩
   refine⟨eL,⟨⟨?_,hk.kept.jD,hk.kept.fq.trans qf,hk.kept.os,hk.kept.tape,hk.kept.output,hk.kept.size,hk.kept.frame,hk.kept.fA,λu li h=>?_,λu li k h hs pO=>?_⟩,hk.kn,?_,hk.dom⟩,⟨ha.env.mono (rW.refl _) qf,ha.defers,ha.R6⟩⟩
   ·refine {
     bW:=sr.bW
     eB:=λu li hl=>?_
     lh:=λu u' li lj k k' hl qH hs BZ pO Mr hbk=>?_
     free:=λu li k hl hs pO hz=>?_}
    ·by_cases hu:u=ad7 st.aB
     ·subst hu
      simp only[eL,]at hl;injection hl with hl;subst hl;exact⟨_,aiQ,rfl,rfl,λh=>absurd rfl h⟩
     have RY:=back u li hl hu
     obtain⟨k,h1,h2⟩:=sr.eB u li RY;rw[get u (dD h1)];split
     ·rename_i et;subst et
      rw[hb]at h1;injection h1 with h1;subst h1;obtain⟨g1,g2,g3,vs,el,g4,g5,g6⟩:=h2;refine⟨_,rfl,by simpa using g1,g2,g3,vs,el,g4,g5,(g6.mono (rW.refl _) qf).setAt hc λv hv=>?_⟩;cases hv with
      |sl _ _ _ a' cap h1 h2 h3=>
      have:cap=0:=by simpa using h2 rfl
      subst this;exact .own _ aO 0 0 0 adw ⟨0,0,aO,0,0⟩ a' 0 (by simp[eL,]) rfl (UV _) (UV _) (UV _) (λh=>by cases h) (.inl rfl)
     exact⟨k,h1,h2.mono (rW.refl _) qf rfl⟩
    ·obtain⟨n1,k0,g1,g2⟩:=cu u k hs pO
     obtain⟨n2,k0',g1',g2'⟩:=cu u' k' BZ Mr;exact sr.lh u u' li lj k0 k0' (back _ _ hl n1) (back _ _ qH n2) g1 g1' g2 g2' hbk
    obtain⟨n1,k0,g1,g2⟩:=cu u k hs pO
    exact sr.free u li k0 (back _ _ hl n1) g1 g2 hz
   ·by_cases hu:u=ad7 st.aB
    ·right;have:=hk.len;omega
    exact hk.kept.rI u li (back u li h hu)
   ·obtain⟨n1,k0,g1,g2⟩:=cu u k hs pO
    exact hk.kept.own u li k0 (back _ _ h n1) g1 g2
   have:=hk.len
   simp;omega
  exact⟨loc,hk,ha⟩
 grind
theorem vE{nV im:Im}{eD:Loc}{mC:di}{w0 w:World}{nt:Nat}{a:Act}: ∀(live:List _) {st:St} {loc:Loc},D8 nV eD mC w0 st im loc w->BP im loc nt st a->
 ∃eL,D8 nV eD mC w0 (oM live st) im eL w/\BP im eL nt (oM live st) a
 | [],st,loc,hk,ha=>⟨loc,hk,ha⟩
 |(s,k)::r,st,loc,hk,ha=>by
  simp[oM];split
  ·split
   ·split
    ·rename_i t _
     obtain⟨eL,h1,h2⟩:=Sr t _ _ hk ha;exact vE r h1 h2
    exact vE r hk ha
   exact vE r hk ha
  exact vE r hk ha
theorem YD{nV im:Im}{eD loc:Loc}{mC:di}{w0 w:World}{nt:Nat}{live:List _}{st rU:St}{a:Act}(h:Mk live st=adc rU)(hk:D8 nV eD mC w0 st im loc w)(ha:BP im loc nt st a):
 ∃eL,D8 nV eD mC w0 rU im eL w/\BP im eL nt rU a:=by
 unfold Mk at h;split at h
 ·cases h
 rename_i m afx
 split at h
 ·rename_i s1 e1 s2 hs1 hlv
  injection h with h;subst h;refine(λhh: ∃eL,D8 nV eD mC w0 {env:=e1,aB:=s1++s2,fz:=Ca st.fz 0 m,kn:=st.kn} im eL w/\BP im eL nt {env:=e1,aB:=s1++s2,fz:=Ca st.fz 0 m,kn:=st.kn} a=>
   let ⟨_,g1,g2⟩:=hh;vE live g1 g2) ?_
  obtain⟨⟨ml,R5⟩,LN⟩:=JM afx;have LN:=LN (JN _);obtain⟨LK,LO⟩:=GH hs1;have aiR: ∀n,(zG n).length=n:=by
   intro n;induction n with
   |zero=>rfl
   |succ n ih=>simp[zG,ih]
  have Ps: ∀t,t<st.kn->m[t]? =adc t:=by intro t ht;rw[R5,NE (by rw[aiR];exact ht)];exact P' ht
  have atg:st.kn<=(ad7 m):=by rw[R5];simp[aiR]
  let eL:=λu=>if u<(ad7 m)then(match m[u]? with|some t=>loc t|none=>ado)else match s2[u-(ad7 m)]? with
   |some (.arr e [])=>adc ⟨0,0,e,0,0⟩
   |_=>ado
  have LQ:Ren m loc eL:=by intro u t hu;have:=dD hu;simp only[eL,this,if_true,hu]
  obtain⟨anq,her⟩:=Ez LQ ha.env hlv;have old: ∀u li,eL u=adc li->u<ad7 m-> ∃t,m[u]? =adc t/\loc t=adc li:=by intro u li hl hu;have e:=EQ hu;rw[LQ u _ e]at hl;exact⟨_,e,hl⟩
  have aiS: ∀u,u<ad7 m->(s1++s2)[u]? =s1[u]?:=λu hu=>NE (by rw[LK];exact hu)
  have aiT: ∀u,¬u<ad7 m->(s1++s2)[u]? =s2[u-(ad7 m)]?:=λu hu=>by rw[aai (by rw[LK];omega),LK]
  have Dp: ∀(u:Nat) (k:ox),(s1++s2)[u]? =adc k->k.cu=adu->u<(ad7 m):=by
   intro u k hs pO;rcases aaQ u (ad7 m)with h|h
   ·exact h
   rw[aiT u (by omega)]at hs
   obtain⟨e,rfl⟩:=anq _ _ hs;cases pO
  have back: ∀(u:Nat) (k:ox),(s1++s2)[u]? =adc k-> ∀t,m[u]? =adc t-> ∃k0:ox,st.aB[t]? =adc k0/\k.cu=k0.cu:=by intro u k hs t ht;obtain⟨k0,k',g1,g2,g3⟩:=LO u t ht;rw[aiS u (dD ht),g3]at hs;injection hs with hs;subst hs;exact⟨k0,g1,Fk g2⟩
  have sr:=hk.kept.sr;have afy:SR im eL (s1++s2) (Ca st.fz 0 m) w:=by
   refine {
    bW:=sr.bW
    eB:=λu li hl=>?_
    lh:=λu u' li lj k k' hl qH hs BZ pO Mr hb=>?_
    free:=λu li k hl hs pO hz=>?_}
   ·by_cases hu:u<ad7 m
    ·obtain⟨t,ht,iL⟩:=old u li hl hu
     obtain⟨k0,h1,h2⟩:=sr.eB t li iL;obtain⟨k1,k',g1,g2,g3⟩:=LO u t ht;rw[h1]at g1;injection g1 with g1;subst g1;exact⟨k',by rw[aiS u hu];exact g3,Ml LQ g2 h2⟩
    simp[eL,hu,]at hl
    split at hl
    ·rename_i e he
     injection hl with hl;subst hl;exact⟨.arr e [],by rw[aiT u hu];exact he,rfl,rfl,λh=>absurd rfl h⟩
    cases hl
   ·have hu:=Dp u k hs pO
    have HV:=Dp u' k' BZ Mr;obtain⟨t,ht,iL⟩:=old u li hl hu;obtain⟨t',YE,YC⟩:=old u' lj qH HV;obtain⟨k0,g1,g2⟩:=back u k hs t ht;obtain⟨k0',g1',g2'⟩:=back u' k' BZ t' YE;have:=sr.lh t t' li lj k0 k0' iL YC g1 g1' (by rw[<-g2];exact pO) (by rw[<-g2'];exact Mr) hb;subst this;have pw:=abM.1 LN;have e1:=(aaP.1 ht).2;have e2:=(aaP.1 YE).2;rcases ab0 u u' with h|h|h
    ·exact absurd (e1.trans e2.symm) (pw u u' hu HV h)
    ·exact h
    exact absurd (e2.trans e1.symm) (pw u' u HV hu h)
   have hu:=Dp u k hs pO
   obtain⟨t,ht,iL⟩:=old u li hl hu;obtain⟨k0,g1,g2⟩:=back u k hs t ht;refine sr.free t li k0 iL g1 (by rw[<-g2];exact pO) (mS.2 ?_);exact P9 (i0:=0) ht (by have:=mS.1 hz;simpa using this)
  refine⟨eL,⟨⟨afy,hk.kept.jD,λt li hl=>?_,hk.kept.os,hk.kept.tape,hk.kept.output,hk.kept.size,hk.kept.frame,hk.kept.fA,λt li hl=>?_,λu li k hl hs pO=>?_⟩,hk.kn,?_,hk.dom⟩,
   ⟨her λj aO hj=>?_,ha.defers,ha.R6⟩⟩
  ·have h1:=hk.kept.fq t li hl
   have ht:t<st.kn:=by rw[hk.kn];exact hk.dom t li hl
   rw[LQ t t (Ps t ht)];exact h1
  ·rcases aaQ t st.kn with ht|ht
   ·rw[LQ t t (Ps t ht)]at hl
    exact hk.kept.rI t li hl
   right;rw[hk.kn]at ht;exact ht
  ·have hu:=Dp u k hs pO
   obtain⟨t,ht,iL⟩:=old u li hl hu;obtain⟨k0,g1,g2⟩:=back u k hs t ht;exact hk.kept.own t li k0 iL g1 (by rw[<-g2];exact pO)
  ·rw[<-hk.kn]
   simp;omega
  simp[eL,hj]
 grind
theorem ab3{nV im:Im}{eD loc:Loc}{mC:di}{w0 w:World}{nt:Nat}{live:List _}{st rU:St}{a:Act}(h:norm live st=adc rU)(hk:D8 nV eD mC w0 st im loc w)(ha:BP im loc nt st a):
 ∃eL,D8 nV eD mC w0 rU im eL w/\BP im eL nt rU a:=by
 unfold norm at h
 grind[YD]
end Go.Vm
/- The code of a function; what it returns. -/
namespace Go.Vm
def jv(P:Program)(prims:FuncId->Bool)(nt:Nat):mu->Code->Bool
 | .skip,.skip=>adu
 | .region d ops _,.region _ mD flag=>GX P prims nt d ops mD flag
 | .seq a b,.seq c d=>jv P prims nt a c&&jv P prims nt b d
 | .cond c a b,.cond c' a' b'=>bM c c'&&jv P prims nt a a'&&jv P prims nt b b'
 | .block id b,.block id' b'=>id==id'&&jv P prims nt b b'
 | .loop _ b,.loop b'=>jv P prims nt b b'
 | .exit id,.exit id'=>id==id'
 | .ret,.ret=>adu
 |_,_=>adw
def j7.out:j7->Exit
 | .normal=> .normal
 | .exit id=> .exit id
 | .ret=> .ret
section
variable {P : Program} {F : qo} {rec : Task -> Option Out} {nV : Im} {eD : Loc} {mC : di} {w0 : World} {nt : Nat} {prims : FuncId -> Bool}
structure At(nV:Im)(eD:Loc)(mC:di)(w0:World)(nt:Nat)(st:St)(a:Act)(w:World):Prop where
 ex: ∃im loc,D8 nV eD mC w0 st im loc w/\BP im loc nt st a
def GY(P : Program)(prims : FuncId -> Bool)(rec : Task -> Option Out) : Prop :=
  ∀ (live : List (Nat × Option Nat)) (x : mu) (st : St) (e : j7) (oh : St), rec (.loop live x st) = adc (.code e oh) ->
    ∀ (c : Code) (nt : Nat) (nV : Im) (eD : Loc) (mC : di) (w0 : World) (a : Act) (w : World), jv P prims nt x c = adu -> At nV eD mC w0 nt st a w ->
      ∀ (b : Frame) (k : List Item) (cs : List Frame), ∃ a' w', At nV eD mC w0 nt oh a' w' /\ Arrives P (lone (b.at a (.code c :: .inLoop c :: k)) cs w) b k cs e.out a' w'
theorem nW(hE:N4 P F rec)(hL:GY P prims rec)(vD:P.follows .mixedOrders=adu): ∀(x:mu) (c:Code) (st:St) (e:j7) (oh:St),jv P prims nt x c=adu->zC F rec x st=adc (e,oh)->
 ∀(a:Act) (w:World),At nV eD mC w0 nt st a w-> ∀(Q:Exit->Act->World->Prop),(∀a' w',At nV eD mC w0 nt oh a' w'->Q e.out a' w')->c.wp P Q a w
 | .skip,c,st,e,oh,hc,me,a,w,ha,Q,hQ=>by
  cases c<;>simp[jv,]at hc
  obtain⟨rfl,rfl⟩:=me;exact wp_skip (hQ _ _ ha)
 | .region d ops ig,c,st,e,oh,hc,me,a,w,ha,Q,hQ=>by
  cases c<;>simp[jv,]at hc
  simp only[zC,WF]at me;obtain⟨rU,me,h⟩:=me;obtain⟨rfl,rfl⟩:=h;obtain⟨im,loc,hk,JO⟩:=ha.ex;refine Sq hE vD hc me hk.kept.sr JO λfP bE a' w' LS LU=>hQ a' w' ⟨fP,bE,?_,LU⟩
  obtain⟨h1,h2⟩:=N6 me;exact⟨hk.kept.trans LS hk.len,by rw[h1];exact hk.kn,abr hk.len h2,hk.dom⟩
 | .seq x y,c,st,e,oh,hc,me,a,w,ha,Q,hQ=>by
  cases c<;>simp[jv,]at hc
  obtain⟨h1,h2⟩:=hc;simp[zC]at me;refine wp_seq ?_;cases hx:zC F rec x st with
  |none=>grind
  |some q=>
   obtain⟨e1,rU⟩:=q;rw[hx]at me;refine nW hE hL vD x _ st e1 rU h1 hx a w ha _ λa' w' LU=>?_
   cases e1 with
   |normal=>exact nW hE hL vD y _ rU e oh h2 me a' w' LU Q hQ
   |exit id=>obtain⟨rfl,rfl⟩:=me;exact hQ a' w' LU
   |ret=>obtain⟨rfl,rfl⟩:=me;exact hQ a' w' LU
 | .cond cc x y,c,st,e,oh,hc,me,a,w,ha,Q,hQ=>by
  cases c<;>simp[jv,]at hc
  obtain⟨⟨h0,h1⟩,h2⟩:=hc;obtain⟨im,loc,hk,JO⟩:=ha.ex;have hv:=Sp cc (λt _=>JO.env t) _ h0;simp[zC]at me;split at me
  ·rename_i hb
   rw[hb]at hv;exact wp_cond_true hv.mP (nW hE hL vD x _ st e oh h1 me a w ha Q hQ)
  ·rename_i hb
   rw[hb]at hv;exact wp_cond_false hv.mP (nW hE hL vD y _ st e oh h2 me a w ha Q hQ)
  cases me
 | .block id x,c,st,e,oh,hc,me,a,w,ha,Q,hQ=>by
  cases c<;>simp[jv,]at hc
  obtain⟨rfl,h1⟩:=hc;refine wp_block ?_;simp[zC]at me;cases hx:zC F rec x st with
  |none=>grind
  |some q=>
   obtain⟨e1,rU⟩:=q;rw[hx]at me;refine nW hE hL vD x _ st e1 rU h1 hx a w ha _ λa' w' LU=>?_
   cases e1 with
   |normal=>simp[]at me;obtain⟨rfl,rfl⟩:=me;exact hQ a' w' LU
   |ret=>simp[]at me;obtain⟨rfl,rfl⟩:=me;exact hQ a' w' LU
   |exit j=>
    dsimp only at me;simp[j7.out,Exit.inBlock];split at me
    ·rename_i hj
     have:j=id:=by simpa using hj
     simp[]at me;obtain⟨rfl,rfl⟩:=me;rw[AC this];exact hQ a' w' LU
    rename_i hj
    have:j≠id:=by simpa using hj
    simp[]at me;obtain⟨rfl,rfl⟩:=me;rw[Do this];exact hQ a' w' LU
 | .loop live x,c,st,e,oh,hc,me,a,w,ha,Q,hQ=>by
  cases c<;>simp[jv,]at hc
  simp[zC]at me;split at me
  ·rename_i e1 rU hr
   simp[]at me;obtain⟨rfl,rfl⟩:=me;intro b k cs;obtain⟨a',w',h1,h2⟩:=hL live x st _ _ hr _ nt nV eD mC w0 a w hc ha b k cs;exact⟨_,a',w',hQ a' w' h1,.of_steps (.one step_loop) h2⟩
  cases me
 | .exit id,c,st,e,oh,hc,me,a,w,ha,Q,hQ=>by
  cases c<;>simp[jv,]at hc
  subst hc;simp[zC,]at me;obtain⟨rfl,rfl⟩:=me;exact wp_exit (hQ _ _ ha)
 | .ret,c,st,e,oh,hc,me,a,w,ha,Q,hQ=>by
  cases c<;>simp[jv,]at hc
  simp[zC,]at me;obtain⟨rfl,rfl⟩:=me;exact wp_ret (hQ _ _ ha)
theorem Wa(hE:N4 P F rec)(hL:GY P prims rec)(vD:P.follows .mixedOrders=adu):GY P prims (step F rec):=by
 intro live x st e oh h c nt nV eD mC w0 a w hc ha b k cs;simp[step]at h;cases hn:norm live st with
 |none=>grind
 |some rU=>
  rw[hn]at h;dsimp only at h;obtain⟨im,loc,hk,JO⟩:=ha.ex;obtain⟨eL,jI,D0⟩:=ab3 hn hk JO;have dO:At nV eD mC w0 nt rU a w:=⟨im,eL,jI,D0⟩;cases hx:zC F rec x rU with
  |none=>grind
  |some q=>
   obtain⟨e1,BW⟩:=q;rw[hx]at h;have hw:=nW hE hL vD x c rU e1 BW hc hx a w dO (λe' a' w'=>e'=e1.out/\At nV eD mC w0 nt BW a' w') λa' w' h=>⟨rfl,h⟩
   obtain⟨e',a1,w1,⟨rfl,hq⟩,N7⟩:=hw b _ cs;cases e1 with
   |normal=>obtain⟨a',w',h1,h2⟩:=hL live x BW e oh h c nt nV eD mC w0 a1 w1 hc hq b k cs;exact⟨a',w',h1,.of_steps (Steps.trans N7 (.one step_inLoop)) h2⟩
   |exit id=>obtain⟨rfl,rfl⟩:=h;exact⟨a1,w1,hq,.pass rfl (λ_ _=> .inl (by simp[j7.out])) N7⟩
   |ret=>obtain⟨rfl,rfl⟩:=h;exact⟨a1,w1,hq,.pass rfl (λ_ _=> .inl (by simp[j7.out])) N7⟩
def tZ(P:Program):List RV->List ResultVar->Bool
 | [],[]=>adu
 | .tmp t::r,.tmp t'::s=>t==t'&&tZ P r s
 | .cell t agg::r,.cell t' ty::s=>t==t'&&Fj P ty agg&&tZ P r s
 |_,_=>adw
def Wb(tmps:Array Value):ResultVar->Sem Value
 | .tmp t=>pure (tmps.getD t undef)
 | .cell a t=>do loadVar t (<-asAddr (tmps.getD a undef))
theorem Wc{im:Im}{loc:Loc}{aB:di}{agg:Option Nat}{p:PV}{u:Value}{r:rQ}(hp:VR im loc p u)(h:p6 aB agg p=adc r): ∃ad,u= .pointer (adc ad):=by cases hp<;>first|(simp[p6]at h;done)|simp
theorem SR.known{im:Im}{loc:Loc}{aB:di}{fz:List Nat}{w:World}(h:SR im loc aB fz w){r:rQ}(hn:r.news=[])(hw:r.wr=[]):lI im loc aB w r where
 bW:=h.bW
 tok:=λt _ li hl=>h.eB t li hl
 free:=λt k hm=>by grind
 fresh:=λj hj=>by grind
 lh:=λt u li lj k k' _ _=>h.lh t u li lj k k'
theorem Ss{aB:di}{agg:Option Nat}{p:PV}{r:rQ}(h:p6 aB agg p=adc r):r.news=[]/\r.wr=[]:=by
 unfold p6 at h
 grind[WF]
theorem YF{im : Im}{loc : Loc}{st : St}{a : Act}{w : World}(oD : SR im loc st.aB st.fz w)(ha : ER im loc st.env a.tmps) : ∀ {rs : List RV} {vs : List PV} {os : List ResultVar}, tZ P rs os = adu -> rT st rs = adc vs ->
    ∃ us, (os.mapM (Wb a.tmps)).run P w = .ok us w /\ gz im loc vs us
  | [], vs, os, hc, h => by
    cases os <;> simp[tZ, ]at hc
    simp[rT, ]at h; subst h
    exact⟨[], by simp, .nil⟩
  | r :: rs, vs, [], hc, h => by cases r <;> simp[tZ]at hc
  | r :: rs, vs, o :: os, hc, h => by
    simp[rT]at h
    split at h
    ·rename_i v RZ h1 h2
     injection h with h; subst h
     have Es : ∃ u, (Wb a.tmps o).run P w = .ok u w /\ VR im loc v u /\ tZ P rs os = adu := by
       cases r with
       | tmp t =>
         cases o with
         | tmp t' =>
           simp[tZ, ]at hc
           obtain⟨rfl, hc⟩ := hc
           simp[Jl, ]at h1; subst h1
           exact⟨_, rfl, ha t, hc⟩
         | cell _ _ => simp[tZ]at hc
       | cell t agg =>
         cases o with
         | tmp t' => simp[tZ]at hc
         | cell t' ty =>
           simp[tZ, ]at hc
           obtain⟨⟨rfl, hag⟩, hc⟩ := hc
           simp[Jl, ]at h1
           obtain⟨rr, h3, rfl⟩ := h1
           obtain⟨g1, g2⟩ := Ss h3
           obtain⟨u, dy, tL, _⟩ := PF (ha t) hag h3 (oD.known g1 g2)
           obtain⟨ad, had⟩ := Wc (ha t) h3
           refine⟨u, ?_, tL, hc⟩
           simp[Wb, had, asAddr]
           rw[had]at dy
           simpa[Instr.loadAt, Instr.sureAddr]using dy
     obtain⟨u, hu, tL, hc⟩ := Es
     obtain⟨us, Dj, ans⟩ := YF oD ha hc h2
     refine⟨u :: us, ?_, .cons _ _ _ _ tL ans⟩
     simp_all
    cases h
theorem JP{im:Im}{loc:Loc}{st:St}{a:Act}{w:World}{fn:Func}(oD:SR im loc st.aB st.fz w)(ha:ER im loc st.env a.tmps){rs:List RV}{vs:List PV}(hc:tZ P rs fn.results.toList=adu)(h:rT st rs=adc vs):
 ∃u,(results fn a.tmps).run P w= .ok u w/\VR im loc (results1 vs) u:=by
 obtain⟨us,h1,h2⟩:=YF oD ha hc h;have e:fn.results.mapM _=List.toArray<$>fn.results.toList.mapM (Wb a.tmps):=Array.mapM_eq_mapM_toList;have h3:(fn.results.mapM (Wb a.tmps)).run P w= .ok us.toArray w:=by simp_all
 have FA:results fn a.tmps=(do let vs <-fn.results.mapM (Wb a.tmps);pure (if h:vs.size=1 then vs[0]else .tuple vs)):=by rfl
 rw[FA];simp only[ad5,h3,];refine⟨_,rfl,?_⟩;cases h2 with
 |nil=>exact .cV _ _ .nil
 |cons x u xs us g2 g3=>
  cases g3 with
  |nil=>exact g2
  |cons y v ys vs g4 g5=>exact .cV _ _ (.cons _ _ _ _ g2 (.cons _ _ _ _ g4 g5))
end
end Go.Vm
/- What the logical machine answers, the model answers. -/
namespace Go.Vm
def FB(P:Program)(prims:FuncId->Bool)(x:ax)(f:FuncId):Bool:=
 match P.funcs[f]? with
 |some fn=>!(fn.name== "runtime.NumGoroutine")&&abu x.Jh fn.ntmps&&tZ P x.res fn.results.toList&&(match fn.body with|some c=>jv P prims fn.ntmps x.code c|none=>adw)
 |none=>adw
section
variable {P : Program} {F : qo} {rec : Task -> Option Out} {prims : FuncId -> Bool}
def Qb(P:Program)(prims:FuncId->Bool)(F:qo):Prop:= ∀f x,F f=adc (.code x)->FB P prims x f=adu
theorem Qc: ∀(args:List PV) (i t:Nat),lk t (zJ i args)=if i<=t then(args[t-i]?).getD .undef else .undef
 | [],i,t=>by simp[zJ,lk]
 |v::r,i,t=>by
  simp[zJ,wK];rw[Qc r (i+1) t]
  grind
theorem Mv{im:Im}{loc:Loc}{args:List PV}{us:List Value}(h:gz im loc args us)(n:Nat):ER im loc (zJ 0 args) ((⟨us⟩:Array Value)++abC n Go.undef):=by
 intro t;rw[Qc];cases ha:args[t]? with
 |none=>exact .undef _
 |some x=>
  obtain⟨v,hv,hr⟩:=h.get t x ha;have:((⟨us⟩:Array Value)++abC n Go.undef).getD t Go.undef=v:=by have iL:=dD hv;simp[abt];rw[Array.getElem?_append_left (by simpa using iL)];simp[hv]
  grind
theorem kD{f:FuncId}{fn:Func}{c:Code}{us:Array Value}{w:World}(hf:P.funcs[f]? =adc fn)(hn:(fn.name== "runtime.NumGoroutine")=adw)(hb:fn.body=adc c):(callFunc f us).run P w= .ok (.enter f us) w:=by unfold callFunc;simp_all
theorem Wd(hE:N4 P F rec)(hL:GY P prims rec)(hT:Qb P prims F)(vD:P.follows .mixedOrders=adu):GS P (step F rec):=by
 intro f args aB fz v zR NV h im loc w us oD Dj;simp[step]at h;split at h
 ·rename_i x hF
  have hc:=hT f x hF;unfold FB at hc;cases hf:P.funcs[f]? with
  |none=>grind
  |some fn=>
   rw[hf]at hc;simp only[IR,abz]at hc;obtain⟨⟨⟨wC,hna⟩,FA⟩,qZ⟩:=hc;cases hb:fn.body with
   |none=>grind
   |some c=>
    rw[hb]at qZ;refine .inr ⟨kD hf wC hb,calls_of_wp hf hb ?_⟩;split at h
    ·rename_i eX
     have hna:x.Jh<=fn.ntmps:=by simpa using hna
     have avf:=Dj.pN
     let st0:St:={env:=zJ 0 args,aB,fz,kn:=ad7 aB}
     let a0:Act:={tmps:=(⟨us⟩:Array Value)++abC (fn.ntmps- (⟨us⟩:Array Value).size) Go.undef,defers:=[]}
     have dO:At im loc aB w fn.ntmps st0 a0 w:=by
      refine⟨im,loc,⟨⟨oD,.refl _,.refl _,rfl,.refl _,rfl,UV _,λ_ _ _=>rfl,λ_ _ h=> .inl h,λ_ _ h=> .inl h,λt li k hl hs pO=> .inr ⟨t,li,k,hl,hs,pO,rfl⟩⟩,rfl,UV _,λt li hl=>?_⟩,⟨Mv Dj _,rfl,?_⟩⟩
      ·obtain⟨k,hk,_⟩:=oD.eB t li hl
       exact dD hk
      grind
     have fin: ∀(st:St),(rT st x.res).map (λvs=>Out.func (results1 vs) st.aB st.fz)=adc (.func v zR NV)-> ∀a' w',At im loc aB w fn.ntmps st a' w'->
      a'.defers=[]/\ ∃u,(results fn a'.tmps).run P w'= .ok u w'/\ ∃v',Ending.returned u= .returned v'/\ ∃fP bE,zQ im loc aB w v zR NV fP bE w' v':=by
      intro st dd a' w' dO
      obtain⟨fP,bE,hk,JO⟩:=dO.ex;rw[WF]at dd;obtain⟨vs,NP,he⟩:=dd;obtain⟨rfl,rfl,rfl⟩:=he;obtain⟨u,hu,tL⟩:=JP hk.kept.sr JO.env FA NP;have K:=hk.kept;exact⟨JO.defers,u,hu,u,rfl,fP,bE,⟨K.jD,K.fq,tL,K.sr,K.os,K.tape,K.output,K.size,K.frame,K.fA,K.rI,K.own⟩⟩
     split at h
     ·rename_i st me
      exact nW hE hL vD x.code c st0 .normal st qZ me a0 w dO _ λa' w' afz=>fin st h a' w' afz
     ·rename_i st me
      exact nW hE hL vD x.code c st0 .ret st qZ me a0 w dO _ λa' w' afz=>fin st h a' w' afz
     cases h
    cases h
 ·rename_i p hF
  obtain⟨fn,c,hf,wC,hb,key⟩:=hE.nT.2 f p hF
  grind[WF,Out.func.injEq]
 cases h
theorem aes(hT:Qb P prims F)(Fq:Dl P F)(vD:P.follows .mixedOrders=adu): ∀n,GS P (run F n)/\GY P prims (run F n)
 |0=>⟨λf args aB fz v zR NV h=>by simp[run]at h,λlive x st e oh h=>by simp[run]at h⟩
 |n+1=>by obtain⟨h1,h2⟩:=aes hT Fq vD n;have hE:N4 P F (run F n):=⟨h1,Fq⟩;exact⟨Wd hE h2 hT vD,Wa hE h2 vD⟩
theorem We(hT:Qb P prims F)(Fq:Dl P F)(vD:P.follows .mixedOrders=adu){n:Nat}{f:FuncId}{args:List PV}{v:PV}{zR:di}{NV:List Nat}(h:run F n (.func f args [] [])=adc (.func v zR NV))
 {im:Im} {w:World} {us:List Value} (him: ∀b o,im b=adc o->w.heap[b]? =adc o) (Dj:gz im je args us):
 Calls P f ⟨us⟩ w λe w'=> ∃u,e= .returned u/\(∃fP bE,VR fP bE v u/\SR fP bE zR NV w')/\w'.os=w.os/\Tape w w'/\w'.output=w.output/\w.heap.size<=w'.heap.size/\ ∀b,b<w.heap.size->w'.heap[b]? =w.heap[b]?:=by
 have key:=(aes hT Fq vD n).1 f args [] [] v zR NV h im je w us (SR.empty him) Dj;rcases key with⟨u,w',h1,h2⟩|⟨h1,h2⟩
 ·cases n with
  |zero=>simp[run]at h
  |succ n=>
   have h:step F (run F n) (.func f args [] [])=adc (.func v zR NV):=h;simp[step]at h;split at h
   ·rename_i x hF
    have hc:=hT f x hF;unfold FB at hc;cases hf:P.funcs[f]? with
    |none=>grind
    |some fn=>
     rw[hf]at hc;simp[]at hc
     grind[kD]
   ·rename_i p hF
    obtain⟨fn,c,hf,wC,hb,key⟩:=Fq.2 f p hF
    grind[kD]
   cases h
 refine h2.mono λe w' ⟨u,he,fP,bE,hp⟩=>⟨u,he,⟨fP,bE,hp.vr,hp.sr⟩,hp.os,hp.tape,hp.output,hp.size,λb hb=>hp.frame b hb λt li k hl=>by cases hl⟩
end
end Go.Vm
/- Functions that are known without their code: math/bits.Add64 and Sub64, slices.Clone. -/
namespace Go.Vm
section
variable {P : Program}
theorem Su{im:Im}{w:World}{v:PV}{u:Value}(oD:SR im je [] [] w)(hv:VR im je v u):zQ im je [] w v [] [] im je w u where
 jD:= .refl _
 fq:= .refl _
 vr:=hv
 sr:=oD
 os:=rfl
 tape:= .refl _
 output:=rfl
 size:=UV _
 frame:=λ_ _ _=>rfl
 fA:=λ_ _ h=> .inl h
 rI:=λ_ _ h=> .inl h
 own:=λt li k h=>by cases h
theorem Sv{im:Im}{loc:Loc}{k1 k2 k3:IntKind}{a b c:Int}{us:List Value}(h:gz im loc [.int k1 a,.int k2 b,.int k3 c] us):us=[.int k1 a,.int k2 b,.int k3 c]:=by
 cases h with
 |cons _ _ _ _ h1 h=>
  cases h with
  |cons _ _ _ _ h2 h=>
   cases h with
   |cons _ _ _ _ h3 h=>cases h;rw[h1.jt,h2.jt,h3.jt]
theorem Sw{f:FuncId}{fn:Func}(hf:P.funcs[f]? =adc fn)(wC:(fn.name== "runtime.NumGoroutine")=adw)(hb:fn.body.isNone=adu)(hn:Extern.findNext fn=ado)(he:Extern.find fn=adc add64Entry):NW P f Eo:=by
 intro args v news hp im w us oD Dj;unfold Eo at hp;split at hp
 ·rename_i a b c
  split at hp
  ·rename_i hc
   have hc:c<=1:=by simpa using hc
   obtain⟨rfl,rfl⟩:=hp;obtain rfl:=Sv Dj;refine .inl ⟨_,w,?_,im,je,Su oD (.cV _ [.int .u64 (((a:Int)+b+c)%18446744073709551616),.int .u64 (((a:Int)+b+c) / 18446744073709551616)] (.cons _ _ _ _ ?_ (.cons _ _ _ _ ?_ .nil)))⟩
   ·rw[run_callFunc_extern hf wC hb hn he]
    have:=run_add64 (P:=P) (a:Int) b c (by omega) (by omega) (by omega) (by omega) w;simp_all
   ·have:acI ((a+b+c)%18446744073709551616)=((a:Int)+b+c)%18446744073709551616:=by
     rfl
    rw[this];exact .int _ _
   exact .int _ _
  cases hp
 cases hp
def xcA(aO:Nat):mu:= .region ado [⟨adc 2,.XL (.c (.sl aO adu [])),ado⟩] [0]
def xcN(aO:Nat):mu:= .seq (.region ado [⟨adc 2,.XL (.c (.sl aO adu [])),ado⟩] [2]) .ret
def xcC(aO:Nat)(zero:Row):mu:= .seq (.region ado [⟨adc 5,.Fh aO 0 zero [],ado⟩,⟨adc 6,.XL (.t 0),ado⟩,⟨adc 7,.append aO (.t 5) (.t 6),ado⟩,⟨adc 2,.XL (.t 7),ado⟩] [2]) .ret
def YG(P:Program)(o:Oper):Bool:=
 o.guard.isNone&&o.dst==adc 4&&(match o.op with
  | .binOp .eql t x (.const (.slice ado 0 0)) _=>bM (.t 3) x&&xz P t
  |_=>adw)
def Qd(P:Program)(aO:Nat)(zero:Row)(f:FuncId):Bool:=
 match P.funcs[f]? with
 |some fn=>!(fn.name== "runtime.NumGoroutine")&&abF 7 fn.ntmps&&tZ P [.tmp 2] fn.results.toList&&(match fn.body with
  |some (.seq a (.seq (.seq (.region _ ops adw) (.cond c n .skip)) r))=>
   jv P (λ_=>adu) fn.ntmps (xcA aO) a&&jv P (λ_=>adu) fn.ntmps (xcN aO) n&&jv P (λ_=>adu) fn.ntmps (xcC aO zero) r&&bM (.t 4) c&&
    (match ops.toList with
    | [o1,o2]=>yx P (λ_=>adu) fn.ntmps ops ⟨adc 3,.XL (.t 0),ado⟩ o1&&YG P o2
    |_=>adw)
  |_=>adw)
 |none=>adw
theorem ab4:N4 P (λ_=>ado) (λ_=>ado):=⟨(λ_ _args _sto _fz _v _sto' _fz' h=>by cases h),⟨(λ_ _k _p h=>by cases h),(λ_ _p h=>by cases h)⟩⟩
theorem UM{prims:FuncId->Bool}:GY P prims (λ_=>ado):=λ_ _x _st _e _st' h=>by cases h
theorem qJ(vD:P.follows .mixedOrders=adu){aO:Nat}{zero:Row}{f:FuncId}(hc:Qd P aO zero f=adu):NW P f (ir aO):=by
 intro args v news hp im w us oD Dj;unfold Qd at hc;cases hf:P.funcs[f]? with
 |none=>grind
 |some fn=>
  rw[hf]at hc;simp only[IR,abz]at hc;obtain⟨⟨⟨wC,hnt⟩,FA⟩,qZ⟩:=hc;have hnt:7<fn.ntmps:=by simpa using hnt
  split at qZ
  ·rename_i ca id ops cc cn cr hb
   simp only[IR]at qZ;obtain⟨⟨⟨⟨hA,hN⟩,hC⟩,Ux⟩,V8⟩:=qZ;split at V8
   ·rename_i o1 o2 hl
    simp only[IR]at V8;obtain⟨ho1,ho2⟩:=V8;have anv: ∃e c rows,args=[.sl e c rows]:=by
     unfold ir at hp
     grind
    obtain⟨e,cl,rows,rfl⟩:=anv;obtain⟨u,rfl⟩: ∃u,us=[u]:=by
     cases Dj with
     |cons _ u _ us h1 h2=>cases h2;simp
    refine .inr ⟨kD hf wC hb,calls_of_wp hf hb ?_⟩
    let st0:St:={env:=[(0,.sl e cl rows)],aB:=[],fz:=[],kn:=0}
    let a0:Act:={tmps:=(⟨[u]⟩:Array Value)++abC (fn.ntmps- (⟨[u]⟩:Array Value).size) Go.undef,defers:=[]}
    have anw:At im je [] w fn.ntmps st0 a0 w:=by
     refine⟨im,je,⟨⟨oD,.refl _,.refl _,rfl,.refl _,rfl,UV _,λ_ _ _=>rfl,λ_ _ h=> .inl h,λ_ _ h=> .inl h,λt li k hl=>by cases hl⟩,rfl,UV _,λt li hl=>by cases hl⟩,⟨Mv Dj _,rfl,?_⟩⟩
     grind
    have fin: ∀(st:St) (v':PV),lk 2 st.env=v'-> ∀a' w',At im je [] w fn.ntmps st a' w'->
     a'.defers=[]/\ ∃u,(results fn a'.tmps).run P w'= .ok u w'/\ ∃v'':Value,Ending.returned u= .returned v''/\ ∃fP bE,zQ im je [] w v' st.aB st.fz fP bE w' v'':=by
     intro st v' hv' a' w' dO
     obtain⟨fP,bE,hk,JO⟩:=dO.ex;obtain⟨u,hu,tL⟩:=JP (P:=P) (fn:=fn) hk.kept.sr JO.env FA (vs:=[v']) (by simp[rT,Jl,hv']);have K:=hk.kept;exact⟨JO.defers,u,hu,u,rfl,fP,bE,⟨K.jD,K.fq,tL,K.sr,K.os,K.tape,K.output,K.size,K.frame,K.fA,K.rI,K.own⟩⟩
    refine wp_seq ?_;refine nW ab4 UM vD (xcA aO) _ st0 .normal {env:=[(0,.sl e cl rows)],aB:=[],fz:=[],kn:=0} hA rfl a0 w anw _ λa1 w1 anx=>?_
    refine wp_seq (wp_seq ?_);refine wp_region ?_;have aiU:ops= #[o1,o2]:=ad3 (by simpa using hl);subst aiU;obtain⟨LB,eL,jI,Qe⟩:=anx.ex;have N8:=Qe.env 0;have N8:VR LB eL (.sl e cl rows) (a1.tmps.getD 0 Go.undef):=N8;obtain⟨ad,cap,hu0,LH,hck,oP⟩:=N8.rX;unfold yx at ho1;simp only[IR,beq_iff_eq]at ho1;obtain⟨⟨⟨hd1,_⟩,XU⟩,YH⟩:=ho1;have anz:o1.guard=ado:=by
     cases hg:o1.guard with
     |none=>rfl
     |some q=>rw[hg]at XU;simp[zS]at XU
    have aiV: ∃x,(o1.op= .move x\/o1.op= .assign x)/\bM (.t 0) x=adu:=by cases ho:o1.op<;>rw[ho]at YH<;>simp only[BM]at YH<;>first|exact⟨_,.inl rfl,YH⟩|exact⟨_,.inr rfl,YH⟩|simp at YH
    obtain⟨x1,Mw,afA⟩:=aiV;have anA:a1.eval x1= .slice ad (ad7 rows) cap:=by
     have h:=Sp (a:=a1) (e:=[(0,PV.sl e cl rows)]) (.t 0) (λt ht=>by injection ht with ht;subst ht;exact Qe.env 0) x1 afA;cases x1 with
     |tmp t=>
      have:(0:Nat)=t:=by simpa[bM]using afA
      subst this;simpa[Act.eval]using hu0
     |_=>simp[bM]at afA
    have aiW:(execOp a1.eval o1).run P w1= .ok (.value (.slice ad (ad7 rows) cap)) w1:=by rcases Mw with h|h<;>simp[execOp,h,anA]
    unfold YG at ho2;simp only[IR,beq_iff_eq,Option.isNone_iff_eq_none]at ho2;obtain⟨⟨hg2,hd2⟩,ab5⟩:=ho2;split at ab5
    case h_2=>cases ab5
    rename_i ty x2 ub aiX;simp only[IR]at ab5;obtain⟨hx2,dd⟩:=ab5;have anB:x2= .tmp 3:=by
     cases x2 with
     |tmp t=>
      have:(3:Nat)=t:=by simpa[bM]using hx2
      subst this;rfl
     |_=>simp[bM]at hx2
    subst anB;unfold xz at dd;split at dd
    case h_2=>cases dd
    rename_i el qI;have anC:a1.tmps.size=fn.ntmps:=Qe.R6
    let a2:Act:=a1.put (adc 3) (.slice ad (ad7 rows) cap)
    have RX:a2.tmps.getD 3 Go.undef= .slice ad (ad7 rows) cap:=by simp only[a2,Act.put,abt];rw[abA (by omega)];rfl
    have aiY:(execOp a2.eval o2).run P w1= .ok (.value (.bool ad.isNone)) w1:=by
     simp only[execOp,aiX];refine lq ?_;have e3:a2.eval (.tmp 3)= .slice ad (ad7 rows) cap:=by simpa[Act.eval]using RX
     rw[e3];have hg:(eqGuard .eql ty (.tmp 3) (.const (.slice ado 0 0)) (.slice ad (ad7 rows) cap) (a2.eval (.const (.slice ado 0 0)))).run P w1= .ok () w1:=by unfold eqGuard;simp
     simp only[ad5,hg,Result.andThen_ok];exact Lib.run_eql_slice_nil w1 ty el ad (ad7 rows) cap 0 0 qI
    let a3:Act:=a2.put (adc 4) (.bool ad.isNone)
    have afB:At im je [] w fn.ntmps {env:=[(0,.sl e cl rows)],aB:=[],fz:=[],kn:=0} a3 w1:=by
     refine⟨LB,eL,jI,⟨λt=>?_,Qe.defers,by simp[a3,a2,Act.put,anC]⟩⟩;have h:=Qe.env t;simp only[wK]at h ⊢
     by_cases ht:t=0
     ·subst ht
      simp only[if_true]at h ⊢;simpa[a3,a2,Act.put,Array.getElem?_setIfInBounds]using h
     rw[Do (λe=>ht e.symm)];exact .undef _
    have PI:a3.eval cc= .bool ad.isNone:=by
     cases cc with
     |tmp t=>
      have:(4:Nat)=t:=by simpa[bM]using Ux
      subst this;simp only[Act.eval,a3,Act.put,abt];rw[abA (by simp[a2,Act.put];omega)];rfl
     |_=>simp[bM]at Ux
    have afC:List.range #[o1,o2].size=[0,1]:=rfl;rw[afC];simp only[wpOps];have e0:(#[o1,o2]:Array Oper)[0]? =adc o1:=rfl;have e1:(#[o1,o2]:Array Oper)[1]? =adc o2:=rfl;rw[e0];dsimp only;have hw1:Region.wanted o1 (yielded #[o1,o2] a1.tmps)=adu:=by unfold Region.wanted;rw[anz]
    rw[hw1,AC rfl];refine .inl ?_;unfold Oper.wp;rw[aiW,Oper.upon_value,<-hd1,e1];dsimp only;have hw2:Region.wanted o2 (yielded #[o1,o2] (a1.put (adc 3) (.slice ad (ad7 rows) cap)).tmps)=adu:=by unfold Region.wanted;rw[hg2]
    rw[hw2,AC rfl];refine .inl ?_;rw[show a1.put (adc 3) (.slice ad (ad7 rows) cap)=a2 from rfl,aiY,Oper.upon_value,hd2];show(Code.cond cc cn .skip).wp P _ a3 w1;cases had:ad with
    |none=>
     have NQ:rows=[]:=by
      rcases rows with _|⟨r,rs⟩
      ·rfl
      obtain⟨b,o,h,_⟩:=oP (by simp)
      rw[had]at h;cases h
     subst NQ;simp only[ir,PP,abq]at hp;obtain⟨rfl,rfl⟩:=hp;refine wp_cond_true (by rw[PI,had];rfl) ?_;refine nW ab4 UM vD (xcN aO) _ _ .ret {env:=[(2,.sl aO adu [])],aB:=[],fz:=[],kn:=0} hN rfl a3 w1 afB _ λa4 w4 YI=>?_
     obtain⟨hdf,u',HV,v'',anD,fP,bE,hf'⟩:=fin _ _ rfl a4 w4 YI;refine⟨hdf,u',HV,v'',anD,fP,bE.set 1 ⟨0,0,aO,0,0⟩,?_⟩;have UN: ∀t,bE t=ado:=λt=>by
      cases hl:bE t with
      |none=>rfl
      |some li=>obtain⟨k,hk,_⟩:=hf'.sr.eB t li hl;simp at hk
     obtain⟨ad',eC,hv3,_,anE,_⟩:=hf'.vr.rX;have LR:eC=0:=by simpa using anE rfl
     subst LR;exact {
      jD:=hf'.jD,fq:=λt li h=>by cases h
      vr:=by rw[hv3];exact .own 1 aO 0 0 0 adw ⟨0,0,aO,0,0⟩ ad' 0 (Loc.jd _ _ _) rfl (UV _) (UV _) (UV _) (λh=>by cases h) (.inl rfl)
      sr:={
       bW:=hf'.sr.bW
       eB:=λt li h=>by
        unfold Loc.set at h;split at h
        ·rename_i ht;subst ht;injection h with h;subst h
         exact⟨_,rfl,rfl,rfl,λh=>absurd rfl h⟩
        rw[UN t]at h;cases h
       lh:=λt u li lj k k' h h' hs BZ IX=>by
        unfold Loc.set at h;split at h
        ·rename_i ht;subst ht;simp at hs;subst hs;cases IX
        rw[UN t]at h;cases h
       free:=λt li k h hs IX=>by
        unfold Loc.set at h;split at h
        ·rename_i ht;subst ht;simp at hs;subst hs;cases IX
        rw[UN t]at h;cases h}
      os:=hf'.os,tape:=hf'.tape,output:=hf'.output,size:=hf'.size,frame:=hf'.frame,fA:=hf'.fA
      rI:=λt li h=> .inr (abw _)
      own:=λt li k h hs IX=>by
       unfold Loc.set at h;split at h
       ·rename_i ht;subst ht;simp at hs;subst hs;cases IX
       rw[UN t]at h;cases h}
    |some ad'=>
     refine wp_cond_false (by rw[PI,had];rfl) (wp_skip ?_);rcases rows with _|⟨r,rs⟩
     ·simp only[ir,PP,abq]at hp
      obtain⟨rfl,rfl⟩:=hp;exact nW ab4 UM vD (xcC aO zero) _ _ .ret {env:=[(2,.own 1 aO 0 0 0 adw)],aB:=[.arr aO [],.arr aO []],fz:=[],kn:=0} hC rfl a3 w1 afB _ λa4 w4 YI=>fin _ _ rfl a4 w4 YI
     simp only[ir]at hp
     split at hp
     case isFalse=>cases hp
     rename_i UE;simp only[IR,aci,abX]at UE;obtain⟨rfl,lJ⟩:=UE;simp only[PP,abq]at hp;obtain⟨rfl,rfl⟩:=hp;have hap:lF [.arr e []] [] e (.own 0 e 0 0 0 adu) (.sl e cl (r::rs))=adc {v:= .own 1 e 0 (0+(ad7 rs+1)) (0+(ad7 rs+1)) adw,news:=[.arr e (r::rs)],rd:=[0]}:=by
      have h1:If e e=adu:=by simp
      have h2:abu (ad7 rs+1) 0=adw:=rfl;have h3:abu (0+(ad7 rs+1)) iq=adu:=by simpa using lJ
      simp only[lF,rowsOf,h1,if_true];simp[h2,lJ,mw]
     refine nW ab4 UM vD (xcC e zero) _ _ .ret {env:=[(2,.own 1 e 0 (0+(ad7 rs+1)) (0+(ad7 rs+1)) adw)],aB:=[.arr e [],.arr e (r::rs)],fz:=[],kn:=0} hC ?_ a3 w1 afB _ λa4 w4 YI=>fin _ _ rfl a4 w4 YI
     simp only[xcC,zC,oN,rS,wanted,BV,bO,ib.ev,lk];simp[vw,XR.ok,AE,XR.next,lf,zH,lH,lk,hap]
   cases V8
  cases qZ
end
end Go.Vm
/- slices.Insert of one row: what it leaves of the memory. -/
namespace Go.Vm
section
variable {P : Program} {im fP : Im} {loc bE : Loc} {aB : di} {fz : List Nat} {w w' : World}
theorem uT(w:World)(dT sT ty el:TypeId)(aO g o afD anG:Nat)(a:Addr)(zL sCap:Nat)(cur:Array Value)(t:TypeId)(cs:List Value)
 (hu:P.underlying dT=adc (.slice el)) (hs:(P.info? el).map (·.size)=adc aO)
 (hg:w.heap[g]? =adc (.cells cur t (0,0))) (hn:Nat.min zL afD*aO=ad7 cs)
 (anH: ∀j v,cs[j]? =adc v->w.cell? (a.add j)=adc v) (wM:o+ad7 cs<=cur.size) (h1: ∀v∈cs,v.oneCell'=adu):
 (Builtin.copy_ #[dT,sT] ty #[.slice (adc ⟨g,o,ado⟩) afD anG,.slice (adc a) zL sCap]).run P w=
  .ok (goInt (Nat.min zL afD)) (w.setRow g (qB o cs cur.toList).toArray):=by
 have hl:=run_loadCells_list (P:=P) w a cs anH;have dd:=run_storeCells_at P g o t cs 0 cur w hg (by simpa using wM) h1;cases hq:P.info? el with
 |none=>simp[hq]at hs
 |some i=>
  have hi:i.size=aO:=by grind
  simp[Builtin.copy_,run_underlying hu,Builtin.lenOf,Builtin.firstCells,sizeOf,typeInfo,hq,hi,hn,hl,dd,qB]
theorem BR.ig{li:LI}{k:ox}(h:BR im loc w li k)(hi:rW im fP)(hl:p7 loc bE)(hw:k.cu=adu->w'.heap[li.eB]? =w.heap[li.eB]?):BR fP bE w' li k:=by
 cases hs:k.cu with
 |true=>exact h.mono hi hl (hw hs)
 |false=>
  cases k with
  |arr e rows=>
   cases rows with
   |nil=>exact⟨h.1,h.2.1,λfo=>absurd rfl fo⟩
   |cons r rs=>cases hs
  |box cs=>cases hs
  |map es=>cases hs
  |dead=>trivial
theorem Dq{r:rQ}{t:Nat}{u:Value}(oD:SR im loc aB fz w)(he:yh im loc aB w r fP bE w')(zd:r.fr=[])(hw:r.wr=[(t,.dead)])(ht:t<ad7 aB)(hv:VR fP bE r.v u):
 zQ im loc aB w r.v (aB.set t .dead++r.news) fz fP bE w' u:=by
 have eX:(aB.set t .dead).length=(ad7 aB):=by simp
 have old: ∀t' li,loc t'=adc li->t'<(ad7 aB):=λt' li h=>by
  obtain⟨k,hk,_⟩:=oD.eB t' li h
  grind
 have Wf: ∀t' li k,loc t'=adc li->(aB.set t .dead++r.news)[t']? =adc k->k.cu=adu->t'≠t/\aB[t']? =adc k:=by
  intro t' li k h hk hs;have iL:=old t' li h;rw[NE (by omega),acm]at hk;split at hk
  ·first|(injection hk with hk;subst hk;cases hs)|(split at hk<;>first|(injection hk with hk;subst hk;cases hs)|cases hk)
  grind
 have Wg: ∀t' k,ad7 aB<=t'->(aB.set t .dead++r.news)[t']? =adc k->r.news[t'-(ad7 aB)]? =adc k:=by
  grind
 have Mx: ∀t' li,bE t'=adc li->loc t'=adc li\/(ad7 aB<=t'/\t'=ad7 aB+(t'-(ad7 aB))):=by
  intro t' li h;rcases he.oy t' li h with h|⟨h,_⟩
  ·exact .inl h
  omega
 have imn: ∀b o,fP b=adc o->im b=adc o\/w.heap.size<=b:=by
  intro b o h;rcases he.fA b o h with h|h|⟨t0,li,k,h,_⟩
  ·exact .inl h
  ·exact .inr h
  rw[zd]at h;cases h
 have aiZ: ∀t' li k,loc t'=adc li->aB[t']? =adc k->t'≠t->k.cu=adu->BR im loc w li k->w'.heap[li.eB]? =w.heap[li.eB]?:=by
  intro t' li k hl hk fo hs hb;refine he.frame li.eB (hb.lt hs) λt0 k1 l0 k0 hm RY hk0 Pr e=>?_
  rw[hw]at hm;obtain⟨rfl,rfl⟩:=by simpa using hm
  exact fo (oD.lh _ _ _ _ _ _ hl RY hk hk0 hs Pr e.symm)
 have ab6: ∀t' li k,bE t'=adc li->ad7 aB<=t'->r.news[t'-(ad7 aB)]? =adc k->BR fP bE w' li k/\
  (k.cu=adu->fP li.eB=ado/\(w.heap.size<=li.eB\/ ∃lt k0,loc t=adc lt/\aB[t]? =adc k0/\k0.cu=adu/\lt.eB=li.eB)):=by
  intro t' li k hl qf hk;obtain⟨h1,h2⟩:=he.news (t'-(ad7 aB)) k li hk (by rw[show(ad7 aB)+(t'-(ad7 aB))=t' by omega];exact hl)
  grind
 have apart: ∀t1 u1 li lj k k',loc t1=adc li->t1≠t->aB[t1]? =adc k->k.cu=adu->bE u1=adc lj->ad7 aB<=u1->r.news[u1-(ad7 aB)]? =adc k'->k'.cu=adu->li.eB≠lj.eB:=by
  intro t1 u1 li lj k k' hl fo hk hs qH qf LS BZ e;obtain⟨k2,HU,hb⟩:=oD.eB t1 li hl;rw[hk]at HU;injection HU with HU;subst HU;rcases((ab6 u1 lj k' qH qf LS).2 BZ).2 with h|⟨lt,k0,a,b,c,d⟩
  ·have:=hb.lt hs;omega
  exact fo (oD.lh _ _ _ _ _ _ hl a hk b hs c (by rw[e,d]))
 exact {
  jD:=he.jD,fq:=he.fq,vr:=hv
  sr:={
   bW:=he.bW
   eB:=λt' li h=>by
    rcases Mx t' li h with ho|⟨qf,_⟩
    ·obtain⟨k,hk,hb⟩:=oD.eB t' li ho
     have iL:=old t' li ho
     by_cases e:t'=t
     ·subst e
      exact⟨.dead,by rw[NE (by omega),List.getElem?_set_self (by omega)],trivial⟩
     refine⟨k,by rw[NE (by omega),List.getElem?_set_ne (λx=>e x.symm)];exact hk,hb.ig he.jD he.fq λhs=>aiZ t' li k ho hk e hs hb⟩
    have hn:t'-(ad7 aB)<(ad7 r.news):=by
     rcases he.oy t' li h with ho|⟨_,h2⟩
     ·have:=old t' li ho;omega
     omega
    obtain⟨hb,_⟩:=ab6 t' li _ h qf (EQ hn);exact⟨_,by rw[aai (by omega),eX];exact EQ hn,hb⟩
   lh:=λt1 u1 li lj k k' hl qH hk LS hs BZ e=>by
    rcases Mx t1 li hl with h1|⟨h1,_⟩<;>rcases Mx u1 lj qH with h2|⟨h2,_⟩
    ·obtain⟨n1,e1⟩:=Wf _ _ _ h1 hk hs
     obtain⟨n2,e2⟩:=Wf _ _ _ h2 LS BZ;exact oD.lh _ _ _ _ _ _ h1 h2 e1 e2 hs BZ e
    ·obtain⟨n1,e1⟩:=Wf _ _ _ h1 hk hs
     exact absurd e (apart _ _ _ _ _ _ h1 n1 e1 hs qH h2 (Wg _ _ h2 LS) BZ)
    ·obtain⟨n2,e2⟩:=Wf _ _ _ h2 LS BZ
     exact absurd e.symm (apart _ _ _ _ _ _ h2 n2 e2 BZ hl h1 (Wg _ _ h1 hk) hs)
    have:=he.distinct (t1-(ad7 aB)) (u1-(ad7 aB)) k k' li lj (Wg _ _ h1 hk) (Wg _ _ h2 LS) hs BZ (by rw[show(ad7 aB)+(t1-(ad7 aB))=t1 by omega];exact hl) (by rw[show(ad7 aB)+(u1-(ad7 aB))=u1 by omega];exact qH) e
    omega
   free:=λt' li k hl hk hs hz=>by
    rcases Mx t' li hl with h1|⟨h1,_⟩
    ·obtain⟨n1,e1⟩:=Wf _ _ _ h1 hk hs
     obtain⟨k2,HU,hb⟩:=oD.eB t' li h1;rw[e1]at HU;injection HU with HU;subst HU;have h0:=oD.free t' li k h1 e1 hs hz;cases hi:fP li.eB with
     |none=>rfl
     |some o=>
      rcases imn _ _ hi with h|h
      ·rw[h0]at h;cases h
      have:=hb.lt hs;omega
    exact((ab6 t' li k hl h1 (Wg _ _ h1 hk)).2 hs).1}
  os:=he.os,tape:=he.tape,output:=he.output,size:=he.size
  frame:=λb hb h=>he.frame b hb λt0 k li k0 hm hl hk hs=>h t0 li k0 hl hk hs
  fA:=λb o h=>by
   rcases imn b o h with h|h
   ·exact .inl h
   exact .inr (.inl h)
  rI:=λt' li h=>by
   rcases Mx t' li h with h|⟨h,_⟩
   ·exact .inl h
   exact .inr h
  own:=λt' li k hl hk hs=>by
   rcases Mx t' li hl with h1|⟨h1,_⟩
   ·obtain⟨n1,e1⟩:=Wf _ _ _ h1 hk hs
    exact .inr ⟨t',li,k,h1,e1,hs,rfl⟩
   rcases((ab6 t' li k hl h1 (Wg _ _ h1 hk)).2 hs).2 with h|⟨lt,k0,a,b,c,d⟩
   ·exact .inl h
   exact .inr ⟨t,lt,k0,a,b,c,d⟩}
theorem SR.My(h:SR im loc aB fz w):loc (ad7 aB)=ado:=by
 cases hl:loc (ad7 aB)with
 |none=>rfl
 |some li=>obtain⟨k,hk,_⟩:=h.eB _ _ hl;simp at hk
theorem Wh{t e:Nat}{li:LI}{rows L:List Row}{arr fin:Array Value}{el:TypeId}(oD:SR im loc aB fz w)(hl:loc t=adc li)(dd:aB[t]? =adc (.arr e rows))(fo:rows≠[])(hf:has fz t=adw)
 (ha:w.heap[li.eB]? =adc (.cells arr el (0,0))) (hh:w'.heap=w.heap.setIfInBounds li.eB (.cells fin el (0,0))) (ho:w'.os=w.os) (ht:Tape w w') (hp:w'.output=w.output)
 (vW:fin.size=li.sz) (wM:li.sh+ad7 L*e<=li.sz) (hr:cA (λk=>fin[k]?) li.sh e L):
 yh im loc aB w {v:= .own (ad7 aB) e 0 (ad7 L) (ad7 L) adw,news:=[.arr e L],wr:=[(t,.dead)]} im (loc.set (ad7 aB) ⟨li.eB,li.sh,e,ad7 L,li.sz⟩) w':=by
 have GO:(ox.arr e rows).cu=adu:=qX fo;have Jt:=oD.free t li _ hl dd GO hf;have Yb:=oD.My;exact {
  jD:= .refl _,fq:=Loc.AG _ Yb
  bW:=λb o hb=>by
   have h1:=oD.bW b o hb
   grind
  fA:=λ_ _ h=> .inl h,os:=ho,tape:=ht,output:=hp
  size:=by rw[hh];simp
  VO:=λt' k hm hs=>by
   grind
  frame:=λb _ hb=>by simp_all
  wr:=λt' k li hm qH=>by
   obtain⟨rfl,rfl⟩:=by simpa using hm
   trivial
  oy:=λt' l h=>by
   unfold Loc.set at h
   grind
  news:=GK λj k hj=>by
   cases j with
   |zero=>simp at hj;subst hj;refine⟨_,Loc.jd _ _ _,⟨rfl,rfl,λ_=>⟨fin,el,by grind,vW,wM,hr⟩⟩,λ_=>⟨Jt,.inr ⟨t,li,_,ac6.2 rfl,hl,dd,GO,rfl⟩⟩⟩
   |succ j=>simp at hj
  distinct:=λi j ki kj li lj h1 h2 _ _ _ _ _=>by
   grind}
theorem Mz{t e:Nat}{L:List Row}{fin:Array Value}{el:TypeId}(oD:SR im loc aB fz w)
 (hh:w'.heap=w.heap.push (.cells fin el (0,0))) (ho:w'.os=w.os) (ht:Tape w w') (hp:w'.output=w.output)
 (wM:(ad7 L)*e<=fin.size) (hr:cA (λk=>fin[k]?) 0 e L):
 yh im loc aB w {v:= .own (ad7 aB) e 0 (ad7 L) (ad7 L) adw,news:=[.arr e L],wr:=[(t,.dead)]} im (loc.set (ad7 aB) ⟨w.heap.size,0,e,ad7 L,fin.size⟩) w':=by
 have Yb:=oD.My;have old: ∀b,b<w.heap.size->w'.heap[b]? =w.heap[b]?:=λb hb=>by grind
 have iL:=λb o h=>(abB.1 (oD.bW b o h)).1
 exact {
  jD:= .refl _,fq:=Loc.AG _ Yb
  bW:=λb o hb=>by rw[old b (iL b o hb)];exact oD.bW b o hb
  fA:=λ_ _ h=> .inl h,os:=ho,tape:=ht,output:=hp
  size:=by rw[hh];simp
  VO:=λt' k hm hs=>by
   obtain⟨rfl,rfl⟩:=by simpa using hm
   cases hs
  frame:=λb hb _=>old b hb
  wr:=λt' k li hm qH=>by
   obtain⟨rfl,rfl⟩:=by simpa using hm
   trivial
  oy:=λt' l h=>by
   unfold Loc.set at h
   grind
  news:=GK λj k hj=>by
   cases j with
   |zero=>
    simp at hj;subst hj;refine⟨_,Loc.jd _ _ _,⟨rfl,rfl,λ_=>⟨fin,el,by rw[hh];simp,rfl,by simpa using wM,hr⟩⟩,λ_=>⟨?_,.inl (UV _)⟩⟩;cases hi:im w.heap.size with
    |none=>rfl
    |some o=>grind
   |succ j=>simp at hj
  distinct:=λi j ki kj li lj h1 h2 _ _ _ _ _=>by
   grind}
theorem MA{aO:Nat}: ∀{rows:List Row} (_: ∀r∈rows,ad7 r=aO) (i:Nat),(rows.take i).flatMap bn=(rows.flatMap bn).take (i*aO)
 | [],_,i=>by simp
 |r::rs,h,0=>by simp
 |r::rs,h,i+1=>by
  have hr:(bn r).length=aO:=by grind[oQ]
  have e1:(bn r).take ((i+1)*aO)=bn r:=abv (by grind);rw[List.take_succ_cons,abP,MA (λx hx=>h x (by simp[hx])) i,abP,List.take_append,e1,hr,show(i+1)*aO-aO=i*aO by grind]
theorem MB{aO:Nat}: ∀{rows:List Row} (_: ∀r∈rows,ad7 r=aO) (i:Nat),(rows.drop i).flatMap bn=(rows.flatMap bn).drop (i*aO)
 | [],_,i=>by simp
 |r::rs,h,0=>by simp
 |r::rs,h,i+1=>by
  have hr:(bn r).length=aO:=by grind[oQ]
  have e1:(bn r).drop ((i+1)*aO)=[]:=abQ (by grind);rw[List.drop_succ_cons,MB (λx hx=>h x (by simp[hx])) i,abP,List.drop_append,e1,hr,show(i+1)*aO-aO=i*aO by grind,List.nil_append]
theorem ab7{α:Type}{o k:Nat}{cs vs l:List α}(hl:o+(ad7 cs+ad7 vs)<=ad7 l)(hk:k<=ad7 cs)(v8: ∀j v,j<k->cs[j]? =adc v->l[o+j]? =adc v):
 ∀j v,(cs.take k++vs++cs.drop k)[j]? =adc v->(qB (o+k) vs (qB (o+k+ad7 vs) (cs.drop k) l))[o+j]? =adc v:=by
 intro j v h;have hd:(cs.drop k).length=ad7 cs-k:=List.length_drop;have ht:(cs.take k).length=k:=by grind
 have l1:o+k+ad7 vs+(cs.drop k).length<=(ad7 l):=by rw[hd];omega
 rw[jW _ _ _ (by grind[dQ])];rcases aaQ j k with h1|h1
 ·rw[Do (by omega),jW _ _ _ l1,Do (by omega)]
  grind
 rw[acF,aai (by omega),ht]at h
 rcases aaQ (j-k) (ad7 vs)with h2|h2
 ·grind
 rw[aai h2]at h
 have:=(aaP.1 h).1;rw[Do (by omega),jW _ _ _ l1,AC ⟨by omega,by omega⟩,<-h]
 congr 1;omega
theorem YJ{α:Type}{k:Nat}{cs vs l:List α}(hl:(ad7 cs)+ad7 vs<=ad7 l)(hk:k<=ad7 cs)(v8: ∀(j:Nat) (v:α),j<k->cs[j]? =adc v->l[j]? =adc v):
 ∀(j:Nat) (v:α),(cs.take k++vs++cs.drop k)[j]? =adc v->(qB (k+ad7 vs) (cs.drop k) (qB k vs l))[j]? =adc v:=by
 intro j v h;have ht:(cs.take k).length=k:=by grind
 have l1:k+ad7 vs<=(ad7 l):=by omega
 rw[jW _ _ _ (by grind[dQ])];rcases aaQ j k with h1|h1
 ·rw[Do (by omega),jW _ _ _ l1,Do (by omega)]
  grind
 rw[acF,aai (by omega),ht]at h
 rcases aaQ _ (ad7 vs)with h2|h2
 ·rw[NE h2]at h
  rw[Do (by omega),jW _ _ _ l1,AC ⟨by omega,by omega⟩,<-h]
 grind
theorem SR.Wi(h:SR im loc aB fz w){t:Nat}(hf:has fz t=adw){r:rQ}(hw:r.wr=[(t,.dead)]):lI im loc aB w r where
 bW:=h.bW
 tok:=λt _ li hl=>h.eB t li hl
 free:=λt' k hm li k' hl hk hs=>by
  obtain rfl:t'=t:=by grind
  exact h.free t' li k' hl hk hs hf
 fresh:=λj hj=>by
  cases hl:loc _ with
  |none=>rfl
  |some li=>obtain⟨k,hk,_⟩:=h.eB _ _ hl;grind
 lh:=λt u li lj k k' _ _=>h.lh t u li lj k k'
structure Qf(P:Program)(f:FuncId)(e:Nat)(tS:TypeId):Prop where
 ends: ∀(r8:Option Addr) (n c vb tM vc:Nat) (w w':World) (v':Value),n<=c->(Builtin.append_ #[tS,tS] tS #[.slice r8 n c,.slice (adc ⟨vb,tM,ado⟩) 1 vc]).run P w= .ok v' w'->
  Calls P f #[.slice r8 n c,.int .i64 n,.slice (adc ⟨vb,tM,ado⟩) 1 vc] w λe W=>e= .returned v'/\W=w'
 room: ∀(b off n c i vb tM vc:Nat) (cs vs:List Value) (arr av:Array Value) (el ev:TypeId) (w:World),i<n->n+1<=c->n<=1048576->vb≠b->w.heap[b]? =adc (.cells arr el (0,0))->w.heap[vb]? =adc (.cells av ev (0,0))->
  off+(n+1)*e<=arr.size->ad7 cs=n*e->ad7 vs=e->(∀(j:Nat) (v:Value),cs[j]? =adc v->arr[off+j]? =adc v)->(∀(j:Nat) (v:Value),vs[j]? =adc v->av[tM+j]? =adc v)->(∀v∈cs,v.oneCell'=adu)->(∀v∈vs,v.oneCell'=adu)->
  ∃fin:List Value,ad7 fin=arr.size/\(∀(j:Nat) (v:Value),(cs.take (i*e)++vs++cs.drop (i*e))[j]? =adc v->fin[off+j]? =adc v)/\
  Calls P f #[.slice (adc ⟨b,off,ado⟩) n c,.int .i64 i,.slice (adc ⟨vb,tM,ado⟩) 1 vc] w λx w'=>
   x= .returned (.slice (adc ⟨b,off,ado⟩) (n+1) c)/\w'.heap=w.heap.setIfInBounds b (.cells fin.toArray el (0,0))/\w'.os=w.os/\Tape w w'/\w'.output=w.output
 full: ∀(b off n i vb tM vc:Nat) (cs vs:List Value) (w:World),i<n->n<=1048576->ad7 cs=n*e->ad7 vs=e->
  (∀(j:Nat) (v:Value),cs[j]? =adc v->w.cell? ⟨b,off+j,ado⟩=adc v)->(∀(j:Nat) (v:Value),vs[j]? =adc v->w.cell? ⟨vb,tM+j,ado⟩=adc v)->(∀v∈cs,v.oneCell'=adu)->(∀v∈vs,v.oneCell'=adu)->
  ∃(G:Nat) (fin:List Value) (el:TypeId),n+1<=G/\ad7 fin=G*e/\(∀(j:Nat) (v:Value),(cs.take (i*e)++vs++cs.drop (i*e))[j]? =adc v->fin[j]? =adc v)/\
  Calls P f #[.slice (adc ⟨b,off,ado⟩) n n,.int .i64 i,.slice (adc ⟨vb,tM,ado⟩) 1 vc] w λx w'=>
   x= .returned (.slice (adc ⟨w.heap.size,0,ado⟩) (n+1) G)/\w'.heap=w.heap.push (.cells fin.toArray el (0,0))/\w'.os=w.os/\Tape w w'/\w'.output=w.output
theorem Fp.ins{f:FuncId}{e:Nat}{tS tE:TypeId}{fn:Func}{c:Code}{i0:TypeInfo}{z:Value}(hf:P.funcs[f]? =adc fn)(wC:(fn.name== "runtime.NumGoroutine")=adw)(hb:fn.body=adc c)
 (ht:P.underlying tS=adc (.slice tE)) (hi:P.info? tE=adc i0) (vW:i0.size=e) (hz:i0.zero=adc z) (PK:z.cells.size=e) (VT:i0.bytes<=1048576) (he0:0<e) (H:Qf P f e tS):Fp P f (NC e):=by
 refine⟨fn,c,hf,wC,hb,?_⟩;intro args aB fz v zR NV hp im loc w us oD Dj;unfold NC at hp;split at hp
 case h_2=>cases hp
 rename_i t e1 off len cap ex i u e2 aii PB YK ex2;split at hp
 case h_2=>cases hp
 rename_i e3 rows e4 new dd hsu;split at hp
 case isFalse=>cases hp
 rename_i hc;simp only[IR,aci,abz,decide_eq_true_eq,abX]at hc;obtain⟨⟨⟨⟨⟨⟨⟨⟨⟨⟨⟨q1,q2⟩,rfl⟩,rfl⟩,eX⟩,rfl⟩,NJ⟩,htu⟩,X9⟩,HX⟩,hil⟩,lJ⟩:=hc;have q1:=q1.symm;subst q1;have q2:=q2.symm;subst q2;have lJ:len+1<=1048576:=lJ;injection hp with hp;simp only[abq]at hp;obtain⟨rfl,rfl,rfl⟩:=hp;obtain⟨k,rfl⟩: ∃k:Nat,i=(k:Int):=⟨i.toNat,by omega⟩;simp only[Int.toNat_natCast]at hil ⊢;obtain⟨x0,Wj,rfl,N8,Dj⟩: ∃x0 Wj,us=x0::Wj/\VR im loc (.own t e 0 len cap ex) x0/\gz im loc [.int .i64 (k:Int),.own u e 0 1 YK ex2] Wj:=by cases Dj with|cons _ a _ b h1 h2=>grind
 obtain⟨x1,us2,rfl,Mw,Dj⟩: ∃x1 us2,Wj=x1::us2/\VR im loc (.int .i64 (k:Int)) x1/\gz im loc [.own u e 0 1 YK ex2] us2:=by cases Dj with|cons _ a _ b h1 h2=>grind
 obtain⟨x2,us3,rfl,hx2,Dj⟩: ∃x2 us3,us2=x2::us3/\VR im loc (.own u e 0 1 YK ex2) x2/\gz im loc [] us3:=by cases Dj with|cons _ a _ b h1 h2=>grind
 obtain rfl:us3=[]:=by cases Dj;rfl
 have Mw:=Mw.jt;subst Mw;obtain⟨li,a,eC,rfl,hl,he,GL,hlc,Ux,_,IC⟩:=N8.jV;obtain⟨lj,a2,YL,rfl,PJ,BN,atn,avi,avj,_,ato⟩:=hx2.jV;have V':t<(ad7 aB):=(aaP.1 dd).1;obtain⟨k1,jI,yu⟩:=oD.eB t li hl;rw[dd]at jI;injection jI with jI;subst jI;obtain⟨k2,HU,anI⟩:=oD.eB u lj PJ;rw[hsu]at HU;injection HU with HU;subst HU;obtain⟨b1,b2,b3⟩:=yu;obtain⟨d1,d2,d3⟩:=anI;have afE:new≠[]:=by grind
 obtain⟨av,ev,UD,hv2,hv3,afF⟩:=d3 afE;have e34:e=e3:=by rw[<-b1,he]
 subst e34;have e44:e=e4:=by rw[<-d1,BN]
 subst e44;obtain rfl:a2=adc ⟨lj.eB,lj.sh,ado⟩:=by
  grind
 have NK:=afF.rY;have Ya:=afF.plain;have PM:=eM NK;rw[NJ]at PM;refine .inr ⟨kD hf wC hb,?_⟩;rcases aaQ k len with hk|hk
 ·
  have vC:rows≠[]:=by grind
  obtain⟨arr,el,D0,RX,PI,dO⟩:=b3 vC;obtain⟨hn0,rfl,wM⟩:li.n≠0/\a=adc ⟨li.eB,li.sh,ado⟩/\li.sh+eC*e<=li.sz:=by
   grind
  have XN:=dO.rY;have hrp:=dO.plain;have hfl:=eM XN;rw[<-eX]at hfl;obtain⟨L,hL⟩: ∃L,L=rows.take k++new++rows.drop k:=⟨_,rfl⟩;have hLl:(ad7 L)=len+1:=by grind
  have hLf:L.flatMap bn=(rows.flatMap bn).take (k*e)++new.flatMap bn++(rows.flatMap bn).drop (k*e):=by
   grind[MA,MB]
  have hLr: ∀r∈L,ad7 r=e:=by
   grind
  have hLp: ∀r∈L,∀c∈r,c.plain=adu:=by
   grind
  rw[<-hL,<-hLl];have v8: ∀j v,(rows.flatMap bn)[j]? =adc v->arr[li.sh+j]? =adc v:=λj v hj=>dO.flat j v hj
  have NP: ∀j v,(new.flatMap bn)[j]? =adc v->av[lj.sh+j]? =adc v:=λj v hj=>afF.flat j v hj
  have LJ:(len+1)*e<=eC*e\/eC=len:=by
   grind[aaQ,abU]
  rcases LJ with yt|UL
  ·have ai3:len+1<=eC:=Nat.le_of_mul_le_mul_right yt he0
   have fo:lj.eB≠li.eB:=λh=>by have:=oD.lh u t lj li _ _ PJ hl hsu dd (qX afE) (qX vC) h;rw[this]at htu;simp at htu
   obtain⟨fin,f1,f2,f3⟩:=H.room li.eB li.sh len eC k lj.eB lj.sh YL _ _ arr av el ev w hk ai3 (by omega) fo D0 UD (by omega) hfl (by omega) v8 NP (rZ hrp) (rZ Ya);refine f3.mono λx w' ⟨hx,hh,ho,htp,hpp⟩=>⟨_,hx,im,loc.set (ad7 aB) ⟨li.eB,li.sh,e,ad7 L,li.sz⟩,?_⟩
   have hE:=Wh oD hl dd vC X9 D0 hh ho htp hpp (by simp[f1,RX]) (by rw[hLl];omega) (cA.Et hLr hLp λj v hj=>by rw[hLf]at hj;simpa using f2 j v hj);refine Dq oD hE rfl rfl V' ?_;rw[<-hLl];exact .own _ _ 0 _ _ adw ⟨li.eB,li.sh,e,ad7 L,li.sz⟩ _ eC (Loc.jd _ _ _) rfl (by show 0+ad7 L<=ad7 L;omega) (UV _) (by omega) (λh=>by cases h) (.inr ⟨by show(ad7 L)≠0;omega,by simp,by show li.sh+(0+eC)*e<=li.sz;rw[Nat.zero_add];exact wM⟩)
  subst UL
  obtain⟨G,fin,el',g1,g2,g3,g4⟩:=H.full li.eB li.sh eC k lj.eB lj.sh YL _ _ w hk (by omega) hfl (by omega) (λj v hj=>by simp only[ad6,D0];exact v8 j v hj) (λj v hj=>by simp only[ad6,UD];exact NP j v hj) (rZ hrp) (rZ Ya);have hg:(eC+1)*e<=G*e:=abU _ g1;refine g4.mono λx w' ⟨hx,hh,ho,htp,hpp⟩=>⟨_,hx,im,loc.set (ad7 aB) ⟨w.heap.size,0,e,ad7 L,fin.toArray.size⟩,?_⟩
  have hE:=Mz (t:=t) oD hh ho htp hpp (by rw[hLl];simp[g2];omega) (cA.Et hLr hLp λj v hj=>by rw[hLf]at hj;simpa using g3 j v hj);refine Dq oD hE rfl rfl V' ?_;rw[<-hLl];exact .own _ _ 0 _ _ adw ⟨w.heap.size,0,e,ad7 L,fin.toArray.size⟩ _ G (Loc.jd _ _ _) rfl (by show 0+ad7 L<=ad7 L;omega) (UV _) (by omega) (λh=>by cases h) (.inr ⟨by show(ad7 L)≠0;omega,by simp,by show 0+(0+G)*e<=fin.toArray.size;simp[g2]⟩)
 ·
  obtain rfl:k=len:=by omega
  have anJ:rows.take k++new++rows.drop k=rows++new:=by rw[abv (by omega),abQ (by omega),abS]
  rw[anJ];have anK:VR im loc (.own t e 0 k k adw) (.slice a k eC):= .own t e 0 k k adw li a eC hl he (by omega) (UV _) (by omega) (by simp) IC;have HR:rowsOf aB e (.own u e 0 1 YK ex2)=adc new:=by
   have:(new.drop 0).take 1=new:=by rw[ad4,abv (by omega)]
   show(if If e e=adu then(match aB[u]? with|some (.arr _ rows)=>adc ((rows.drop 0).take 1)|_=>ado)else ado)=_;rw[AC (Nat.beq_refl e),hsu];exact congrArg adc this
  have hap:lF aB fz e (.own t e 0 k k adw) (.own u e 0 1 YK ex2)=adc {v:= .own (ad7 aB) e 0 (k+1) (k+1) adw,news:=[.arr e (rows++new)],wr:=[(t,.dead)],rd:=[u]}:=by
   have h1:abu (k+1) k=adw:=by
    cases h:abu (k+1) k with
    |false=>rfl
    |true=>have:=Nat.le_of_ble_eq_true h;omega
   have h2:abu (k+1) iq=adu:=by simpa[iq]using lJ
   have h3:(rows.drop 0).take k=rows:=by rw[ad4,abv (by omega)]
   unfold lF;rw[HR];cases new with
   |nil=>exact absurd rfl afE
   |cons r rs=>have h0:(r::rs).length=1:=NJ;simp only[h0,dd,h1,h2,h3,X9,mw];simp
  obtain⟨v',w',bE,dy,tL,hE⟩:=Jr ht ht hi vW hz PK VT anK hx2 hap (oD.Wi X9 rfl);refine(H.ends a k eC lj.eB lj.sh YL w w' v' (by omega) dy).mono λx W ⟨hx,hW⟩=>⟨v',hx,im,bE,?_⟩
  subst hW;exact Dq oD hE rfl rfl V' tL
end
end Go.Vm
/- slices.Concat of two slices that nobody writes to: the table's entry. -/
namespace Go.Vm
def YM(P : Program)(f : FuncId) : Prop :=
  ∀ (vb c : Nat) (a1 a2 : Option Addr) (c1 c2 : Nat) (LV LW : List Value) (av : Array Value) (ev : TypeId) (w : World), w.heap[vb]? = adc (.cells av ev (0, 0)) -> av[0]? = adc (.slice a1 (ad7 LV) c1) -> av[1]? = adc (.slice a2 (ad7 LW) c2) -> 1 <= (ad7 LV) + (ad7 LW) -> (ad7 LV) + (ad7 LW) <= 1048576 ->
    (∀ (j : Nat) (v : Value), LV[j]? = adc v -> ∃ b o, a1 = adc ⟨b, o, ado⟩ /\ w.cell? ⟨b, o + j, ado⟩ = adc v) -> (∀ (j : Nat) (v : Value), LW[j]? = adc v -> ∃ b o, a2 = adc ⟨b, o, ado⟩ /\ w.cell? ⟨b, o + j, ado⟩ = adc v) -> (∀ v ∈ LV, v.oneCell' = adu) -> (∀ v ∈ LW, v.oneCell' = adu) ->
    ∃ (G : Nat) (fin : List Value) (el : TypeId), (ad7 LV) + (ad7 LW) <= G /\ (ad7 fin) = G /\ (∀ (j : Nat) (v : Value), (LV ++ LW)[j]? = adc v -> fin[j]? = adc v) /\
    Calls P f #[.slice (adc ⟨vb, 0, ado⟩) 2 c] w λx w' => x = .returned (.slice (adc ⟨w.heap.size, 0, ado⟩) ((ad7 LV) + (ad7 LW)) G) /\ w'.heap = w.heap.push (.cells fin.toArray el (0, 0)) /\ w'.os = w.os /\ Tape w w' /\ w'.output = w.output
section
variable {P : Program} {im : Im} {loc : Loc} {w : World}
theorem xD{rows:List Row}(h:AF rows=adu):(∀r∈rows,ad7 r=1)/\ ∀r∈rows,∀c∈r,c.plain=adu:=by
 unfold AF at h;rw[abx]at h;constructor
 ·intro r hr
  have:=h r hr;simp[IR,aci]at this;exact this.1
 grind
theorem Qg{e:Nat}{cl:Bool}{rows:List Row}{u:Value}(h:VR im loc (.sl e cl rows) u)(h1:AF rows=adu)(he:(If e 1||rows.isEmpty)=adu)(bW: ∀b o,im b=adc o->w.heap[b]? =adc o):
 ∃a c,u= .slice a (rows.flatMap bn).length c/\(rows.flatMap bn).length=ad7 rows/\ ∀(j:Nat) (v:Value),(rows.flatMap bn)[j]? =adc v-> ∃b o,a=adc ⟨b,o,ado⟩/\w.cell? ⟨b,o+j,ado⟩=adc v:=by
 obtain⟨a,cap,rfl,_,_,oP⟩:=h.rX;obtain⟨l1,l2⟩:=xD h1;have hl:=eM l1;rw[Nat.mul_one]at hl;refine⟨a,cap,by rw[hl],hl,λj v hj=>?_⟩;have fo:rows≠[]:=by grind
 obtain⟨b,o,rfl,dO⟩:=oP fo;exact⟨b,o,rfl,vB bW (dO.flat j v hj)⟩
theorem Fp.cat{f:FuncId}{fn:Func}{c:Code}(hf:P.funcs[f]? =adc fn)(wC:(fn.name== "runtime.NumGoroutine")=adw)(hb:fn.body=adc c)(H:YM P f):Fp P f NA:=by
 refine⟨fn,c,hf,wC,hb,?_⟩;intro args aB fz v zR NV hp im loc w us oD Dj;unfold NA at hp;split at hp
 case h_2=>cases hp
 rename_i t e off len cap ex;split at hp
 case h_2=>cases hp
 rename_i e1 cl1 x e2 cl2 y dd;split at hp
 case isFalse=>cases hp
 rename_i hc;simp only[IR,aci,abX]at hc;obtain⟨⟨⟨⟨⟨⟨⟨⟨⟨rfl,rfl⟩,rfl⟩,X9⟩,Mw⟩,hy1⟩,PL⟩,lJ⟩,he1⟩,BN⟩:=hc;have lJ:(ad7 x)+ad7 y<=1048576:=lJ;injection hp with hp;obtain⟨rfl,rfl,rfl⟩:=hp;obtain⟨x0,Wj,rfl,N8,Dj⟩: ∃x0 Wj,us=x0::Wj/\VR im loc (.own t 1 0 2 cap ex) x0/\gz im loc [] Wj:=by cases Dj with|cons _ a _ b h1 h2=>grind
 obtain rfl:Wj=[]:=by cases Dj;rfl
 obtain⟨li,a,eC,rfl,hl,he,GL,hlc,Ux,_,IC⟩:=N8.jV;obtain⟨k1,jI,yu⟩:=oD.eB t li hl;rw[dd]at jI;injection jI with jI;subst jI;obtain⟨_,_,b3,vs,ev,b4,b5,b6⟩:=yu;have V':=(aaP.1 dd).1;obtain⟨u1,vs1,rfl,v1,b6⟩: ∃u1 vs1,vs=u1::vs1/\VR im loc (.sl e1 cl1 x) u1/\gz im loc [.sl e2 cl2 y] vs1:=by cases b6 with|cons _ a _ b h1 h2=>grind
 obtain⟨u2,vs2,rfl,v2,b6⟩: ∃u2 vs2,vs1=u2::vs2/\VR im loc (.sl e2 cl2 y) u2/\gz im loc [] vs2:=by cases b6 with|cons _ a _ b h1 h2=>grind
 obtain rfl:a=adc ⟨li.eB,0,ado⟩:=by
  grind
 obtain⟨a1,d1,rfl,l1,r1⟩:=Qg v1 Mw he1 oD.bW;obtain⟨a2,d2,rfl,l2,r2⟩:=Qg v2 hy1 BN oD.bW;obtain⟨G,fin,el,g1,g2,g3,g4⟩:=H li.eB eC a1 a2 d1 d2 (x.flatMap bn) (y.flatMap bn) _ ev w b4 rfl rfl (by omega) (by omega) r1 r2 (rZ (xD Mw).2) (rZ (xD hy1).2);refine .inr ⟨kD hf wC hb,?_⟩;have hL:(x++y).length=(x.flatMap bn).length+(y.flatMap bn).length:=by grind
 refine g4.mono λz w' ⟨hz,hh,ho,htp,hpp⟩=>⟨_,hz,im,loc.set (ad7 aB) ⟨w.heap.size,0,1,(x++y).length,fin.toArray.size⟩,?_⟩
 have hE:=Mz (t:=t) (L:=x++y) (e:=1) oD hh ho htp hpp (by grind) (cA.Et (λr hr=>by
  grind[xD]) (λr hr=>by
  grind[xD]) λj v hj=>by
  grind)
 refine Dq oD hE rfl rfl V' ?_;rw[<-hL];exact .own _ _ 0 _ _ adw ⟨w.heap.size,0,1,(x++y).length,fin.toArray.size⟩ _ G (Loc.jd _ _ _) rfl (by simp) (UV _) (by omega) (λh=>by cases h) (.inr ⟨by grind,by simp,by grind⟩)
end
end Go.Vm
/- A table of functions as a tree. -/
namespace Go.Vm
inductive TT where
 |nil
 |leaf(k:Nat)(e:XM)
 |node(m:Nat)(a b:TT)
def TT.get:TT->Nat->Option XM
 | .nil,_=>ado
 | .leaf k e,f=>bif If f k then adc e else ado
 | .node m a b,f=>bif abF f m then a.get f else b.get f
def TT.All(p:Nat->XM->Prop):TT->Prop
 | .nil=>True
 | .leaf k e=>p k e
 | .node _ a b=>a.All p/\b.All p
theorem TT.FC{p:Nat->XM->Prop}: ∀{t:TT} {f:Nat} {e:XM},t.All p->t.get f=adc e->p f e
 | .nil,f,e,_,h=>by cases h
 | .leaf k e',f,e,ha,h=>by
  simp[TT.get]at h;cases hk:If f k with
  |false=>grind
  |true=>
   rw[hk]at h;have:f=k:=by simpa using hk
   subst this;injection h with h;subst h;exact ha
 | .node m a b,f,e,ha,h=>by
  simp[TT.get]at h;cases hk:abF f m with
  |false=>rw[hk]at h;exact TT.FC ha.2 h
  |true=>rw[hk]at h;exact TT.FC ha.1 h
def wD(P:Program)(f:Nat):XM->Prop
 | .code x=>FB P (λ_=>adu) x f=adu
 | .nT k p=>k=adw/\NW P f p
 | .LD p=>Fp P f p
theorem TT.ai5{P:Program}{t:TT}(h:t.All (wD P)):Qb P (λ_=>adu) t.get:=λf x hf=>by have:=TT.FC h hf;exact this
theorem TT.ab8{P:Program}{t:TT}(h:t.All (wD P)):Dl P t.get:=⟨λ_ _ _ hf=>TT.FC h hf,λ_ _ hf=>TT.FC h hf⟩
end Go.Vm
/- A table of functions, looked at all at once. -/
namespace Go.Vm
def TT.XV(P:Program):TT->Bool
 | .leaf k (.code x)=>FB P (λ_=>adu) x k
 | .node _ a b=>a.XV P&&b.XV P
 |_=>adu
def TT.nU:TT->List (Nat×XM)
 | .leaf _ (.code _)=>[]
 | .leaf k e=>[(k,e)]
 | .node _ a b=>a.nU++b.nU
 | .nil=>[]
def EA(P:Program):List (Nat×XM)->Prop
 | []=>True
 |e::r=>wD P e.1 e.2/\EA P r
theorem EA.app{P:Program}{b:List (Nat×XM)}: ∀{a:List (Nat×XM)},EA P (a++b)->EA P a/\EA P b
 | [],h=>⟨trivial,h⟩
 |_::_,h=>⟨⟨h.1,h.2.app.1⟩,h.2.app.2⟩
theorem TT.Sx{P:Program}: ∀{t:TT},t.XV P=adu->EA P t.nU->t.All (wD P)
 | .nil,_,_=>trivial
 | .leaf _ (.code _),h,_=>h
 | .leaf _ (.nT ..),_,h=>h.1
 | .leaf _ (.LD ..),_,h=>h.1
 | .node _ _ _,h,e=>have h:=Bool.and_eq_true_iff.mp h;⟨Sx h.1 e.app.1,Sx h.2 e.app.2⟩
end Go.Vm
/- The logical machine's code of a function, reckoned from the model's own (what it comes to is looked at by chkFunc; nothing is proved of it here). -/
namespace Go.Vm
structure Hint where
 md:FuncId->CM
 ig:List Nat
 anL:List (Nat×List (Nat×Nat)):=[]
 more:List (Nat×List (Nat×Option Nat)):=[]
 tb:Bool:=adw
section
variable (P : Program)
def UO(t:TypeId):Nat:=match P.info? t with
 |some i=>i.size
 |none=>0
def Sy(t:TypeId):Option Nat:=match P.underlying t with
 |some (.struct _)|some (.array _ _)=>adc (UO P t)
 |_=>ado
def xE:Nat->TypeId->List PV
 |0,_=>[]
 |n+1,t=>match P.underlying t with
  |some (.int k)=>[.int k 0]
  |some .bool=>[.bool adw]
  |some .string=>[.str .empty]
  |some (.slice e)=>[.sl (UO P e) adu []]
  |some (.struct fs)=>fs.toList.flatMap λf=>xE n f.type
  |some (.array m e)=>(abE m (xE n e)).flatten
  |some (.func ..)=>[.fv]
  |_=>[.undef]
def aet(t:TypeId):PV:=match xE P 9 t with
 |x::_=>x
 | []=> .sl 0 adu []
def aeu(t:TypeId):PV:=match Sy P t with
 |some _=> .agg (xE P 9 t)
 |none=>aet P t
def aev(z:PV):Value->PV
 | .int k n=> .int k n
 | .bool b=> .bool b
 | .string s=> .str s
 | .slice .. =>z
 | .nilFunc=> .fv
 |_=> .undef
def aew:List PV->List Value->List PV
 |z::zs,v::vs=>aev z v::aew zs vs
 |_,_=>[]
def anM(t:TypeId):Value->PV
 | .agg vs=> .agg (aew (xE P 9 t) vs.toList)
 |v=>aev (aet P t) v
def wa(t:TypeId):Operand->ib
 | .tmp n=> .t n
 | .const v=> .c (anM P t v)
 | .func f=> .c (.fE f [] [])
 | .global _=> .c .undef
def YN:List TypeId->List Operand->List ib
 |t::ts,o::os=>wa P t o::YN ts os
 |_,_=>[]
def jw:Operand->ib
 | .tmp n=> .t n
 | .const (.int k n)=> .c (.int k n)
 | .const (.bool b)=> .c (.bool b)
 | .const (.string s)=> .c (.str s)
 | .func f=> .c (.fE f [] [])
 |_=> .c .undef
def zX(t:TypeId):TypeId:=match P.underlying t with
 |some (.slice e)=>e
 |some (.array _ e)=>e
 |_=>0
def YO(place:Nat->Option (Nat×Nat))(ty:Nat->TypeId):List (Nat×Operand)->List (Nat×Nat×ib)
 | []=>[]
 |(i,o)::r=>match place i with
  |some (a,b)=>(a,b,wa P (ty i) o)::YO place ty r
  |none=>[]
def YP(t:TypeId)(i:Nat):TypeId:=match P.underlying t with
 |some (.struct fs)=>match fs[i]? with
  |some f=>f.type
  |none=>0
 |some (.array _ e)=>e
 |_=>0
def ai6(t:TypeId)(i:Nat):Nat:=match P.underlying t with
 |some (.struct fs)=>match fs[i]? with
  |some f=>f.offset
  |none=>0
 |_=>0
def aex:BinOp->Bool
 | .neq=>adu
 |_=>adw
def YQ(b:Builtin)(args:List Operand)(ts:List TypeId):oK:=
 match b,args,ts with
 | .len,x::_,t::_=>match P.underlying t with
  |some (.slice _)|some (.map _ _)=> .len (wa P t x)
  |some (.array m _)=> .Sa m
  |some (.pointer e)=>match P.underlying e with
   |some (.array m _)=> .Sa m
   |_=> .bad
  |_=> .bad
 | .append,[x,y],[t,u]=>match P.underlying u with
  |some (.slice _)=> .append (UO P (zX P t)) (wa P t x) (wa P u y)
  |_=> .bad
 | .copy,[x,y],[t,u]=>match P.underlying u with
  |some (.slice _)=> .copy (UO P (zX P t)) (wa P t x) (wa P u y)
  |_=> .bad
 | .clear,[x],[t]=>match P.underlying t with
  |some (.slice e)=> .clear (UO P e) (xE P 9 e) (wa P t x)
  |_=> .bad
 | .min,x::xs,_=> .mm adw (jw x) (xs.map jw)
 | .max,x::xs,_=> .mm adu (jw x) (xs.map jw)
 |_,_,_=> .bad
def cOp(tb:Bool)(md:FuncId->CM)(ty:TypeId):Op->oK
 | .move x| .assign x=> .XL (wa P ty x)
 | .pick c a b=> .pick (jw c) (wa P ty a) (wa P ty b)
 | .binOp op t x y _=>match P.underlying t with
  |some (.int _)=> .bin op (jw x) (jw y)
  |some .bool=> .Pu (aex op) (jw x) (jw y)
  |some (.struct _)|some (.array _ _)=> .eqc (UO P t) (aex op) (wa P t x) (wa P t y)
  |_=> .bad
 | .unOp op _ x=> .un op (jw x)
 | .convert _ t x=>match P.underlying t with
  |some (.int k)=> .conv k (jw x)
  |_=> .bad
 | .box t x=> .box (wa P t x)
 | .alloc t=> .alloc (xE P 9 t)
 | .build t ps=> .build (xE P 9 t) (YO P (placeOf P t) (YP P t) ps.toList)
 | .buildSlice t n ps=>match P.underlying (zX P t),n,ps.toList with
  |some (.slice _),2,[(0,a),(1,b)]=> .HL (wa P (zX P t) a) (wa P (zX P t) b)
  |_,_,_=>if(xE P 9 (zX P t)).all PV.plain then .Fh (UO P (zX P t)) n (xE P 9 (zX P t)) (ps.toList.map λp=>(p.1,wa P (zX P t) p.2))else .B8 (UO P (zX P t)) (ps.toList.map λp=>wa P (zX P t) p.2)
 | .load t a=> .load (Sy P t) (jw a)
 | .store t a v=> .store (UO P t) (jw a) (wa P t v)
 | .nilCheck x=> .Pv (jw x)
 | .fieldAddr t a f=> .Pw (ai6 P t f) (jw a)
 | .field t a f=> .dI (Sy P (YP P t f)) (ai6 P t f) (jw a)
 | .indexAddr t a j=>match P.underlying t with
  |some (.slice e)=> .Px (UO P e) (wa P t a) (jw j)
  |some (.array m e)=> .HM m (UO P e) (jw a) (jw j)
  |_=> .bad
 | .index t a j=>match P.underlying t with
  |some (.array m e)=> .idx m (UO P e) (Sy P e) (wa P t a) (jw j)
  |some .string=> .Py (jw a) (jw j)
  |_=> .bad
 | .slice t a b c d=>match P.underlying t with
  |some (.slice e)=> .VL (UO P e) (wa P t a) (b.map jw) (c.map jw) (d.map jw)
  |_=> .bad
 | .makeSlice t a b=> .mks (UO P (zX P t)) (xE P 9 (zX P t)) (jw a) (jw b)
 | .makeFunc (.func g) c d=> .mkf g (c.toList.map jw) (d.toList.map jw)
 | .makeMap t _=> .mkm (bif tb then(match P.underlying t with
  |some (.map _ e)=>adc (aeu P e)
  |_=>ado)else ado)
 | .extract a j=> .ext j (jw a)
 | .lookup t a b ok=>match P.underlying t with
  |some (.map k e)=> .lookup (Sy P k) (aeu P e) ok (jw a) (wa P k b)
  |_=> .bad
 | .mapUpdate t a b c| .insert t a b c=>match P.underlying t with
  |some (.map k e)=> .Nx (Sy P k) (jw a) (wa P k b) (wa P e c)
  |_=> .bad
 | .call c=>match c.callee with
  | .builtin b=>YQ P b c.args.toList c.argTypes.toList
  | .value (.func f)=> .call (md f) f (YN P c.argTypes.toList c.args.toList)
  | .value x=> .BJ (jw x) (YN P c.argTypes.toList c.args.toList)
  |_=> .bad
 |_=> .bad
def ai7(tb:Bool)(md:FuncId->CM)(ops:Array Oper)(o:Oper):cI:=
 ⟨o.dst,cOp P tb md o.type o.op,match o.guard with
  |some (i,b)=>match ops[i]? with
   |some q=>match q.dst with
    |some d=>adc (d,b)
    |none=>ado
   |none=>ado
  |none=>ado⟩
def YR:List Nat->List Oper->List Nat
 |acc,[]=>acc
 |acc,o::os=>YR (acc++[(qY acc (ad7 acc) o.after.toList).getD 0]) os
def bitsOf:Nat->Nat->Nat->List Nat
 |0,_,_=>[]
 |n+1,i,m=>bif If m 0 then []else bif If (Nat.mod m 2) 1 then i::bitsOf n (i+1) (Nat.div m 2)else bitsOf n (i+1) (Nat.div m 2)
def YS(l:List (Nat×Nat))(x:Nat):Nat×Option Nat:=match l with
 | []=>(x,ado)
 |(t,k)::r=>bif If t x then(x,adc k)else YS r x
def YT{α:Type}(n:Nat):List (Nat×List α)->List α
 | []=>[]
 |(m,l)::r=>bif If m n then l else YT n r
def hd(l:List Nat):Nat:=match l with
 |x::_=>x
 | []=>0
structure CSt where
 ks:List Nat
 n:Nat
def JQ(H:Hint):Code->CSt->mu×CSt
 | .region _ ops dr,s=>(.region (match dr with|true=>adc (YR [] ops.toList)|false=>ado) (ops.toList.map (ai7 P H.tb H.md ops)) (bitsOf 1000 0 (hd s.ks)),⟨s.ks.tail,s.n⟩)
 | .seq a b,s=>match JQ H a s with
  |(x,s1)=>match JQ H b s1 with
   |(y,s2)=>(.seq x y,s2)
 | .cond c a b,s=>match JQ H a s with
  |(x,s1)=>match JQ H b s1 with
   |(y,s2)=>(.cond (jw c) x y,s2)
 | .block id b,s=>match JQ H b s with
  |(x,s1)=>(.block id x,s1)
 | .loop b,s=>match JQ H b ⟨s.ks.tail,s.n+1⟩with
  |(x,s1)=>(.loop ((bitsOf 1000 0 (hd s.ks)).map (YS (YT s.n H.anL))++YT s.n H.more) x,s1)
 | .exit id,s=>(.exit id,s)
 | .ret,s=>(.ret,s)
 |_,s=>(.skip,s)
def anN:ResultVar->RV
 | .tmp t=> .tmp t
 | .cell t ty=> .cell t (Sy P ty)
def ab9(fn:Func)(H:Hint):ax:=
 ⟨fn.params.size+fn.nfree,match fn.body with
  |some c=>(JQ P H c ⟨H.ig,0⟩).1
  |none=> .skip,fn.results.toList.map (anN P)⟩
def anO(ow sh fp:List Nat)(f:FuncId):CM:=bif has ow f then .own else bif has sh f then .shr else bif has fp f then .fp else .pur
end
end Go.Vm
/- A law's row from what the logical machine answers: the result is adu, nothing that was there has turned. -/
namespace Go.Vm
open Go.ChangeShapes Go.WideShapes Go.ChangeAt Go.RowKit
section
variable {H : Type} {enc : TypeId × Value -> H} {P : Program}
theorem D9(hl:laidOutB P=adu){W W':World}(hb:Below W.heap.size W W'): ∀{ts:List TypeId} {vs:List Value} {ds:List (DataW H)} {ps:List MemPlace},(∀t∈ts,P.readableRec t=adu/\t<P.types.size)->
 DataW.TrodAll enc P W 0 (λ_=>adu) adu ts vs ds ps->(∀x∈ps,x.block<W.heap.size)->DataW.TrodAll enc P W' 0 (λb=>decide (b<W.heap.size)) adu ts vs ds ps
 | [],vs,ds,ps,_,h,_=>by obtain⟨rfl,rfl,rfl⟩:=trodAll_nil h;rfl
 |t::ts,vs,ds,ps,ht,h,iL=>by obtain⟨v,RZ,d,EB,p,q,rfl,rfl,rfl,h1,h2⟩:=trodAll_cons h;obtain⟨h3,h4⟩:=ht t (by simp);exact trodAll_cons_mk (Below.trod hl h3 h4 h1 hb λx hx=>iL x (by simp[hx])) (D9 hl hb (λt' YE=>ht t' (by simp[YE])) h2 λx hx=>iL x (by simp[hx]))
theorem YU(hl:laidOutB P=adu){f:Func}{s:ChangeSpec}{W W':World}{args:Array Value}{ds:List (DataW H)}{before:List MemPlace}{bt:TypeId}(ai8:s.vars=[])(FA:f.resultTypes= #[bt])(hbt:P.underlying bt=adc .bool)
 (hp: ∀t∈f.params.toList,P.readableRec t=adu/\t<P.types.size) (hW:DataW.Whole enc P f.params.toList s.vars adw W args.toList ds [] before)
 (hfn:s.fn H (ds++[])={results:=[.lit (.bool adu)],args:=ds}) (hb:Below W.heap.size W W'):s.post enc P f adw adu adw adw W args (.bool adu) W':=by
 have hW':=hW;obtain⟨p,q,hA,hV,rfl,X9,LN⟩:=hW;have iL:=λx hx=>by simpa using hW'.lt x hx
 refine⟨ds,[],p++q,[],p,[],hW',?_,?_,?_,hb.frame _,λh=>by cases h⟩
 ·rw[hfn,FA]
  exact trodAll_mk1 (shut_bool hbt adu)
 ·grind[D9]
 rw[hfn,ai8]
 rfl
end
def N9(w:World):Im:=λb=>w.heap[b]?
theorem Wk{w:World}{b o:Nat}{v:Value}(h:w.cell? ⟨b,o,ado⟩=adc v):tV (N9 w) b o=adc v:=by
 assumption
theorem Wl{P:Program}{F:qo}{prims:FuncId->Bool}(hT:Qb P prims F)(Fq:Dl P F)(vD:P.follows .mixedOrders=adu){f:FuncId}{args:List PV}{s:di}{z:List Nat}{n:Nat}{us:List Value}{w:World}
 (h:run F n (.func f args [] [])=adc (.func (.bool adu) s z)) (Dj:gz (N9 w) je args us):Calls P f ⟨us⟩ w λe w'=>e= .returned (.bool adu)/\Below w.heap.size w w':=by
 refine(We hT Fq vD h (λb o h=>h) Dj).mono λe w' ⟨u,he,⟨fP,bE,tL,_⟩,h1,h2,h3,h4,h5⟩=>?_
 obtain rfl:=tL.mP;exact⟨he,⟨h1,h2.eq,h3,h4,h5⟩⟩
end Go.Vm
/- Regions of one order, step by step, for contracts. -/
namespace Go.Vm
def GZ:oK->Bool
 | .call .. | .BJ .. =>adu
 |_=>adw
variable {F : qo}
def WS(F:qo)(ops:List cI)(st:St)(Q:St->Prop):Prop:= ∀tr,WO F ops st tr (λs _=>Q s)
def Oa(st:St)(o:cI):Option St:=
 match wanted o.guard st.env with
 |some adu=>match bO st.env st.aB st.fz o.op with
  |some x=>if(XR.loc x).ok st.fz then adc ((XR.loc x).next o.dst st)else ado
  |none=>ado
 |some adw=>adc {st with env:=lf o.dst .nD st.env}
 |none=>ado
theorem Od{rec:Task->Option Out}{e:Env}{aB:di}{fz:List Nat}{op:oK}(h:GZ op=adw):
 BV F rec e aB fz op=(bO e aB fz op).map .loc:=by
 cases op<;>first|rfl|cases h
theorem WS.nil{st:St}{Q:St->Prop}(h:Q st):WS F [] st Q:=λ_=>WO.nil h
theorem WS.cons{o:cI}{r:List cI}{st oh:St}{Q:St->Prop}(h:GZ o.op=adw)(hs:Oa st o=adc oh)(k:WS F r oh Q):WS F (o::r) st Q:=by
 intro tr;unfold Oa at hs;split at hs
 ·rename_i hw
  split at hs
  ·rename_i x hx
   split at hs
   ·rename_i nE
    injection hs with hs;subst hs;exact WO.op x hw (λrec=>by rw[Od h,hx];rfl) nE (k _)
   cases hs
  cases hs
 ·rename_i hw
  injection hs with hs;subst hs;exact WO.skip hw (k _)
 cases hs
theorem WS.one{o:cI}{r:List cI}{st:St}{Q:St->Prop}(x:rQ)(hc:GZ o.op=adw)(hw:wanted o.guard st.env=adc adu)(hx:bO st.env st.aB st.fz o.op=adc x)(nE:(XR.loc x).ok st.fz=adu)
 (k:WS F r ((XR.loc x).next o.dst st) Q):WS F (o::r) st Q:=λtr=>
 WO.op x hw (λrec=>by rw[Od hc,hx];rfl) nE (k _)
def IZ:List cI->St->Option St
 | [],st=>adc st
 |o::r,st=>match GZ o.op with
  |true=>ado
  |false=>match Oa st o with
   |some oh=>IZ r oh
   |none=>ado
theorem WS.all: ∀{ops:List cI} {st oh:St} {Q:St->Prop},IZ ops st=adc oh->Q oh->WS F ops st Q
 | [],st,oh,Q,h,hq=>by simp[IZ,PP]at h;subst h;exact WS.nil hq
 |o::r,st,oh,Q,h,hq=>by
  simp[IZ]at h;cases hc:GZ o.op with
  |true=>grind
  |false=>
   rw[hc]at h;cases hs:Oa st o with
   |none=>grind
   |some s1=>rw[hs]at h;exact WS.cons hc hs (WS.all h hq)
theorem WS.pure{d:Option Nat}{g:Option (Nat×Bool)}{f:FuncId}{as:List ib}{r:List cI}{st:St}{Q:St->Prop}
 {args:List PV} {v:PV} (h:Pure F f args v) (hw:wanted g st.env=adc adu) (ha:GF st.aB (B9 st.aB deep) (LF st.env as)=adc args)
 (k:WS F r {st with env:=lf d v st.env} Q):WS F (⟨d,.call .pur f as,g⟩::r) st Q:=λtr=>by
 refine WO.pure h hw ha ?_;have:=k (XR.tr (ad7 st.aB) (.loc {v,rd:=fb (gN st.aB deep) (LF st.env as)})::tr)
 assumption
theorem WS.shr{d:Option Nat}{g:Option (Nat×Bool)}{f:FuncId}{as:List ib}{r:List cI}{st:St}{Q:St->Prop}
 (hw:wanted g st.env=adc adu) (h:Ep F f (LF st.env as) st.aB st.fz λv s z=>(abu (ad7 st.aB) (ad7 s)&&st.fz.all (has z))=adu/\WS F r {st with env:=lf d v st.env,aB:=s,fz:=z} Q):
 WS F (⟨d,.call .shr f as,g⟩::r) st Q:=λtr=>by
 obtain⟨n,v,s,z,hr,hc,hk⟩:=h;refine WO.call (.shr v s z) hw ⟨n,?_⟩ rfl (hk _);simp only[BV,iQ,hr];rw[AC hc]
end Go.Vm
/- Plain terms for what a function computes: loops, elements of lists, numbers; and the machine's loop over a plain one. -/
namespace Go.Vm
inductive Step(σ ρ:Type) where
 |next(s:σ)
 |done(r:ρ)
section
variable {σ ρ : Type}
def sf(body:σ->Option (Step σ ρ)):Nat->σ->Option ρ
 |0,_=>ado
 |n+1,x=>match body x with
  |some (.next y)=>sf body n y
  |some (.done r)=>adc r
  |none=>ado
open Classical in
noncomputable def Sz(body:σ->Option (Step σ ρ))(x:σ):Option ρ:=
 if h: ∃n r,sf body n x=adc r then sf body h.choose x else ado
theorem EC{body:σ->Option (Step σ ρ)}: ∀{n:Nat} {x:σ} {r:ρ},sf body n x=adc r-> ∀k,sf body (n+k) x=adc r
 |0,x,r,h,_=>by cases h
 |n+1,x,r,h,k=>by
  rw[show n+1+k=(n+k)+1 by omega];simp[sf]at h ⊢;split at h
  ·exact EC h k
  ·exact h
  cases h
theorem Wm{body:σ->Option (Step σ ρ)}{n m:Nat}{x:σ}{r s:ρ}(h:sf body n x=adc r)(k:sf body m x=adc s):r=s:=by
 have h1:=EC h m;have h2:=EC k n
 grind
theorem HY{body:σ->Option (Step σ ρ)}{x:σ}{r:ρ}:Sz body x=adc r↔ ∃n,sf body n x=adc r:=by
 unfold Sz;constructor
 ·intro h
  split at h
  ·exact⟨_,h⟩
  cases h
 rintro⟨n,hn⟩
 have hex: ∃n r,sf body n x=adc r:=⟨n,r,hn⟩
 grind[Wm]
end
noncomputable def UP{σ ρ:Type}(b:Option Nat)(body:σ->Option (Step σ ρ))(x:σ):Option ρ:=
 match b with
 |none=>Sz body x
 |some N=>sf body N x
theorem Qh{σ ρ:Type}{b:Option Nat}{body:σ->Option (Step σ ρ)}{x:σ}{r:ρ}(h:UP b body x=adc r): ∃n,sf body n x=adc r:=by
 cases b with
 |none=>exact HY.1 h
 |some N=>exact⟨_,h⟩
class LP where
 w:Option Nat
abbrev LP.of(n:Nat):LP:=⟨adc n⟩
noncomputable def aq[LP]{σ ρ:Type}(body:σ->Option (Step σ ρ))(x:σ):Option ρ:=UP LP.w body x
def mT[LP]:Option Nat:=LP.w
theorem ai9{α β:Type}{x:Option α}{f:α->Option β}{r:β}(h:x.bind f=adc r): ∃a,x=adc a/\f a=adc r:=by
 cases x with
 |none=>cases h
 |some a=>grind
def aey{α ρ:Type}(x:Option α)(f:α->Option ρ):Option ρ:=x.bind f
def aez{ρ:Type}(c:Bool)(a b:Option ρ):Option ρ:=cond c a b
theorem SA{α ρ:Type}{x:Option α}{f:α->Option ρ}{y:ρ}(h:aey x f=adc y): ∃a,x=adc a/\f a=adc y:=ai9 h
theorem SC{ρ:Type}{c:Bool}{a b:Option ρ}{y:ρ}(h:aez c a b=adc y):(c=adu/\a=adc y)\/(c=adw/\b=adc y):=by
 cases c
 ·exact .inr ⟨rfl,h⟩
 exact .inl ⟨rfl,h⟩
def aF{α:Type}(l:List α)(i:Int):Option α:=
 match i with
 | .ofNat n=>l[n]?
 | .negSucc _=>ado
def cQ{α:Type}(l:List α)(i:Int)(a:α):List α:=l.set i.toNat a
theorem q8{α:Type}{l:List α}{i:Int}{a:α}(h:aF l i=adc a): ∃n:Nat,i=acI n/\l[n]? =adc a:=by
 unfold aF at h;split at h
 ·grind
 cases h
@[simp] theorem Cs{α:Type}(l:List α)(i:Int)(a:α):(cQ l i a).length=(ad7 l):=by simp[cQ]
def ba{α:Type}(l:List α)(m:List α):Option (List α):=if(ad7 l)+ad7 m<=1048576 then adc (l++m)else ado
def oE{α:Type}(n:Int)(z:α):Option (List α):=if 0<=n/\n<=1048576 then adc (abE n.toNat z)else ado
def jE{α:Type}(l:List α)(lo hi:Int):Option (List α):=if 0<=lo/\lo<=hi/\hi<=(ad7 l)then adc ((l.drop lo.toNat).take (hi.toNat-lo.toNat))else ado
def cN{α:Type}(l:List α):Option (List α):=if(ad7 l)<=1048576 then adc l else ado
def Wn{α:Type}(l m:List α):Option (List α):=if 1<=ad7 l+ad7 m/\ad7 l+ad7 m<=1048576 then adc (l++m)else ado
def Dr{α:Type}(l:List α)(i:Int)(m:List α):Option (List α):=if 0<=i/\i.toNat<=ad7 l/\ad7 m=1/\ad7 l+1<=1048576 then adc (l.take i.toNat++m++l.drop i.toNat)else ado
def HZ{α:Type}(f:List α->Option (List α))(l:List α):Option (List α):=
 if(ad7 l)<=1048576 then(match f l with
 |some m=>if(ad7 m)=(ad7 l)then adc m else ado
 |none=>ado)else ado
def Ds{α:Type}(f:List α->Option (List α))(n:Nat)(l:List α):Option (List α):=if n<=(ad7 l)then(HZ f (l.take n)).map (· ++l.drop n)else ado
def SD(a:Int):List Int->List Int
 | []=>[a]
 |b::r=>bif ae0 (a<=b)then a::b::r else b::SD a r
def q9:List Int->List Int
 | []=>[]
 |a::r=>SD a (q9 r)
def Of(l:List Int):Option (List Int):=adc (q9 l)
def rJ(k:IntKind)(a b:Int):Int:=k.wrap (BitVec.ofInt k.bits a&&&BitVec.ofInt k.bits b).toNat
def bOr(k:IntKind)(a b:Int):Int:=k.wrap (BitVec.ofInt k.bits a|||BitVec.ofInt k.bits b).toNat
def anP(k:IntKind)(a b:Int):Int:=k.wrap (BitVec.ofInt k.bits a^^^BitVec.ofInt k.bits b).toNat
def ab'(k:IntKind)(a b:Int):Int:=k.wrap (BitVec.ofInt k.bits a&&& ~~~ BitVec.ofInt k.bits b).toNat
def anQ(k:IntKind)(a b:Int):Int:=k.wrap (a*2^(min b.toNat k.bits))
def fQ(k:IntKind)(a b:Int):Int:=a.fdiv (2^(min b.toNat k.bits))
def wE(s:ByteArray)(i:Int):Option Int:=
 match i with
 | .ofNat n=>s[n]?.map λb=>(b.toNat:Int)
 | .negSucc _=>ado
def IE(l:List (List Int))(k:List Int):Bool:=l.any λm=>k==m
def YV(l:List (List Int))(k:List Int):List (List Int):=bif IE l k then l else l++[k]
def sg(a:List Int)(l:List (List Int)):Bool:=l.all λb=>If (ad7 b) (ad7 a)
def Qi(l:List (List Int))(k:List Int):Option Bool:=bif sg k l then adc (IE l k)else ado
def Qj(l:List (List Int))(k:List Int):Option (List (List Int)):=bif sg k l then adc (YV l k)else ado
def j8{α:Type}(z:α):List (Int×α)->Int->α
 | [],_=>z
 |p::r,k=>bif k==p.1 then p.2 else j8 z r k
def mz{α:Type}:List (Int×α)->Int->α->List (Int×α)
 | [],k,a=>[(k,a)]
 |p::r,k,a=>bif k==p.1 then(k,a)::r else p::mz r k a
section
variable {F : qo}
end
end Go.Vm
/- A logical machine over typed values: it turns a function's code into a plain term. What it computes is tied to the logical machine in SvRun. -/
namespace Go.Vm
inductive PT where
 |i(k:IntKind)
 |b
@[reducible] def PT.T : PT -> Type
  | .i _ => Int
  | .b => Bool
@[reducible] def RT : List PT -> Type
  | [] => Unit
  | [p] => p.T
  | p :: q :: r => p.T × RT (q :: r)
inductive SV where
 |jX
 |undef
 |nD
 |fv
 |int(k:IntKind)(n:Int)
 |bool(b:Bool)
 |str(s:ByteArray)
 |agg(cs:List SV)
 |cV(cs:List SV)
 |sl(r:List PT)(l:List (RT r))
 |nil(e:Nat)(c:Bool)
 |own(t:Nat)(ex:Bool)
 |pre(t len cap:Nat)(ex:Bool)
 |part(t off len cap:Nat)(ex:Bool)
 |pa(t:Nat)(r:List PT)(i:Int)(a:RT r)(off:Nat)
 |pb(t:Nat)(i:Int)(off:Nat)
 |bp(t n off:Nat)
 |bs(t e n:Nat)(ex:Bool)
 |bq(t e r off:Nat)
 |bZ(cs:List SV)(off:Nat)
 |fE(f:FuncId)(a b:List SV)
 |mp(t:Nat)
inductive SB where
 |arr(r:List PT)(l:List (RT r))
 |box(cs:List SV)
 |set(l:List (List Int))
 |mI(p:PT)(l:List (RT [.i .i64,p]))
 |dead
abbrev SE:=List (Nat×SV)
structure ua where
 env:SE
 aB:List SB
 fz:List Nat
 kn:Nat
structure Rows where
 r:List PT
 l:List (RT r)
def PT.same:PT->PT->Bool
 | .i k,.i l=>hO k l
 | .b,.b=>adu
 |_,_=>adw
def FD:List PT->List PT->Bool
 | [],[]=>adu
 |p::r,q::s=>p.same q&&FD r s
 |_,_=>adw
theorem PT.aca: ∀{p q:PT},p.same q=adu->p=q
 | .i k,.i l,h=>by rw[gO.1 h]
 | .b,.b,_=>rfl
 | .i _,.b,h=>by cases h
 | .b,.i _,h=>by cases h
theorem Ct: ∀{r s:List PT},FD r s=adu->r=s
 | [],[],_=>rfl
 |p::r,q::s,h=>by simp[FD,]at h;rw[PT.aca h.1,Ct h.2]
 | [],_::_,h=>by cases h
 |_::_,[],h=>by cases h
def xF(r q:List PT)(l:List (RT r)):Option (List (RT q)):=if h:FD r q=adu then adc (Ct h▸l)else ado
def PT.pv:(p:PT)->p.T->PV
 | .i k,n=> .int k n
 | .b,x=> .bool x
def RT.pv:(r:List PT)->RT r->List PV
 | [],_=>[]
 | [p],a=>[p.pv a]
 |p::q::r,a=>p.pv a.1::RT.pv (q::r) a.2
def PT.sv:(p:PT)->p.T->SV
 | .i k,n=> .int k n
 | .b,x=> .bool x
def RT.sv:(r:List PT)->RT r->List SV
 | [],_=>[]
 | [p],a=>[p.sv a]
 |p::q::r,a=>p.sv a.1::RT.sv (q::r) a.2
def PT.of:(p:PT)->SV->Option p.T
 | .i k,.int l n=>bif hO l k then adc n else ado
 | .b,.bool x=>adc x
 |_,_=>ado
def RT.of:(r:List PT)->List SV->Option (RT r)
 | [],[]=>adc ()
 | [p],[v]=>p.of v
 |p::q::r,v::vs=>match p.of v,RT.of (q::r) vs with
  |some a,adc b=>adc (a,b)
  |_,_=>ado
 |_,_=>ado
def PT.zero:(p:PT)->p.T
 | .i _=>(0:Int)
 | .b=>adw
def RT.zero:(r:List PT)->RT r
 | []=>()
 | [p]=>p.zero
 |p::q::r=>(p.zero,RT.zero (q::r))
def bC:PV->Option PT
 | .int k n=>match n with
  | .ofNat 0=>adc (.i k)
  |_=>ado
 | .bool b=>match b with
  |false=>adc .b
  |true=>ado
 |_=>ado
def JR:List PV->Option (List PT)
 | []=>adc []
 |v::vs=>match bC v,JR vs with
  |some p,adc r=>adc (p::r)
  |_,_=>ado
def nth{α:Type}:List α->Nat->Option α
 | [],_=>ado
 |x::_,0=>adc x
 |_::r,n+1=>nth r n
theorem cT{α:Type}: ∀(l:List α) (n:Nat),nth l n=l[n]?
 | [],n=>by simp[nth]
 |x::r,0=>by simp[nth]
 |x::r,n+1=>by simp[nth,cT r n]
def H3(t:Nat):SE->SV
 | []=> .undef
 |(s,v)::r=>bif If s t then v else H3 t r
def ED(t:Nat)(v:SV):SE->SE
 | []=>[]
 |(s,x)::r=>bif If s t then(s,v)::r else(s,x)::ED t v r
mutual
def acb:PV->SV
 | .undef=> .undef
 | .nD=> .nD
 | .fv=> .fv
 | .int k n=> .int k n
 | .bool b=> .bool b
 | .str s=> .str s
 | .agg cs=> .agg (H4 cs)
 | .cV cs=> .cV (H4 cs)
 | .sl e c rows=>match rows with
  | []=> .nil e c
  |_=> .jX
 | .fE f a b=> .fE f (H4 a) (H4 b)
 |_=> .jX
def H4:List PV->List SV
 | []=>[]
 |x::xs=>acb x::H4 xs
end
def cH(e:SE):ib->SV
 | .t n=>H3 n e
 | .c v=>acb v
def mU(e:SE):List ib->List SV
 | []=>[]
 |x::xs=>cH e x::mU e xs
def SV.wz:SV->Bool
 | .jX| .undef| .nD| .agg _| .cV _=>adw
 |_=>adu
def Cu:List SV->Bool
 | []=>adu
 |x::xs=>x.wz&&Cu xs
def SV.cells:SV->List SV
 | .agg cs=>cs
 |v=>[v]
def SV.stored(v:SV):Option (List SV):=bif Cu v.cells then adc v.cells else ado
def BQ(agg:Option Nat)(off:Nat)(cs:List SV):Option SV:=
 match agg with
 |some s=>bif abu (off+s) (ad7 cs)then adc (.agg ((cs.drop off).take s))else ado
 |none=>nth cs off
def wO(off:Nat)(new old:List SV):List SV:=old.take off++new++old.drop (off+ad7 new)
def D'(s:List SB):SV->Option Rows
 | .sl r l=>adc ⟨r,l⟩
 | .own t _=>match nth s t with
  |some (.arr r l)=>adc ⟨r,l⟩
  |_=>ado
 | .pre t len _ _=>match nth s t with
  |some (.arr r l)=>adc ⟨r,l.take len⟩
  |_=>ado
 | .part t off len _ _=>match nth s t with
  |some (.arr r l)=>adc ⟨r,(l.drop off).take len⟩
  |_=>ado
 |_=>ado
def IF:SV->List Nat
 | .own t _=>[t]
 | .pre t _ _ _=>[t]
 | .part t _ _ _ _=>[t]
 |_=>[]
structure iR where
 v:SV
 news:List SB:=[]
 wr:List (Nat×SB):=[]
 rd:List Nat:=[]
 fr:List Nat:=[]
def js(R:Type):= ∀ρ:Type,(R->ρ)->Option ρ
section
variable {R : Type}
def H5(b:R):js R:=λ_ w=>adc (w b)
def aU:js R:=λ_ _=>ado
def oF{α:Type}(x:Option α)(f:α->js R):js R:=λρ w=>aey x λa=>f a ρ w
def jx(c:Bool)(a b:js R):js R:=λρ w=>aez c (a ρ w) (b ρ w)
def acd(v:SV)(k:SV->js R):js R:=
 match v with
 | .jX=>k .jX
 | .undef=>k .undef
 | .nD=>k .nD
 | .fv=>k .fv
 | .int a b=>k (.int a b)
 | .bool a=>k (.bool a)
 | .str a=>k (.str a)
 | .agg a=>k (.agg a)
 | .cV a=>k (.cV a)
 | .sl a b=>k (.sl a b)
 | .nil a b=>k (.nil a b)
 | .own a b=>k (.own a b)
 | .pre a b c d=>k (.pre a b c d)
 | .part a b c d x=>k (.part a b c d x)
 | .pa a b c d e=>k (.pa a b c d e)
 | .pb a b c=>k (.pb a b c)
 | .bp a b c=>k (.bp a b c)
 | .bs a b c d=>k (.bs a b c d)
 | .bq a b c d=>k (.bq a b c d)
 | .bZ a b=>k (.bZ a b)
 | .fE a b c=>k (.fE a b c)
 | .mp a=>k (.mp a)
theorem Og(v:SV)(k:SV->js R):acd v k=k v:=by cases v<;>rfl
def SF(op:BinOp)(k:IntKind)(a b:Int)(c:SV->js R):js R:=
 match op with
 | .add=>c (.int k (aa k (a+b)))
 | .sub=>c (.int k (aa k (a-b)))
 | .mul=>c (.int k (aa k (a*b)))
 | .quo=>jx (b==0) aU (c (.int k (aa k (Int.tdiv a b))))
 | .rem=>jx (b==0) aU (c (.int k (Int.tmod a b)))
 | .and=>c (.int k (rJ k a b))
 | .or=>c (.int k (bOr k a b))
 | .xor=>c (.int k (anP k a b))
 | .andNot=>c (.int k (ab' k a b))
 | .eql=>c (.bool (a==b))
 | .neq=>c (.bool (a !=b))
 | .lss=>c (.bool (ae0 (a<b)))
 | .leq=>c (.bool (ae0 (a<=b)))
 | .gtr=>c (.bool (ae0 (b<a)))
 | .geq=>c (.bool (ae0 (b<=a)))
 | .shl| .shr=>aU
def eqS:List SV->List SV->Option Bool
 | [],[]=>adc adu
 |x::xs,y::ys=>match x,y with
  | .int k a,.int l b=>bif hO k l then(match xs with
   | []=>(match ys with| []=>adc (a==b)|_=>ado)
   |_::_=>match eqS xs ys with
    |some r=>adc (a==b&&r)
    |none=>ado)else ado
  |_,_=>ado
 |_,_=>ado
def AR:List (Nat×Nat×SV)->List SV->Option (List SV)
 | [],cs=>adc cs
 |(off,sz,v)::r,cs=>match v.stored with
  |some w=>bif If (ad7 w) sz&&abu (off+sz) (ad7 cs)then AR r (wO off w cs)else ado
  |none=>ado
def Cv(e:SE):List (Nat×Nat×ib)->List (Nat×Nat×SV)
 | []=>[]
 |p::r=>(p.1,p.2.1,cH e p.2.2)::Cv e r
def UQ(r:List PT)(e:SE)(n:Nat):List (Nat×ib)->Option (List (Nat×RT r))
 | []=>adc []
 |p::ps=>match RT.of r (cH e p.2).cells,UQ r e n ps with
  |some a,adc l=>bif abF p.1 n then adc ((p.1,a)::l)else ado
  |_,_=>ado
def rowAt{α:Type}(i:Nat):α->List (Nat×α)->α
 |z,[]=>z
 |z,(j,a)::r=>rowAt i (bif If j i then a else z) r
def SG{α:Type}(f:Nat->α):Nat->Nat->List α
 |_,0=>[]
 |i,n+1=>f i::SG f (i+1) n
def G0(e:SE)(d:Int):Option ib->Option Int
 |none=>adc d
 |some x=>match cH e x with
  | .int _ n=>adc n
  |_=>ado
def mmS(rO:Bool)(k:IntKind):Int->List SV->Option SV
 |a,[]=>adc (.int k a)
 |a,x::r=>match x with
  | .int l b=>bif hO k l then mmS rO k (bif rO then(if b>a then b else a)else(if b<a then b else a)) r else ado
  |_=>ado
def UR:List SV->Option (List Int)
 | []=>adc []
 |x::xs=>match x,UR xs with
  | .int .i64 n,adc l=>adc (n::l)
  |_,_=>ado
def ace(n:Option Nat)(v:SV):Option (List Int):=
 match n,v with
 |none,.int .i64 a=>adc [a]
 |some n,.agg cs=>bif If (ad7 cs) n&&!Nat.beq n 1 then UR cs else ado
 |_,_=>ado
def H6(n:Nat)(i:Int)(j:Nat)(f:Nat->js R):js R:=
 match n with
 |0=>aU
 |n+1=>jx (i==acI j) (f j) (H6 n i (j+1) f)
def oA{α:Type}(x:Option α)(k:α->js R):js R:=
 match x with
 |some a=>k a
 |none=>aU
def ofV(k:iR->js R)(v:SV):js R:=k {v}
def aeA(s:List SB)(aO:Nat)(x:SV)(i:Int)(k:iR->js R):js R:=
 match x with
 | .sl r l=>bif If (ad7 r) aO then oF (aF l i) λa=>k {v:= .bZ (RT.sv r a) 0}else aU
 | .own t _=>match nth s t with
  |some (.arr r l)=>bif If (ad7 r) aO then oF (aF l i) λa=>k {v:= .pa t r i a 0}else aU
  |_=>aU
 | .pre t len _ _=>match nth s t with
  |some (.arr r l)=>bif If (ad7 r) aO then oF (aF (l.take len) i) λa=>k {v:= .pa t r i a 0}else aU
  |_=>aU
 | .part t off len _ _=>match nth s t with
  |some (.arr r l)=>bif If (ad7 r) aO then oF (aF ((l.drop off).take len) i) λa=>k {v:= .pa t r (.ofNat (off+i.toNat)) a 0}else aU
  |_=>aU
 | .bs t e n _=>bif If e aO then H6 n i 0 λj=>k {v:= .bq t e j 0}else aU
 |_=>aU
def AS(aO:Nat):List SV->Option (List SV)
 | []=>adc []
 |v::r=>match v.stored with
  |some w=>bif If (ad7 w) aO then(AS aO r).map (w++ ·)else ado
  |none=>ado
def aeB(s:List SB)(agg:Option Nat)(p:SV)(k:iR->js R):js R:=
 match p with
 | .bp t _ off=>match nth s t with
  |some (.box cs)=>oA (BQ agg off cs) λv=>k {v,rd:=[t]}
  |_=>aU
 | .bq t e r off=>match nth s t with
  |some (.box cs)=>oA (bif If r 0 then BQ agg off cs else BQ agg (r*e+off) cs) λv=>k {v,rd:=[t]}
  |_=>aU
 | .pa t r _ a off=>match nth s t with
  |some (.arr _ _)=>oA (BQ agg off (RT.sv r a)) λv=>k {v,rd:=[t]}
  |_=>aU
 | .pb t i off=>match nth s t with
  |some (.arr r l)=>oF (aF l i) λa=>oA (BQ agg off (RT.sv r a)) λv=>k {v,rd:=[t]}
  |_=>aU
 | .bZ cs off=>oA (BQ agg off cs) λv=>k {v}
 |_=>aU
def YW(s:List SB)(z:List Nat)(sz:Nat)(p v:SV)(k:iR->js R):js R:=
 match p with
 | .bp t _ off=>match nth s t with
  |some (.box cs)=>oA v.stored λw=>bif If (ad7 w) sz&&abu (off+sz) (ad7 cs)&&!has z t then k {v:= .undef,wr:=[(t,.box (wO off w cs))]}else aU
  |_=>aU
 | .pa t r i a off=>match nth s t with
  |some (.arr q l)=>bif If (ad7 v.cells) sz&&abu (off+sz) (ad7 r)&&!has z t then
   oA (RT.of q (wO off v.cells (RT.sv r a))) λb=>k {v:= .undef,wr:=[(t,.arr q (cQ l i b))]}else aU
  |_=>aU
 | .pb t i off=>match nth s t with
  |some (.arr q l)=>bif If (ad7 v.cells) sz&&abu (off+sz) (ad7 q)&&!has z t then
   (bif If sz (ad7 q)then oA (RT.of q v.cells) λb=>k {v:= .undef,wr:=[(t,.arr q (cQ l i b))]}
   else oF (aF l i) λa=>oA (RT.of q (wO off v.cells (RT.sv q a))) λb=>k {v:= .undef,wr:=[(t,.arr q (cQ l i b))]})else aU
  |_=>aU
 |_=>aU
def Wo(e:SE)(t off len cap:Nat)(ex:Bool)(lo hi mx:Option ib)(k:iR->js R):js R:=
 oA (G0 e 0 lo) λa=>oA (G0 e (.ofNat len) hi) λb=>match mx with
  |none=>jx (ae0 (0<=a)&&ae0 (a<=b)&&ae0 (b<= .ofNat cap)) (k {v:= .part t (off+a.toNat) (b.toNat-a.toNat) (cap-a.toNat) ex}) aU
  |some m=>match cH e m with
   | .int _ c=>jx (ae0 (0<=a)&&ae0 (a<=b)&&ae0 (b<=c)&&ae0 (c<= .ofNat cap)) (k {v:= .part t (off+a.toNat) (b.toNat-a.toNat) (c.toNat-a.toNat) adu}) aU
   |_=>aU
def ai'(e:SE)(s:List SB)(aO:Nat)(x:SV)(lo hi mx:Option ib)(k:iR->js R):js R:=
 match x with
 | .sl r l=>match mx with
  |none=>bif If (ad7 r) aO then oA (G0 e 0 lo) λa=>oA (G0 e (acI (ad7 l)) hi) λb=>oF (jE l a b) λm=>k {v:= .sl r m}else aU
  |some _=>aU
 | .own t ex=>match nth s t with
  |some (.arr r l)=>bif If (ad7 r) aO then(match lo,hi,mx with
   |none,ado,ado=>k {v:= .own t ex}
   |none,adc h,ado=>match cH e h with
    | .int _ b=>oF (jE l 0 b) λ_=>k {v:= .pre t b.toNat (ad7 l) ex}
    |_=>aU
   |lo,hi,mx=>Wo e t 0 (ad7 l) (ad7 l) ex lo hi mx k)else aU
  |_=>aU
 | .pre t len cap ex=>match nth s t with
  |some (.arr r _)=>bif If (ad7 r) aO then(match lo,hi,mx with
   |none,ado,ado=>jx (abu len cap) (k {v:= .pre t len cap ex}) aU
   |none,adc h,ado=>match cH e h with
    | .int _ b=>jx (ae0 (0<=b)&&ae0 (b<= .ofNat cap)) (k {v:= .pre t b.toNat cap ex}) aU
    |_=>aU
   |lo,hi,mx=>Wo e t 0 len cap ex lo hi mx k)else aU
  |_=>aU
 | .part t off len cap ex=>match nth s t with
  |some (.arr r _)=>bif If (ad7 r) aO then Wo e t off len cap ex lo hi mx k else aU
  |_=>aU
 |_=>aU
def gQ{α:Type}(l:List α)(n:Nat)(m:List α):List α:=l.take n++m++l.drop (n+ad7 m)
def SV.afL:SV->Bool
 | .part .. =>adu
 |_=>adw
def US(s:List SB)(z:List Nat)(aO:Nat)(x y:SV)(k:iR->js R):js R:=
 match D' s y with
 |none=>aU
 |some ⟨q,m⟩=>bif If (ad7 q) aO then(match x with
  | .nil _ c=>bif c then oF (cN m) λm'=>k {v:= .own (ad7 s) adw,news:=[.arr q m'],rd:=IF y}else aU
  | .own t ex=>match nth s t with
   |some (.arr r l)=>match xF q r m with
    |none=>aU
    |some m=>match ex with
     |true=>jx l.isEmpty (oF (cN m) λm'=>k {v:= .own (ad7 s) adw,news:=[.arr r m'],rd:=t::IF y})
      (jx m.isEmpty (k {v:= .own t adu,rd:=IF y}) (oF (ba l m) λl'=>k {v:= .own (ad7 s) adw,news:=[.arr r l'],rd:=t::IF y}))
     |false=>jx m.isEmpty (k {v:= .own t adw,rd:=IF y})
      (bif has z t then aU else oF (ba l m) λl'=>k {v:= .own (ad7 s) adw,news:=[.arr r l'],wr:=[(t,.dead)],rd:=IF y})
   |_=>aU
  | .pre t len cap ex=>match nth s t with
   |some (.arr r l)=>match xF q r m with
    |none=>aU
    |some m=>bif ex then aU else jx m.isEmpty (k {v:= .pre t len cap adw,rd:=IF y})
     (jx (abu (len+ad7 m) cap) (jx (abu (len+ad7 m) (ad7 l)&&!has z t) (k {v:= .pre t (len+ad7 m) cap adw,wr:=[(t,.arr r (gQ l len m))],rd:=IF y}) aU)
      (bif has z t||y.afL then aU else oF (ba (l.take len) m) λl'=>jx (abu len (ad7 l)) (k {v:= .own (ad7 s) adw,news:=[.arr r l'],wr:=[(t,.dead)],rd:=IF y}) aU))
   |_=>aU
  |_=>aU)else aU
def YX(s:List SB)(z:List Nat)(aO:Nat)(zero:Row)(x:SV)(k:iR->js R):js R:=
 match x with
 | .part t off len _ _=>match nth s t with
  |some (.arr r l)=>match JR zero with
   |some q=>bif FD q r&&If (ad7 r) aO then jx (If len 0) (k {v:= .undef})
    (jx (abu (off+len) (ad7 l)&&!has z t) (k {v:= .undef,wr:=[(t,.arr r (gQ l off (abE len (RT.zero r))))]}) aU)else aU
   |none=>aU
  |_=>aU
 |_=>aU
def acf(n:Option Nat)(zero:PV)(ok:Bool)(t:Nat)(l:List (List Int))(q:SV)(k:iR->js R):js R:=
 match zero,ok with
 | .bool adw,adw=>oA (ace n q) λa=>oF (Qi l a) λb=>k {v:= .bool b,rd:=[t]}
 |_,_=>aU
def afM(n:Option Nat)(t:Nat)(l:List (List Int))(q x:SV)(k:iR->js R):js R:=
 match x with
 | .bool adu=>oA (ace n q) λa=>oF (Qj l a) λm=>k {v:= .undef,wr:=[(t,.set m)]}
 |_=>aU
def PT.get:(p:PT)->p.T->List (RT [.i .i64,p])->Int->p.T
 | .i _,z,l,k=>j8 z l k
 | .b,z,l,k=>j8 z l k
def PT.put:(p:PT)->List (RT [.i .i64,p])->Int->p.T->List (RT [.i .i64,p])
 | .i _,l,k,a=>mz l k a
 | .b,l,k,a=>mz l k a
def acg(n:Option Nat)(zero:PV)(ok:Bool)(t:Nat)(p:PT)(l:List (RT [.i .i64,p]))(q:SV)(k:iR->js R):js R:=
 match n with
 |none=>match ok with
  |false=>match q with
   | .int .i64 a=>oA (p.of (acb zero)) λz=>k {v:=p.sv (p.get z l a),rd:=[t]}
   |_=>aU
  |true=>aU
 |some _=>aU
def afN(n:Option Nat)(t:Nat)(p:PT)(l:List (RT [.i .i64,p]))(q x:SV)(k:iR->js R):js R:=
 match n with
 |none=>match q with
  | .int .i64 a=>oA (p.of x) λv=>k {v:= .undef,wr:=[(t,.mI p (p.put l a v))]}
  |_=>aU
 |some _=>aU
def JS(s:List SB)(z:List Nat)(t:Nat)(r:List PT)(l:List (RT r))(off len:Nat)(y:SV)(k:iR->js R):js R:=
 match D' s y with
 |none=>aU
 |some ⟨q,m⟩=>match xF q r m with
  |none=>aU
  |some m=>jx (m.take len).isEmpty (k {v:= .int .i64 0,rd:=IF y})
   (jx (abu (off+(m.take len).length) (ad7 l)&&!has z t) (k {v:= .int .i64 (.ofNat (m.take len).length),wr:=[(t,.arr r (gQ l off (m.take len)))],rd:=IF y}) aU)
def aeC(s:List SB)(z:List Nat)(aO:Nat)(x y:SV)(k:iR->js R):js R:=
 match x with
 | .own t _=>match nth s t with
  |some (.arr r l)=>bif If (ad7 r) aO then JS s z t r l 0 (ad7 l) y k else aU
  |_=>aU
 | .pre t len _ _=>match nth s t with
  |some (.arr r l)=>bif If (ad7 r) aO then JS s z t r l 0 len y k else aU
  |_=>aU
 | .part t off len _ _=>match nth s t with
  |some (.arr r l)=>bif If (ad7 r) aO then JS s z t r l off len y k else aU
  |_=>aU
 |_=>aU
def qK(e:SE)(s:List SB)(z:List Nat)(op:oK)(k:iR->js R):js R:=
 match op with
 | .XL x=>k {v:=cH e x}
 | .pick c a b=>match cH e c with
  | .bool c=>jx c (k {v:=cH e a}) (k {v:=cH e b})
  |_=>aU
 | .bin op x y=>match cH e x with
  | .int ka a=>match cH e y with
   | .int kb b=>match op with
    | .shl=>jx (ae0 (b<0)) aU (k {v:= .int ka (anQ ka a b)})
    | .shr=>jx (ae0 (b<0)) aU (k {v:= .int ka (fQ ka a b)})
    |op=>bif hO ka kb then SF op ka a b (ofV k)else aU
   |_=>aU
  |_=>aU
 | .Pu neg x y=>match cH e x with
  | .bool a=>match cH e y with
   | .bool b=>k {v:= .bool (bif neg then !(a==b)else a==b)}
   |_=>aU
  |_=>aU
 | .eqc n neg x y=>match cH e x with
  | .agg xs=>match cH e y with
   | .agg ys=>bif If (ad7 xs) n&&If (ad7 ys) n then oA (eqS xs ys) λb=>k {v:= .bool (bif neg then !b else b)}else aU
   |_=>aU
  |_=>aU
 | .un op x=>match op with
  | .neg=>match cH e x with
   | .int a n=>k {v:= .int a (aa a (0-n))}
   |_=>aU
  | .not=>match cH e x with
   | .bool b=>k {v:= .bool !b}
   |_=>aU
  |_=>aU
 | .conv a x=>match cH e x with
  | .int _ n=>k {v:= .int a (aa a n)}
  |_=>aU
 | .len x=>match cH e x with
  | .nil _ _=>k {v:= .int .i64 0}
  | .pre _ len _ _=>k {v:= .int .i64 (.ofNat len)}
  | .part _ _ len _ _=>k {v:= .int .i64 (.ofNat len)}
  | .bs _ _ n _=>k {v:= .int .i64 (.ofNat n)}
  |v=>oA (D' s v) λc=>k {v:= .int .i64 (.ofNat (ad7 c.l))}
 | .Sa n=>k {v:= .int .i64 (.ofNat n)}
 | .box x=>oA (cH e x).stored λcs=>k {v:= .bp (ad7 s) (ad7 cs) 0,news:=[.box cs]}
 | .alloc cells=>k {v:= .bp (ad7 s) (ad7 cells) 0,news:=[.box (H4 cells)]}
 | .build zero parts=>oA (AR (Cv e parts) (H4 zero)) λcs=>k {v:= .agg cs}
 | .Fh aO n zero parts=>oA (JR zero) λr=>bif If (ad7 r) aO then oA (UQ r e n parts) λps=>
  k {v:= .own (ad7 s) adu,news:=[.arr r (SG (λi=>rowAt i (RT.zero r) ps) 0 n)]}else aU
 | .HL x y=>match cH e x with
  | .sl r l=>match cH e y with
   | .sl q m=>k {v:= .part (ad7 s) 0 2 2 adu,news:=[.box [.sl r l,.sl q m]]}
   |_=>aU
  |_=>aU
 | .B8 aO xs=>oA (AS aO (xs.map (cH e))) λcs=>k {v:= .bs (ad7 s) aO (ad7 xs) adu,news:=[.box cs]}
 | .load agg p=>aeB s agg (cH e p) k
 | .store sz p v=>YW s z sz (cH e p) (cH e v) k
 | .Pv x=>match cH e x with
  | .pa t r i a o=>k {v:= .pa t r i a o}
  | .pb t i o=>k {v:= .pb t i o}
  | .bp t n o=>k {v:= .bp t n o}
  | .bZ c o=>k {v:= .bZ c o}
  | .fE f a b=>k {v:= .fE f a b}
  |_=>aU
 | .Pw off p=>match cH e p with
  | .pa t r i a o=>k {v:= .pa t r i a (o+off)}
  | .pb t i o=>k {v:= .pb t i (o+off)}
  | .bp t n o=>k {v:= .bp t n (o+off)}
  | .bq t e r o=>k {v:= .bq t e r (o+off)}
  | .bZ c o=>k {v:= .bZ c (o+off)}
  |_=>aU
 | .dI agg off x=>match cH e x with
  | .agg cs=>oA (BQ agg off cs) (ofV k)
  |_=>aU
 | .Px aO x i=>match cH e i with
  | .int _ n=>aeA s aO (cH e x) n k
  |_=>aU
 | .HM n aO p i=>match cH e i with
  | .int _ j=>match cH e p with
   | .bp t m o=>H6 n j 0 λj=>k {v:= .bp t m (o+j*aO)}
   | .bZ c o=>H6 n j 0 λj=>k {v:= .bZ c (o+j*aO)}
   | .pb t r o=>H6 n j 0 λj=>k {v:= .pb t r (o+j*aO)}
   | .pa t r i a o=>H6 n j 0 λj=>k {v:= .pa t r i a (o+j*aO)}
   |_=>aU
  |_=>aU
 | .idx n aO agg x i=>match cH e i with
  | .int _ j=>match cH e x with
   | .agg cs=>H6 n j 0 λj=>oA (BQ agg (j*aO) cs) (ofV k)
   |_=>aU
  |_=>aU
 | .Py x i=>match cH e i with
  | .int _ j=>match cH e x with
   | .str t=>oF (wE t j) λb=>k {v:= .int .u8 b}
   |_=>aU
  |_=>aU
 | .VL aO x lo hi mx=>ai' e s aO (cH e x) lo hi mx k
 | .clear aO zero x=>YX s z aO zero (cH e x) k
 | .copy aO x y=>aeC s z aO (cH e x) (cH e y) k
 | .mks aO zero l c=>match cH e l with
  | .int _ n=>match cH e c with
   | .int _ m=>jx (n==m) (oA (JR zero) λr=>bif If (ad7 r) aO then oF (oE n (RT.zero r)) λx=>k {v:= .own (ad7 s) adu,news:=[.arr r x]}else aU) aU
   |_=>aU
  |_=>aU
 | .mkf fn a b=>k {v:= .fE fn (mU e a) (mU e b)}
 | .mkm z=>match z with
  |none=>k {v:= .mp (ad7 s),news:=[.set []]}
  |some z=>oA (bC z) λp=>k {v:= .mp (ad7 s),news:=[.mI p []]}
 | .lookup n zero ok m q=>match cH e m with
  | .mp t=>match nth s t with
   |some (.set l)=>acf n zero ok t l (cH e q) k
   |some (.mI p l)=>acg n zero ok t p l (cH e q) k
   |_=>aU
  |_=>aU
 | .Nx n m q x=>match cH e m with
  | .mp t=>match nth s t with
   |some (.set l)=>bif has z t then aU else afM n t l (cH e q) (cH e x) k
   |some (.mI p l)=>bif has z t then aU else afN n t p l (cH e q) (cH e x) k
   |_=>aU
  |_=>aU
 | .ext i x=>match cH e x with
  | .cV vs=>oA (nth vs i) (ofV k)
  |_=>aU
 | .append aO x y=>US s z aO (cH e x) (cH e y) k
 | .mm rO x xs=>match cH e x with
  | .int a n=>oA (mmS rO a n (mU e xs)) (ofV k)
  |_=>aU
 |_=>aU
end
mutual
def MC(s:List SB)(bx:Nat->Option (List SV)):SV->Option SV
 | .int k n=>adc (.int k n)
 | .bool b=>adc (.bool b)
 | .str x=>adc (.str x)
 | .fv=>adc .fv
 | .agg cs=>match xG s bx cs with|some l=>adc (.agg l)|none=>ado
 | .cV cs=>match xG s bx cs with|some l=>adc (.cV l)|none=>ado
 | .sl r l=>adc (.sl r l)
 | .nil e _=>adc (.nil e adw)
 | .own t _=>match nth s t with
  |some (.arr r l)=>adc (.sl r l)
  |_=>ado
 | .pre t len _ _=>match nth s t with
  |some (.arr r l)=>adc (.sl r (l.take len))
  |_=>ado
 | .part t off len _ _=>match nth s t with
  |some (.arr r l)=>adc (.sl r ((l.drop off).take len))
  |_=>ado
 | .pa t r _ a off=>match nth s t with
  |some (.arr _ _)=>adc (.bZ (RT.sv r a) off)
  |_=>ado
 | .bp t _ off=>match nth s t with
  |some (.box _)=>match bx t with|some l=>adc (.bZ l off)|none=>ado
  |_=>ado
 | .bZ cs off=>match xG s bx cs with|some l=>adc (.bZ l off)|none=>ado
 | .fE f a b=>match xG s bx a,xG s bx b with
  |some x,adc y=>adc (.fE f x y)
  |_,_=>ado
 |_=>ado
def xG(s:List SB)(bx:Nat->Option (List SV)):List SV->Option (List SV)
 | []=>adc []
 |x::xs=>match MC s bx x,xG s bx xs with
  |some y,adc ys=>adc (y::ys)
  |_,_=>ado
end
def SH(s:List SB)(bx:Nat->Option (List SV)):List SV->Bool
 | []=>adu
 |x::xs=>match x with
  | .mp _=>SH s bx xs
  |x=>match MC s bx x with
   |some _=>SH s bx xs
   |none=>adw
def nX(s:List SB):Nat->Nat->Option (List SV)
 |0,_=>ado
 |n+1,t=>match nth s t with
  |some (.box cs)=>xG s (nX s n) cs
  |_=>ado
mutual
def SI(bx:Nat->List Nat):SV->List Nat
 | .agg cs=>wP bx cs
 | .cV cs=>wP bx cs
 | .own t _=>[t]
 | .pre t _ _ _=>[t]
 | .part t _ _ _ _=>[t]
 | .pa t _ _ _ _=>t::bx t
 | .pb t _ _=>t::bx t
 | .bp t _ _=>t::bx t
 | .bs t _ _ _=>[t]
 | .bq t _ _ _=>t::bx t
 | .bZ cs _=>wP bx cs
 | .mp t=>[t]
 | .fE _ a b=>wP bx a++wP bx b
 |_=>[]
def wP(bx:Nat->List Nat):List SV->List Nat
 | []=>[]
 |x::xs=>SI bx x++wP bx xs
end
def B2(s:List SB):Nat->Nat->List Nat
 |0,_=>[]
 |n+1,t=>match nth s t with
  |some (.box cs)=>wP (B2 s n) cs
  |_=>[]
mutual
def SV.sure:SV->Bool
 | .jX=>adw
 | .agg cs=>p9 cs
 | .cV cs=>p9 cs
 | .bZ cs _=>p9 cs
 | .fE _ a b=>p9 a&&p9 b
 |_=>adu
def p9:List SV->Bool
 | []=>adu
 |x::xs=>x.sure&&p9 xs
end
mutual
def EE:SV->Bool
 | .int _ _| .bool _| .str _=>adu
 | .agg cs=>wQ cs
 | .cV cs=>wQ cs
 |_=>adw
def wQ:List SV->Bool
 | []=>adu
 |x::xs=>EE x&&wQ xs
end
mutual
def YY(s:List SB):SV->Option SV
 | .int k n=>adc (.int k n)
 | .bool b=>adc (.bool b)
 | .str x=>adc (.str x)
 | .agg cs=>match SJ s cs with|some l=>adc (.agg l)|none=>ado
 | .cV cs=>match SJ s cs with|some l=>adc (.cV l)|none=>ado
 | .sl r l=>adc (.sl r l)
 | .nil e _=>adc (.nil e adw)
 | .own t _=>match nth s t with
  |some (.arr r l)=>adc (.sl r l)
  |_=>ado
 | .pre t len _ _=>match nth s t with
  |some (.arr r l)=>adc (.sl r (l.take len))
  |_=>ado
 | .part t off len _ _=>match nth s t with
  |some (.arr r l)=>adc (.sl r ((l.drop off).take len))
  |_=>ado
 |_=>ado
def SJ(s:List SB):List SV->Option (List SV)
 | []=>adc []
 |x::xs=>match YY s x,SJ s xs with
  |some y,adc ys=>adc (y::ys)
  |_,_=>ado
end
mutual
def Wp(s:List SB)(z:List Nat):List Nat->SV->Option (SV×List Nat)
 |seen,.int k n=>adc (.int k n,seen)
 |seen,.bool b=>adc (.bool b,seen)
 |seen,.agg cs=>match Qk s z seen cs with|some p=>adc (.agg p.1,p.2)|none=>ado
 |seen,.cV cs=>match Qk s z seen cs with|some p=>adc (.cV p.1,p.2)|none=>ado
 |seen,.nil e c=>bif c then adc (.nil e adw,seen)else ado
 |seen,.own t _=>match nth s t with
  |some (.arr r l)=>bif has seen t||has z t then ado else adc (.sl r l,t::seen)
  |_=>ado
 |_,_=>ado
def Qk(s:List SB)(z:List Nat):List Nat->List SV->Option (List SV×List Nat)
 |seen,[]=>adc ([],seen)
 |seen,x::xs=>match Wp s z seen x with
  |some p=>match Qk s z p.2 xs with
   |some q=>adc (p.1::q.1,q.2)
   |none=>ado
  |none=>ado
end
mutual
def Cw:Nat->SV->SV×List SB
 |nx,.sl r l=>(.own nx adw,[.arr r l])
 |nx,.nil e _=>(.own nx adw,[.arr (abE e (.i .i64)) []])
 |nx,.agg cs=>(.agg (zi nx cs).1,(zi nx cs).2)
 |nx,.cV cs=>(.cV (zi nx cs).1,(zi nx cs).2)
 |_,v=>(v,[])
def zi:Nat->List SV->List SV×List SB
 |_,[]=>([],[])
 |nx,x::xs=>((Cw nx x).1::(zi (nx+(Cw nx x).2.length) xs).1,(Cw nx x).2++(zi (nx+(Cw nx x).2.length) xs).2)
end
def Oh:SB->List Nat
 | .box cs=>wP zE cs
 |_=>[]
def Dt:SB->Bool
 | .box cs=>p9 cs
 |_=>adu
def JT(s:List SB):Nat->List Nat->List Nat->Option (List Nat)
 |_,[],seen=>adc seen
 |0,_::_,_=>ado
 |n+1,t::ts,seen=>
  bif has seen t then JT s n ts seen
  else match nth s t with
   |some b=>bif Dt b then JT s n (Oh b++ts) (seen++[t])else ado
   |none=>ado
mutual
def rL(m:List Nat):SV->Option SV
 | .agg cs=>match yz m cs with|some l=>adc (.agg l)|none=>ado
 | .cV cs=>match yz m cs with|some l=>adc (.cV l)|none=>ado
 | .own t ex=>match idxOf t m with|some u=>adc (.own u ex)|none=>ado
 | .pre t len cap ex=>match idxOf t m with|some u=>adc (.pre u len cap ex)|none=>ado
 | .part t off len cap ex=>match idxOf t m with|some u=>adc (.part u off len cap ex)|none=>ado
 | .pa t _ i _ off=>match idxOf t m with|some u=>adc (.pb u i off)|none=>ado
 | .pb t i off=>match idxOf t m with|some u=>adc (.pb u i off)|none=>ado
 | .bp t n off=>match idxOf t m with|some u=>adc (.bp u n off)|none=>ado
 | .bs t e n ex=>match idxOf t m with|some u=>adc (.bs u e n ex)|none=>ado
 | .bq t e r off=>match idxOf t m with|some u=>adc (.bq u e r off)|none=>ado
 | .bZ cs off=>match yz m cs with|some l=>adc (.bZ l off)|none=>ado
 | .mp t=>match idxOf t m with|some u=>adc (.mp u)|none=>ado
 | .fE f a b=>match yz m a,yz m b with
  |some x,adc y=>adc (.fE f x y)
  |_,_=>ado
 | .jX=>ado
 |v=>adc v
def yz(m:List Nat):List SV->Option (List SV)
 | []=>adc []
 |x::xs=>match rL m x,yz m xs with
  |some y,adc ys=>adc (y::ys)
  |_,_=>ado
end
def SK(m:List Nat):SB->Option SB
 | .box cs=>match yz m cs with|some l=>adc (.box l)|none=>ado
 |b=>adc b
def LX(s:List SB)(m:List Nat):List Nat->Option (List SB)
 | []=>adc []
 |t::ts=>match nth s t with
  |some b=>match SK m b,LX s m ts with
   |some b',adc r=>adc (b'::r)
   |_,_=>ado
  |none=>ado
def rowOf(rk:List (Nat×List PT))(aO:Nat):List PT:=
 match rk with
 | []=>abE aO (.i .i64)
 |(n,r)::q=>bif If n aO&&If (ad7 r) aO then r else rowOf q aO
def Oi:Option Nat->SV->SV
 |some _,.own t _=> .own t adw
 |some _,.pre t l c _=> .pre t l c adw
 |some _,.part t o l c _=> .part t o l c adw
 |some _,.bs t e n _=> .bs t e n adw
 |_,v=>v
def Cx(rk:List (Nat×List PT))(e:SE)(m:List Nat):Nat->List (Nat×Option Nat)->Option (SE×List SB)
 |_,[]=>adc ([],[])
 |nx,(s,k)::r=>
  match k,H3 s e with
  |some aO,.nil _ adu=>match Cx rk e m (nx+1) r with
   |some p=>adc ((s,.own nx adw)::p.1,.arr (rowOf rk aO) []::p.2)
   |none=>ado
  |_,v=>match rL m v,Cx rk e m nx r with
   |some v',adc p=>adc ((s,Oi k v')::p.1,p.2)
   |_,_=>ado
def JU(rk:List (Nat×List PT))(st:ua)(t c aO:Nat):ua:=
 match nth st.aB t with
 |some (.box cs)=>match nth cs c with
  |some (.nil _ adu)=>{st with aB:=st.aB.set t (.box (cs.set c (.own (ad7 st.aB) adw)))++[.arr (rowOf rk aO) []]}
  |_=>st
 |_=>st
def YZ:SV->Option Nat
 | .bp t _ 0=>adc t
 | .bq t _ 0 0=>adc t
 |_=>ado
def ach:SV->Option Nat
 | .fE _ _ (x::_)=>YZ x
 |x=>YZ x
def uc(rk:List (Nat×List PT)):List (Nat×Option Nat)->ua->ua
 | [],st=>st
 |(s,k)::r,st=>match k with
  |some n=>bif abu 1000 n then(match ach (H3 s st.env)with
   |some t=>uc rk r (JU rk st t (n / 1000-1) (n%1000))
   |none=>uc rk r st)else uc rk r st
  |none=>uc rk r st
def MD(s:List SB)(v:SV):SV:=
 match v with
 | .own t ex=>match nth s t with
  |some (.arr _ l)=> .pre t (ad7 l) (ad7 l) ex
  |_=>v
 |_=>v
def UT(s:List SB)(c:Nat):SE->SE
 | []=>[]
 |(t,v)::r=>bif If t c then(t,MD s v)::r else(t,v)::UT s c r
def FE:List (Nat×Option Nat)->ua->ua
 | [],st=>st
 |(t,_)::r,st=>bif abu 1000000 t then FE r {st with env:=UT st.aB (t-1000000) st.env}else FE r st
def FF(e:SE):List (Nat×Option Nat)->Bool
 | []=>adu
 |(s,_)::r=>(H3 s e).sure&&FF e r
def JV(e:SE):List (Nat×Option Nat)->List Nat
 | []=>[]
 |(s,_)::r=>SI zE (H3 s e)++JV e r
def SL:List SB->Nat->List Nat
 |b::r,n+1=>Oh b++SL r n
 |_,_=>[]
def JW:List SB->Nat->Bool
 |b::r,n+1=>Dt b&&JW r n
 |_,_=>adu
def JX(rk:List (Nat×List PT))(live:List (Nat×Option Nat))(st:ua):Option ua:=
 bif FF st.env live&&JW st.aB st.kn then
  match JT st.aB 4096 (SL st.aB st.kn++JV st.env live) (zG st.kn)with
  |none=>ado
  |some m=>match LX st.aB m m,Cx rk st.env m (ad7 m) live with
   |some s1,adc (e1,s2)=>adc (FE live (uc rk live {env:=e1,aB:=s1++s2,fz:=Ca st.fz 0 m,kn:=st.kn}))
   |_,_=>ado
 else ado
def JY(rk:List (Nat×List PT))(live:List (Nat×Option Nat))(st:ua):Option ua:=
 match JX rk live st with
 |some s=>bif live.any λp=>p.2.isSome then JX rk live s else adc s
 |none=>ado
inductive AK where
 |i
 |b
 |n
 |l(r:List PT)
 |s
@[reducible] def AK.T : AK -> Type
  | .i => Int
  | .b => Bool
  | .n => Nat
  | .l r => List (RT r)
  | .s => List (List Int)
@[reducible] def kE : List AK -> Type
  | [] => Unit
  | [a] => a.T
  | a :: q :: r => a.T × kE (q :: r)
inductive B6 where
 |i(n:Int)
 |b(x:Bool)
 |n(x:Nat)
 |l(r:List PT)(x:List (RT r))
 |s(x:List (List Int))
def B6.k:B6->AK
 | .i _=> .i
 | .b _=> .b
 | .n _=> .n
 | .l r _=> .l r
 | .s _=> .s
def AK.at:(a:AK)->a.T->B6
 | .i,x=> .i x
 | .b,x=> .b x
 | .n,x=> .n x
 | .l r,x=> .l r x
 | .s,x=> .s x
def AK.of:(a:AK)->B6->Option a.T
 | .i,.i x=>adc x
 | .b,.b x=>adc x
 | .n,.n x=>adc x
 | .l r,.l q x=>xF q r x
 | .s,.s x=>adc x
 |_,_=>ado
def qc:(ks:List AK)->kE ks->List B6
 | [],_=>[]
 | [a],x=>[a.at x]
 |a::q::r,x=>a.at x.1::qc (q::r) x.2
def oR:(ks:List AK)->List B6->Option (kE ks)
 | [],[]=>adc ()
 | [a],[x]=>a.of x
 |a::q::r,x::xs=>match a.of x,oR (q::r) xs with
  |some y,adc ys=>adc (y,ys)
  |_,_=>ado
 |_,_=>ado
mutual
def G1:SV->List B6
 | .int _ n=>[.i n]
 | .bool b=>[.b b]
 | .agg cs=>G2 cs
 | .cV cs=>G2 cs
 | .sl r l=>[.l r l]
 | .pre _ len cap _=>[.n len,.n cap]
 | .part _ off len cap _=>[.n off,.n len,.n cap]
 | .pb _ i _=>[.i i]
 | .bZ cs _=>G2 cs
 | .fE _ a b=>G2 a++G2 b
 |_=>[]
def G2:List SV->List B6
 | []=>[]
 |x::xs=>G1 x++G2 xs
end
def Y0:SB->List B6
 | .arr r l=>[.l r l]
 | .box cs=>G2 cs
 | .set l=>[.s l]
 | .mI p l=>[.l [.i .i64,p] l]
 | .dead=>[]
def Oj:List SB->List B6
 | []=>[]
 |b::r=>Y0 b++Oj r
def Wq:SE->List B6
 | []=>[]
 |(_,v)::r=>G1 v++Wq r
def si(st:ua):List B6:=Wq st.env++Oj st.aB
mutual
def yA:SV->SV->Bool
 | .undef,.undef=>adu
 | .nD,.nD=>adu
 | .fv,.fv=>adu
 | .int k _,.int l _=>hO k l
 | .bool _,.bool _=>adu
 | .agg a,.agg b=>Cy a b
 | .cV a,.cV b=>Cy a b
 | .sl r _,.sl q _=>FD r q
 | .nil e c,.nil f d=>If e f&&c==d
 | .own t x,.own u y=>If t u&&x==y
 | .pre t _ _ x,.pre u _ _ y=>If t u&&x==y
 | .part t _ _ _ x,.part u _ _ _ y=>If t u&&x==y
 | .pb t _ o,.pb u _ p=>If t u&&If o p
 | .bp t n o,.bp u m p=>If t u&&If n m&&If o p
 | .bs t n o x,.bs u m p y=>If t u&&If n m&&If o p&&x==y
 | .bq t n r o,.bq u m q p=>If t u&&If n m&&If r q&&If o p
 | .bZ a o,.bZ b p=>Cy a b&&If o p
 | .fE f a b,.fE g c d=>If f g&&Cy a c&&Cy b d
 | .mp t,.mp u=>If t u
 | .jX,.jX=>adu
 |_,_=>adw
def Cy:List SV->List SV->Bool
 | [],[]=>adu
 |x::xs,y::ys=>yA x y&&Cy xs ys
 |_,_=>adw
end
def aeD:SB->SB->Bool
 | .arr r _,.arr q _=>FD r q
 | .box a,.box b=>Cy a b
 | .set _,.set _=>adu
 | .mI p _,.mI q _=>p.same q
 | .dead,.dead=>adu
 |_,_=>adw
def JZ:List SB->List SB->Bool
 | [],[]=>adu
 |x::xs,y::ys=>aeD x y&&JZ xs ys
 |_,_=>adw
def UU:SE->SE->Bool
 | [],[]=>adu
 |(t,x)::xs,(u,y)::ys=>If t u&&yA x y&&UU xs ys
 |_,_=>adw
def UW:List Nat->List Nat->Bool
 | [],[]=>adu
 |x::xs,y::ys=>If x y&&UW xs ys
 |_,_=>adw
def EF(a b:ua):Bool:=UU a.env b.env&&JZ a.aB b.aB&&UW a.fz b.fz&&If a.kn b.kn
mutual
def zj:SV->List B6->SV×List B6
 | .int k _,.i n::q=>(.int k n,q)
 | .bool _,.b x::q=>(.bool x,q)
 | .agg cs,q=>(.agg (wR cs q).1,(wR cs q).2)
 | .cV cs,q=>(.cV (wR cs q).1,(wR cs q).2)
 | .sl _ _,.l r l::q=>(.sl r l,q)
 | .pre t _ _ x,.n len:: .n cap::q=>(.pre t len cap x,q)
 | .part t _ _ _ x,.n off:: .n len:: .n cap::q=>(.part t off len cap x,q)
 | .pb t _ o,.i i::q=>(.pb t i o,q)
 | .bZ cs o,q=>(.bZ (wR cs q).1 o,(wR cs q).2)
 | .fE f a b,q=>(.fE f (wR a q).1 (wR b (wR a q).2).1,(wR b (wR a q).2).2)
 |v,q=>(v,q)
def wR:List SV->List B6->List SV×List B6
 | [],q=>([],q)
 |x::xs,q=>((zj x q).1::(wR xs (zj x q).2).1,(wR xs (zj x q).2).2)
end
def SM:SB->List B6->SB×List B6
 | .arr _ _,.l r l::q=>(.arr r l,q)
 | .box cs,q=>(.box (wR cs q).1,(wR cs q).2)
 | .set _,.s l::q=>(.set l,q)
 | .mI _ _,.l [.i .i64,p] l::q=>(.mI p l,q)
 |b,q=>(b,q)
def EG:List SB->List B6->List SB×List B6
 | [],q=>([],q)
 |b::r,q=>((SM b q).1::(EG r (SM b q).2).1,(EG r (SM b q).2).2)
def Ql:SE->List B6->SE×List B6
 | [],q=>([],q)
 |(t,v)::r,q=>((t,(zj v q).1)::(Ql r (zj v q).2).1,(Ql r (zj v q).2).2)
def zY(st:ua)(q:List B6):ua:={st with env:=(Ql st.env q).1,aB:=(EG st.aB (Ql st.env q).2).1}
def Y1:List B6->List AK
 | []=>[]
 |a::r=>a.k::Y1 r
def ptK{β:Type 1}(p:PT)(c:PT->β):β:=
 match p with
 | .i k=>c (.i k)
 | .b=>c .b
def rK{β:Type 1}:List PT->(List PT->β)->β
 | [],c=>c []
 |p::r,c=>ptK p λp=>rK r λr=>c (p::r)
def ksK{β:Type 1}:List AK->(List AK->β)->β
 | [],c=>c []
 | .i::r,c=>ksK r λr=>c (.i::r)
 | .b::r,c=>ksK r λr=>c (.b::r)
 | .n::r,c=>ksK r λr=>c (.n::r)
 | .l q::r,c=>rK q λq=>ksK r λr=>c (.l q::r)
 | .s::r,c=>ksK r λr=>c (.s::r)
mutual
def xH:SV->Option PV
 | .int k n=>adc (.int k n)
 | .bool b=>adc (.bool b)
 | .str x=>adc (.str x)
 | .fv=>adc .fv
 | .agg cs=>match tN cs with|some l=>adc (.agg l)|none=>ado
 | .cV cs=>match tN cs with|some l=>adc (.cV l)|none=>ado
 | .sl r l=>adc (.sl (ad7 r) adw (l.map (RT.pv r)))
 | .nil e c=>adc (.sl e c [])
 | .bZ cs off=>match tN cs with|some l=>adc (.bZ l off)|none=>ado
 | .fE f a b=>match tN a,tN b with
  |some x,adc y=>adc (.fE f x y)
  |_,_=>ado
 |_=>ado
def tN:List SV->Option (List PV)
 | []=>adc []
 |x::xs=>match xH x,tN xs with
  |some y,adc ys=>adc (y::ys)
  |_,_=>ado
end
structure bU(α:Type) where
 enc:α->List SV
 dec:List SV->Option (α×List SV)
 law: ∀{vs:List SV} {a:α} {rest:List SV} {ps:List PV},dec vs=adc (a,rest)->tN vs=adc ps-> ∃p q,ps=p++q/\tN (enc a)=adc p/\tN rest=adc q
structure Arg(α:Type) where
 enc:α->SV
 dec:SV->Option α
 law: ∀{v:SV} {a:α} {p:PV},dec v=adc a->xH v=adc p->xH (enc a)=adc p
structure bR(α:Type) where
 enc:α->List SV
 dec:List SV->Option α
 law: ∀{vs:List SV} {a:α} {ps:List PV},dec vs=adc a->tN vs=adc ps->tN (enc a)=adc ps
inductive Kd where
 |pure
 |lK
 |own
structure GB where
 {α β:Type}
 args:bR α
 res:Arg β
 fn:α->Option β
 kd:Kd
 ow:Bool
structure fB where
 ka:List AK
 ta:List SV
 tb:List SB
 ko:List AK
 tv:SV
 to:List SB
 fn:kE ka->Option (kE ko)
def FG:(p:PT)->PV->Option p.T
 | .i k,.int l n=>bif hO l k then adc n else ado
 | .b,.bool x=>adc x
 |_,_=>ado
def LY:(r:List PT)->List PV->Option (RT r)
 | [],[]=>adc ()
 | [p],[v]=>FG p v
 |p::q::r,v::vs=>match FG p v,LY (q::r) vs with
  |some a,adc b=>adc (a,b)
  |_,_=>ado
 |_,_=>ado
def H7(r:List PT):List (List PV)->Option (List (RT r))
 | []=>adc []
 |x::xs=>match LY r x,H7 r xs with
  |some a,adc l=>adc (a::l)
  |_,_=>ado
structure Srt where
 r:List PT
 g:Option FuncId
 fn:List (RT r)->Option (List (RT r))
def SN:Srt:=⟨[.i .i64],ado,Of⟩
def acj:Option FuncId->List PV->Bool
 |none,[]=>adu
 |some g,[.fE h [] []]=>If h g
 |_,_=>adw
def Ol(q:Srt)(args:List PV)(aB:di)(fz:List Nat):Option (PV×di×List Nat):=
 match args with
 | .own t e off len _ _::r=>match aB[t]? with
  |some (.arr e1 rows)=>if If e (ad7 q.r)&&If off 0&&abu len (ad7 rows)&&abu len iq&&!has fz t&&acj q.g r then
   (match H7 q.r (rows.take len)with
   |some l=>match q.fn l with
    |some m=>if If (ad7 m) (ad7 l)then adc (.cV [],aB.set t (.arr e1 (m.map (RT.pv q.r)++rows.drop len)),fz)else ado
    |none=>ado
   |none=>ado)else ado
  |_=>ado
 |_=>ado
inductive Cd where
 |code(x:ax)
 |ins(aO:Nat)
 |srt(q:Srt)
 |cat
instance:Coe ax Cd:=⟨.code⟩
def Cd.ent:Cd->XM
 | .code x=> .code x
 | .ins n=> .LD (NC n)
 | .srt q=> .LD (Ol q)
 | .cat=> .LD NA
structure Ctx where
 lp:Option Nat
 con:FuncId->List GB
 fpc:FuncId->List fB
 code:FuncId->Option Cd
 rk:List (Nat×List PT)
 jn:Bool
inductive XRS where
 |loc(r:iR)
 |shr(v:SV)(s:List SB)(z:List Nat)
def SV.afP:SV->Bool
 | .own .. | .pre .. | .part .. | .pa .. | .pb .. | .bp .. | .bs .. | .bq .. | .mp .. =>adu
 |_=>adw
def EH:List SV->Bool
 | []=>adw
 |x::xs=>x.afP||EH xs
mutual
def dgV(ts:List Nat):SV->SV
 | .pa t r i a off=>bif has ts t then .pb t i off else .pa t r i a off
 | .agg cs=> .agg (Y2 ts cs)
 | .cV cs=> .cV (Y2 ts cs)
 | .bZ cs off=> .bZ (Y2 ts cs) off
 | .fE f a b=> .fE f (Y2 ts a) (Y2 ts b)
 |v=>v
def Y2(ts:List Nat):List SV->List SV
 | []=>[]
 |x::xs=>dgV ts x::Y2 ts xs
end
def dgE(ts:List Nat):SE->SE
 | []=>[]
 |(t,v)::r=>(t,dgV ts v)::dgE ts r
def dgB(ts:List Nat):SB->SB
 | .box cs=> .box (Y2 ts cs)
 |b=>b
def IG(ts:List Nat):List SB->List SB
 | []=>[]
 |b::r=>dgB ts b::IG ts r
def Y3:List SB->Nat->SB->List SB
 | [],_,_=>[]
 |_::r,0,b=>b::r
 |x::r,n+1,b=>x::Y3 r n b
def xI:List (Nat×SB)->List SB->List SB
 | [],s=>s
 |(t,b)::r,s=>xI r (Y3 s t b)
def FH:List (Nat×SB)->List Nat
 | []=>[]
 |(t,_)::r=>t::FH r
def Om(d:Option Nat)(v:SV)(e:SE):SE:=
 match d with
 |some t=>(t,v)::e
 |none=>e
def apS:List SB->List SB->List SB
 | [],l=>l
 |b::r,l=>b::apS r l
def iR.next(d:Option Nat)(st:ua)(r:iR):ua:=
 match r.wr with
 | []=>{env:=Om d r.v st.env,aB:=apS st.aB r.news,fz:=r.fr++st.fz,kn:=st.kn}
 |w=>{env:=Om d r.v (dgE (FH w) st.env),aB:=apS (IG (FH w) (xI w st.aB)) r.news,fz:=r.fr++st.fz,kn:=st.kn}
def iR.ok(z:List Nat)(r:iR):Bool:=(FH r.wr).all λt=>!has z t
def iR.tr(nx:Nat)(r:iR):Tr:=
 ⟨r.rd++r.fr,FH r.wr,!r.news.isEmpty,adw,(r.rd++r.fr).all (abF · nx)&&(FH r.wr).all (abF · nx),nx,nx+ad7 r.news⟩
def Y4:Tr:=⟨[],[],adu,adu,adu,0,0⟩
def wS{R:Type}:List SB->List SB->js R->js R
 | [],_,k=>k
 |x::xs,y::ys,k=>match x with
  | .arr r l=>match y with
   | .arr q m=>bif FD r q then jx (ad7 m==ad7 l) (wS xs ys k) aU else aU
   | .dead=>wS xs ys k
   |_=>aU
  | .dead=>match y with
   | .dead=>wS xs ys k
   |_=>aU
  | .box _=>match y with
   | .box _=>wS xs ys k
   | .dead=>wS xs ys k
   |_=>aU
  |_=>wS xs ys k
 |_,_,_=>aU
abbrev Inl:=FuncId->List SV->List SB->List Nat-> ∀R:Type,(SV->List SB->List Nat->js R)->js R
section
variable {R : Type}
def aja(_:FuncId)(_:List SV):js R:=aU
def anR(_:FuncId)(_:List SV)(_:List SB):js R:=aU
def SP(f:FuncId)(m:Bool)(s:List SB)(tk:List Nat)(vs:List SV)(k:XRS->js R):List GB->js R
 | []=>aja f vs
 |c::r=>match c.args.dec vs with
  |some a=>bif m==c.ow then oF (c.fn a) λb=>match c.kd with
   | .pure=>k (.loc {v:=c.res.enc b,rd:=tk})
   | .lK=>k (.loc {v:=c.res.enc b,rd:=tk,fr:=tk})
   | .own=>k (.loc {v:=(Cw (ad7 s) (c.res.enc b)).1,news:=(Cw (ad7 s) (c.res.enc b)).2,rd:=tk})else SP f m s tk vs k r
  |none=>SP f m s tk vs k r
mutual
def Qm(g:Nat->Nat):SV->SV
 | .agg cs=> .agg (H8 g cs)
 | .cV cs=> .cV (H8 g cs)
 | .own t ex=> .own (g t) ex
 | .pre t len cap ex=> .pre (g t) len cap ex
 | .part t off len cap ex=> .part (g t) off len cap ex
 | .pa t _ i _ off=> .pb (g t) i off
 | .pb t i off=> .pb (g t) i off
 | .bp t n off=> .bp (g t) n off
 | .bs t n o x=> .bs (g t) n o x
 | .bq t n r off=> .bq (g t) n r off
 | .bZ cs off=> .bZ (H8 g cs) off
 | .mp t=> .mp (g t)
 | .fE f a b=> .fE f (H8 g a) (H8 g b)
 |v=>v
def H8(g:Nat->Nat):List SV->List SV
 | []=>[]
 |x::xs=>Qm g x::H8 g xs
end
def Y5(g:Nat->Nat):SB->SB
 | .box cs=> .box (H8 g cs)
 |b=>b
def Ea(g:Nat->Nat):List Nat->List SB->List (Nat×SB)
 |t::r,b::s=>(t,Y5 g b)::Ea g r s
 |_,_=>[]
def aeF(k:Nat)(v:SV)(s:List SB):Bool:=(SI zE v++s.flatMap Oh).all λt=>abF t k
def fpS(f : FuncId)(n : Nat)(tk : List Nat)(vs : List SV)(s0 : List SB)(k : XRS -> js R) : List fB -> js R
  | [] => anR f vs s0
  | c :: r => bif Cy c.ta vs && JZ c.tb s0 then(match oR c.ka (G2 vs ++ Oj s0)with
      | some a => oF (c.fn a) λb =>
          k (.loc { v := Qm (nK tk n) (zj c.tv (qc c.ko b)).1, wr := Ea (nK tk n) tk (EG c.to (zj c.tv (qc c.ko b)).2).1 })
      | none => fpS f n tk vs s0 k r)else fpS f n tk vs s0 k r
def ME(cx:Ctx)(inl:Inl)(e:SE)(s:List SB)(z:List Nat)(op:oK)(k:XRS->js R):js R:=
 match op with
 | .call m f args=>match m with
  | .pur=>match xG s (nX s deep) (mU e args)with
   |some vs=>SP f adw s (wP (B2 s deep) (mU e args)) vs k (cx.con f)
   |none=>aU
  | .own=>match xG s (nX s deep) (mU e args)with
   |some vs=>SP f adu s (wP (B2 s deep) (mU e args)) vs k (cx.con f)
   |none=>aU
  | .shr=>inl f (mU e args) s z R λv s' z'=>k (.shr v s' z')
  | .fp=>match SH s (nX s deep) (mU e args)with
   |false=>aU
   |true=>let tk:=vz (wP (B2 s deep) (mU e args))
    bif tk.all (λt=>!has z t)then(match yz tk (mU e args),LX s tk tk with
     |some vs,adc s0=>fpS f (ad7 s) tk vs s0 k (cx.fpc f)
     |_,_=>aU)else aU
 | .BJ x args=>match cH e x with
  | .fE f a b=>bif EH (mU e args++b)then inl f (a++mU e args++b) s z R λv s' z'=>k (.shr v s' z')
   else match xG s (nX s deep) (a++mU e args++b)with
   |some vs=>SP f adw s (wP (B2 s deep) (a++mU e args++b)) vs k (cx.con f)
   |none=>aU
  |_=>aU
 |op=>qK e s z op λr=>k (.loc r)
def XW(d:Option Nat)(st:ua)(tr:List Tr)(k:ua->List Tr->js R)(x:XRS):js R:=
 match x with
 | .loc r=>bif r.ok st.fz then acd r.v λv=>k ({r with v}.next d st) (r.tr (ad7 st.aB)::tr)else aU
 | .shr v s z=>acd v λv=>wS st.aB s (bif st.fz.all (has z)then k {env:=Om d v (dgE (zG (ad7 st.aB)) st.env),aB:=s,fz:=z,kn:=st.kn} (Y4::tr)else aU)
def ud(cx:Ctx)(inl:Inl):List cI->ua->List Tr->(ua->List Tr->js R)->js R
 | [],st,tr,k=>k st tr
 |o::r,st,tr,k=>
  let run:=λst:ua=>match o.op with
   | .pick (.t c) a b=>match H3 c st.env with
    | .bool x=>jx x (XW o.dst {st with env:=ED c (.bool adu) st.env} tr (ud cx inl r · · k) (.loc {v:=cH st.env a}))
     (XW o.dst {st with env:=ED c (.bool adw) st.env} tr (ud cx inl r · · k) (.loc {v:=cH st.env b}))
    |_=>aU
   |op=>ME cx inl st.env st.aB st.fz op (XW o.dst st tr (ud cx inl r · · k))
  let skip:=λst:ua=>ud cx inl r {st with env:=Om o.dst .nD st.env} (Tr.idle::tr) k
  match o.guard with
  |none=>run st
  |some (s,want)=>match H3 s st.env with
   | .bool x=>bif want then jx x (run {st with env:=ED s (.bool adu) st.env}) (skip {st with env:=ED s (.bool adw) st.env})
    else jx x (skip {st with env:=ED s (.bool adu) st.env}) (run {st with env:=ED s (.bool adw) st.env})
   | .nD=>skip st
   |_=>aU
def Qn(e:SE):List Nat->(SE->js R)->js R
 | [],k=>k []
 |s::r,k=>acd (H3 s e) λv=>Qn e r λe'=>k ((s,v)::e')
def jnV:SV->SV->SV
 | .undef,_=> .jX
 |_,v=>v
def jnE(o:SE):SE->SE
 | []=>[]
 |(t,v)::r=>(t,jnV (H3 t o) v)::jnE o r
def jnL(o:SE):List Nat->SE
 | []=>[]
 |t::r=>(t,jnV (H3 t o) (H3 t o))::jnL o r
def Wr(o:SE)(ig:List Nat)(st:ua):ua:={st with env:=jnL o ig}
def guards:List cI->Nat
 | []=>0
 |o::r=>match o.guard with
  |none=>guards r
  |some _=>guards r+1
def jnC:mu->Bool
 | .seq (.region _ ops _) (.cond _ _ _)=>abu 8 (guards ops)
 |_=>adw
def jnK:mu->List Nat
 | .seq (.region _ _ ig) _=>ig
 |_=>[]
noncomputable def Cz(cx:Ctx)(inl:Inl):(c:mu)->(R:Type)->ua->(j7->ua->js R)->js R
 | .skip,_,st,k=>k .normal st
 | .region d ops ig,_,st,k=>ud cx inl ops st [] λoh tr=>
  let fin:=Qn oh.env ig λe=>k .normal {oh with env:=e}
  match d with
  |none=>fin
  |some bf=>match wJ 0 (tr.reverse.zip bf)with
   |true=>fin
   |false=>aU
 | .seq a b,R,st,k=>match cx.jn&&jnC a with
  |false=>Cz cx inl a R st λe oh=>match e with
   | .normal=>Cz cx inl b R oh k
   |e=>k e oh
  |true=>ksK (Y1 (si (Wr st.env (jnK a) st))) λks=>match oR ks (si (Wr st.env (jnK a) st))with
   |none=>aU
   |some y0=>λρ w=>UP cx.lp (λy:Bool×kE ks=>jx y.1
    (Cz cx inl a (Step (Bool×kE ks) ρ) st λe BW=>match e with
     | .normal=>bif EF (Wr st.env (jnK a) st) {BW with env:=jnE st.env BW.env}then(match oR ks (si {BW with env:=jnE st.env BW.env})with
      |some y'=>H5 (.next (adw,y'))
      |none=>aU)else aU
     |e=>λB7 w'=>k e BW B7 λr=>w' (.done (w r)))
    (λB7 w'=>Cz cx inl b R (zY (Wr st.env (jnK a) st) (qc ks y.2)) k B7 λr=>w' (.done (w r))) (Step (Bool×kE ks) ρ) λz=>z) (adu,y0)
 | .cond c a b,R,st,k=>match cH st.env c with
  | .bool x=>jx x (Cz cx inl a R st k) (Cz cx inl b R st k)
  |_=>aU
 | .block id b,R,st,k=>Cz cx inl b R st λe oh=>match e with
  | .exit j=>bif If j id then k .normal oh else k (.exit j) oh
  |e=>k e oh
 | .loop live b,_,st,k=>match JY cx.rk live st with
  |none=>aU
  |some rU=>ksK (Y1 (si rU)) λks=>match oR ks (si rU)with
   |none=>aU
   |some y0=>λρ w=>UP cx.lp (λy:kE ks=>Cz cx inl b (Step (kE ks) ρ) (zY rU (qc ks y)) (λe BW=>match e with
    | .normal=>match JY cx.rk live BW with
     |some Ws=>bif EF rU Ws then(match oR ks (si Ws)with
      |some y'=>H5 (.next y')
      |none=>aU)else aU
     |none=>aU
    |e=>λB7 w'=>k e BW B7 λr=>w' (.done (w r))) (Step (kE ks) ρ) λz=>z) y0
 | .exit id,_,st,k=>k (.exit id) st
 | .ret,_,st,k=>k .ret st
def SQ(st:ua):RV->Option SV
 | .tmp t=>adc (H3 t st.env)
 | .cell t agg=>match H3 t st.env with
  | .bp t _ off=>match nth st.aB t with
   |some (.box cs)=>BQ agg off cs
   |_=>ado
  | .bZ cs off=>BQ agg off cs
  |_=>ado
def Du(st:ua):List RV->Option (List SV)
 | []=>adc []
 |r::rs=>match SQ st r,Du st rs with
  |some v,adc vs=>adc (v::vs)
  |_,_=>ado
def G3:List SV->SV
 | [v]=>v
 |vs=> .cV vs
def SS:Nat->List SV->SE
 |_,[]=>[]
 |i,v::r=>(i,v)::SS (i+1) r
noncomputable def UX(cx:Ctx)(inl:Inl)(x:ax)(R:Type)(args:List SV)(s:List SB)(z:List Nat)(k:SV->List SB->List Nat->js R):js R:=
 bif If (ad7 args) x.Jh then Cz cx inl x.code R {env:=SS 0 args,aB:=s,fz:=z,kn:=ad7 s} λe st=>match e with
  | .exit _=>aU
  |_=>match Du st x.res with
   |some vs=>k (G3 vs) st.aB st.fz
   |none=>aU
 else aU
def iR.rh(s:List SB)(r:iR):List SB:=
 match r.wr with
 | []=>apS s r.news
 |w=>apS (IG (FH w) (xI w s)) r.news
def H9:Option FuncId->List SV->Bool
 |none,[]=>adu
 |some g,[.fE h [] []]=>If h g
 |_,_=>adw
structure ajb where
 t:Nat
 r:List PT
 l:List (RT r)
 i:Int
 m:List (RT r)
def acn(aO:Nat)(args:List SV)(s:List SB)(z:List Nat):Option ajb:=
 match args with
 | [.own t _,.int .i64 i,.own u _]=>match nth s t with
  |some (.arr r l)=>match nth s u with
   |some (.arr q m)=>match xF q r m with
    |some m=>bif If (ad7 r) aO&&!Nat.beq t u&&!has z t then adc ⟨t,r,l,i,m⟩else ado
    |none=>ado
   |_=>ado
  |_=>ado
 |_=>ado
def afS(aO:Nat)(args:List SV)(s:List SB)(z:List Nat)(k:SV->List SB->List Nat->js R):js R:=
 match acn aO args s z with
 |some a=>oF (Dr a.l a.i a.m) λl'=>k (.own (ad7 s) adw) (iR.rh s {v:= .own (ad7 s) adw,news:=[.arr a.r l'],wr:=[(a.t,.dead)]}) z
 |none=>aU
structure ajc where
 t:Nat
 r:List PT
 l:List (RT r)
 m:List (RT r)
def aco(args:List SV)(s:List SB)(z:List Nat):Option ajc:=
 match args with
 | [.part t off len _ _]=>match nth s t with
  |some (.box [.sl r l,.sl q m])=>match xF q r m with
   |some m=>bif If (ad7 r) 1&&If off 0&&If len 2&&!has z t then adc ⟨t,r,l,m⟩else ado
   |none=>ado
  |_=>ado
 |_=>ado
def afT(args:List SV)(s:List SB)(z:List Nat)(k:SV->List SB->List Nat->js R):js R:=
 match aco args s z with
 |some a=>oF (Wn a.l a.m) λl'=>k (.own (ad7 s) adw) (iR.rh s {v:= .own (ad7 s) adw,news:=[.arr a.r l'],wr:=[(a.t,.dead)]}) z
 |none=>aU
def acp(r:List PT)(g:Option FuncId)(args:List SV)(s:List SB)(z:List Nat):Option (Nat×Option Nat×List (RT r)):=
 match args with
 | .own t _::a=>match nth s t with
  |some (.arr q l)=>match xF q r l with
   |some l=>bif !has z t&&H9 g a then adc (t,ado,l)else ado
   |none=>ado
  |_=>ado
 | .pre t len _ _::a=>match nth s t with
  |some (.arr q l)=>match xF q r l with
   |some l=>bif !has z t&&H9 g a then adc (t,adc len,l)else ado
   |none=>ado
  |_=>ado
 |_=>ado
def afU(q:Srt)(args:List SV)(s:List SB)(z:List Nat)(k:SV->List SB->List Nat->js R):js R:=
 match acp q.r q.g args s z with
 |some (t,ado,l)=>oF (HZ q.fn l) λm=>k (.cV []) (iR.rh s {v:= .cV [],wr:=[(t,.arr q.r m)]}) z
 |some (t,adc len,l)=>oF (Ds q.fn len l) λm=>k (.cV []) (iR.rh s {v:= .cV [],wr:=[(t,.arr q.r m)]}) z
 |none=>aU
noncomputable def Y6(cx:Ctx):Nat->Inl
 |0=>λ_ _ _ _ _ _=>aU
 |n+1=>λf args s z R k=>match cx.code f with
  |some (.code x)=>UX cx (Y6 cx n) x R args s z k
  |some (.ins e)=>afS e args s z k
  |some (.srt q)=>afU q args s z k
  |some .cat=>afT args s z k
  |none=>aU
def Y7(kd:Kd){β:Type}(res:Arg β)(v:SV)(s:List SB)(z:List Nat):js β:=
 match kd with
 | .pure=>bif EE v then oA (res.dec v) H5 else aU
 | .lK=>bif EE v then aU else oA (YY s v) λu=>oA (res.dec u) H5
 | .own=>oA (Wp s z [] v) λu=>oA (res.dec u.1) H5
noncomputable def UY(cx:Ctx)(x:ax){α β:Type}(args:bR α)(res:Arg β)(kd:Kd)(a:α):Option β:=
 UX cx (Y6 cx 8) x β (args.enc a) [] [] (Y7 kd res) β λb=>b
def J0:List SB->Bool
 | []=>adu
 |b::r=>Dt b&&J0 r
def Ia{R:Type}:List SB->List SB->js R->js R
 | [],[],k=>k
 |x::xs,y::ys,k=>match x with
  | .arr r l=>match y with
   | .arr q m=>bif FD r q then jx (ad7 m==ad7 l) (Ia xs ys k) aU else aU
   |_=>aU
  | .dead=>match y with
   | .dead=>Ia xs ys k
   |_=>aU
  | .box _=>match y with
   | .box _=>Ia xs ys k
   |_=>aU
  | .set _=>match y with
   | .set _=>Ia xs ys k
   |_=>aU
  | .mI _ _=>match y with
   | .mI _ _=>Ia xs ys k
   |_=>aU
 |_,_,_=>aU
noncomputable def anS(wd:Bool)(cx:Ctx)(x:ax)(ka:List AK)(ta:List SV)(tb:List SB)(ko:List AK)(tv:SV)(to:List SB)(a:kE ka):Option (kE ko):=
 UX cx (Y6 cx 8) x (kE ko) (wR ta (qc ka a)).1 (EG tb (wR ta (qc ka a)).2).1 [] (λv s z=>match z with
  | []=>let u:=bif wd then MD s v else v
   let s1:=s.take (ad7 tb)
   bif yA tv u&&JZ to s1&&aeF (ad7 tb) u s1&&u.sure&&J0 s1 then Ia (EG tb (wR ta (qc ka a)).2).1 s1 (oA (oR ko (G1 u++Oj s1)) H5)else aU
  |_=>aU) (kE ko) λb=>b
end
end Go.Vm
/- The types of arguments and results, as cells. -/
namespace Go.Vm
theorem ug{r q:List PT}{l:List _}{m:List _}(h:xF r q l=adc m): ∃e:r=q,m=e▸l:=by
 unfold xF at h
 grind
theorem FI{r q:List PT}{l:List _}{m:List _}(h:xF r q l=adc m):r=q/\m.map (RT.pv q)=l.map (RT.pv r)/\ad7 m=(ad7 l):=by
 grind[ug]
theorem fV{x:SV}{xs:List SV}{ps:List PV}:tN (x::xs)=adc ps↔ ∃p qs,ps=p::qs/\xH x=adc p/\tN xs=adc qs:=by
 simp[tN]
 grind
theorem EI: ∀{xs ys:List SV} {p q:List PV},tN xs=adc p->tN ys=adc q->tN (xs++ys)=adc (p++q)
 | [],ys,p,q,h,k=>by simp[tN,]at h;subst h;exact k
 |x::xs,ys,p,q,h,k=>by obtain⟨a,as,rfl,h1,h2⟩:=fV.1 h;exact fV.2 ⟨a,as++q,rfl,h1,EI h2 k⟩
theorem PT.uU: ∀{p:PT} {v:SV} {a:p.T},p.of v=adc a->v=p.sv a
 | .i k,.int l n,a,h=>by
  simp[PT.of]at h;cases hk:hO l k with
  |false=>grind
  |true=>rw[hk]at h;injection h with h;subst h;rw[gO.1 hk];rfl
 | .b,.bool x,a,h=>by injection h with h;subst h;rfl
 | .i k,.bool _,a,h=>by cases h
 | .b,.int _ _,a,h=>by cases h
 | .i _,.jX,a,h| .i _,.undef,a,h| .i _,.nD,a,h| .i _,.fv,a,h| .i _,.str _,a,h| .i _,.agg _,a,h| .i _,.cV _,a,h| .i _,.sl _ _,a,h| .i _,.nil _ _,a,h| .i _,.own _ _,a,h| .i _,.pre _ _ _ _,a,h| .i _,.part _ _ _ _ _,a,h| .i _,.pa _ _ _ _ _,a,h| .i _,.pb _ _ _,a,h| .i _,.bp _ _ _,a,h| .i _,.bZ _ _,a,h| .i _,.fE _ _ _,a,h| .i _,.mp _,a,h=>by cases h
 | .b,.jX,a,h| .b,.undef,a,h| .b,.nD,a,h| .b,.fv,a,h| .b,.str _,a,h| .b,.agg _,a,h| .b,.cV _,a,h| .b,.sl _ _,a,h| .b,.nil _ _,a,h| .b,.own _ _,a,h| .b,.pre _ _ _ _,a,h| .b,.part _ _ _ _ _,a,h| .b,.pa _ _ _ _ _,a,h| .b,.pb _ _ _,a,h| .b,.bp _ _ _,a,h| .b,.bZ _ _,a,h| .b,.fE _ _ _,a,h| .b,.mp _,a,h=>by cases h
theorem RT.uU: ∀{r:List PT} {vs:List SV} {a:RT r},RT.of r vs=adc a->vs=RT.sv r a
 | [],[],a,_=>rfl
 | [p],[v],a,h=>by have:=PT.uU h;rw[this];rfl
 |p::q::r,v::vs,a,h=>by
  simp[RT.of]at h;split at h
  ·rename_i x y h1 h2
   injection h with h;subst h;rw[PT.uU h1,RT.uU h2];rfl
  cases h
 | [],_::_,a,h=>by simp[RT.of]at h
 | [p],[],a,h=>by simp[RT.of]at h
 | [p],_::_::_,a,h=>by simp[RT.of]at h
 |_::_::_,[],a,h=>by simp[RT.of]at h
theorem PT.MF(p:PT)(a:p.T):xH (p.sv a)=adc (p.pv a):=by cases p<;>rfl
theorem RT.MF: ∀(r:List PT) (a:RT r),tN (RT.sv r a)=adc (RT.pv r a)
 | [],_=>rfl
 | [p],a=>fV.2 ⟨_,_,rfl,PT.MF p a,rfl⟩
 |p::q::r,a=>fV.2 ⟨_,_,rfl,PT.MF p a.1,RT.MF _ a.2⟩
theorem RT.CA: ∀(r:List PT) (a:RT r),(RT.pv r a).length=ad7 r
 | [],_=>rfl
 | [p],a=>rfl
 |p::q::r,a=>by simp[RT.pv,RT.CA _ a.2]
theorem RT.On: ∀(r:List PT) (a:RT r),(RT.sv r a).length=ad7 r
 | [],_=>rfl
 | [p],a=>rfl
 |p::q::r,a=>by simp[RT.sv,RT.On _ a.2]
theorem MG: ∀(n:Nat) {vs:List SV} {ps:List PV},tN vs=adc ps-> ∃p q,ps=p++q/\tN (vs.take n)=adc p/\tN (vs.drop n)=adc q
 |0,vs,ps,h=>⟨[],ps,rfl,by simp[tN],by simpa using h⟩
 |n+1,[],ps,h=>⟨[],ps,rfl,by simp[tN],by simpa using h⟩
 |n+1,v::vs,ps,h=>by obtain⟨p,qs,rfl,h1,h2⟩:=fV.1 h;obtain⟨a,b,rfl,h3,h4⟩:=MG n h2;exact⟨p::a,b,rfl,by exact fV.2 ⟨p,a,rfl,h1,h3⟩,by simpa using h4⟩
def bU.int(k:IntKind):bU Int where
 enc n:=[.int k n]
 dec vs:=match vs with
  | .int l n::r=>bif hO l k then adc (n,r)else ado
  |_=>ado
 law:=λ{vs a rest ps} h hp=>by
  split at h
  ·rename_i l n r
   cases hk:hO l k with
   |false=>rw[hk]at h;cases h
   |true=>rw[hk]at h;simp only[v6,PP,abq]at h;obtain⟨rfl,rfl⟩:=h;obtain⟨p,qs,rfl,h1,h2⟩:=fV.1 hp;rw[gO.1 hk]at h1;exact⟨[p],qs,rfl,fV.2 ⟨p,[],rfl,h1,rfl⟩,h2⟩
  cases h
def bU.bool:bU Bool where
 enc n:=[.bool n]
 dec vs:=match vs with
  | .bool n::r=>adc (n,r)
  |_=>ado
 law:=λ{vs a rest ps} h hp=>by
  split at h
  ·simp only[PP,abq]at h
   obtain⟨rfl,rfl⟩:=h;obtain⟨p,qs,rfl,h1,h2⟩:=fV.1 hp;exact⟨[p],qs,rfl,fV.2 ⟨p,[],rfl,h1,rfl⟩,h2⟩
  cases h
def UZ(r:List PT):SV->Option (List (RT r))
 | .sl q l=>xF q r l
 | .nil e c=>bif If e (ad7 r)&&!c then adc []else ado
 |_=>ado
theorem MH{r:List PT}{v:SV}{l:List _}{p:PV}(h:UZ r v=adc l)(hp:xH v=adc p):xH (.sl r l)=adc p:=by
 cases v with
 |sl q m=>obtain⟨rfl,h2,_⟩:=FI h;rw[<-hp];simp[xH,h2]
 |nil e c=>
  simp[UZ]at h;cases hc:(If e (ad7 r)&&!c)with
  |false=>grind
  |true=>rw[hc]at h;injection h with h;subst h;simp[]at hc;obtain⟨rfl,rfl⟩:=hc;rw[<-hp];rfl
 |_=>cases h
def bU.sl(r:List PT):bU (List (RT r)) where
 enc l:=[.sl r l]
 dec vs:=match vs with
  |v::rest=>match UZ r v with
   |some l=>adc (l,rest)
   |none=>ado
  | []=>ado
 law:=λ{vs a rest ps} h hp=>by
  split at h
  ·split at h
   ·rename_i v r' x l hl
    simp only[PP,abq]at h;obtain⟨rfl,rfl⟩:=h;obtain⟨p,qs,rfl,h1,h2⟩:=fV.1 hp;exact⟨[p],qs,rfl,fV.2 ⟨p,[],rfl,MH hl h1,rfl⟩,h2⟩
   cases h
  cases h
def bU.row(r:List PT):bU (RT r) where
 enc:=RT.sv r
 dec vs:=match RT.of r (vs.take (ad7 r))with
  |some a=>adc (a,vs.drop (ad7 r))
  |none=>ado
 law:=λ{vs a rest ps} h hp=>by
  split at h
  ·rename_i x hx
   simp only[PP,abq]at h;obtain⟨rfl,rfl⟩:=h;obtain⟨p,q,rfl,h1,h2⟩:=MG (ad7 r) hp;rw[RT.uU hx]at h1;exact⟨p,q,rfl,h1,h2⟩
  cases h
def bU.prod{α β:Type}(A:bU α)(B:bU β):bU (α×β) where
 enc p:=A.enc p.1++B.enc p.2
 dec vs:=match A.dec vs with
  |some p=>match B.dec p.2 with
   |some q=>adc ((p.1,q.1),q.2)
   |none=>ado
  |none=>ado
 law:=λ{vs a rest ps} h hp=>by
  split at h
  ·rename_i p hA
   split at h
   ·rename_i q hB
    simp only[PP,abq]at h;obtain⟨rfl,rfl⟩:=h;obtain⟨p1,p2,rfl,h1,h2⟩:=A.law (a:=p.1) (rest:=p.2) hA hp;obtain⟨q1,q2,rfl,h3,h4⟩:=B.law (a:=q.1) (rest:=q.2) hB h2;exact⟨p1++q1,q2,by simp,EI h1 h3,h4⟩
   cases h
  cases h
def bU.SU{α β:Type}(A:bU α)(f:α->β)(g:β->α)(h: ∀a,g (f a)=a):bU β where
 enc b:=A.enc (g b)
 dec vs:=match A.dec vs with
  |some p=>adc (f p.1,p.2)
  |none=>ado
 law:=λ{vs a rest ps} hd hp=>by
  split at hd
  ·rename_i p hA
   simp only[PP,abq]at hd;obtain⟨rfl,rfl⟩:=hd;rw[h];exact A.law hA hp
  cases hd
def Arg.int(k:IntKind):Arg Int where
 enc n:= .int k n
 dec v:=match v with
  | .int l n=>bif hO l k then adc n else ado
  |_=>ado
 law:=λ{v a p} h hp=>by
  split at h
  ·rename_i l n
   cases hk:hO l k with
   |false=>rw[hk]at h;cases h
   |true=>rw[hk]at h;injection h with h;subst h;rw[gO.1 hk]at hp;exact hp
  cases h
def Arg.bool:Arg Bool where
 enc n:= .bool n
 dec v:=match v with
  | .bool n=>adc n
  |_=>ado
 law:=λ{v a p} h hp=>by
  split at h
  ·injection h with h;subst h;exact hp
  cases h
def Arg.sl(r:List PT):Arg (List (RT r)) where
 enc l:= .sl r l
 dec:=UZ r
 law:=MH
def Arg.agg{α:Type}(A:bU α):Arg α where
 enc a:= .agg (A.enc a)
 dec v:=match v with
  | .agg cs=>match A.dec cs with
   |some p=>match p.2 with
    | []=>adc p.1
    |_=>ado
   |none=>ado
  |_=>ado
 law:=λ{v a p} h hp=>by
  split at h
  ·rename_i cs
   split at h
   ·rename_i q hA
    obtain⟨x,rest⟩:=q;dsimp only at h;cases rest with
    |cons _ _=>cases h
    |nil=>
     injection h with h;subst h;simp only[xH]at hp;cases hc:tN cs with
     |none=>rw[hc]at hp;cases hp
     |some l=>rw[hc]at hp;injection hp with hp;subst hp;obtain⟨p1,p2,rfl,h1,h2⟩:=A.law hA hc;simp only[tN,PP]at h2;subst h2;simp only[xH,h1,abS]
   cases h
  cases h
def Arg.ref{α:Type}(A:bU α):Arg α where
 enc a:= .bZ (A.enc a) 0
 dec v:=match v with
  | .bZ cs 0=>match A.dec cs with
   |some p=>match p.2 with
    | []=>adc p.1
    |_=>ado
   |none=>ado
  |_=>ado
 law:=λ{v a p} h hp=>by
  split at h
  ·rename_i cs
   split at h
   ·rename_i q hA
    obtain⟨x,rest⟩:=q;dsimp only at h;cases rest with
    |cons _ _=>cases h
    |nil=>
     injection h with h;subst h;simp only[xH]at hp;cases hc:tN cs with
     |none=>rw[hc]at hp;cases hp
     |some l=>rw[hc]at hp;injection hp with hp;subst hp;obtain⟨p1,p2,rfl,h1,h2⟩:=A.law hA hc;simp only[tN,PP]at h2;subst h2;simp only[xH,h1,abS]
   cases h
  cases h
def bR.nil:bR Unit where
 enc _:=[]
 dec vs:=match vs with
  | []=>adc ()
  |_=>ado
 law:=λ{vs a ps} h hp=>by
  split at h
  ·exact hp
  cases h
def bR.one{α:Type}(A:Arg α):bR α where
 enc a:=[A.enc a]
 dec vs:=match vs with
  | [v]=>A.dec v
  |_=>ado
 law:=λ{vs a ps} h hp=>by
  split at h
  ·obtain⟨p,qs,rfl,h1,h2⟩:=fV.1 hp
   exact fV.2 ⟨p,qs,rfl,A.law h h1,h2⟩
  cases h
def bR.cons{α β:Type}(A:Arg α)(B:bR β):bR (α×β) where
 enc a:=A.enc a.1::B.enc a.2
 dec vs:=match vs with
  |v::r=>match A.dec v with
   |some x=>match B.dec r with
    |some y=>adc (x,y)
    |none=>ado
   |none=>ado
  | []=>ado
 law:=λ{vs a ps} h hp=>by
  split at h
  ·split at h
   ·rename_i x hx
    split at h
    ·rename_i y hy
     injection h with h;subst h;obtain⟨p,qs,rfl,h1,h2⟩:=fV.1 hp;exact fV.2 ⟨p,qs,rfl,A.law hx h1,B.law hy h2⟩
    cases h
   cases h
  cases h
def Arg.cV{α:Type}(A:bR α):Arg α where
 enc a:= .cV (A.enc a)
 dec v:=match v with
  | .cV vs=>A.dec vs
  |_=>ado
 law:=λ{v a p} h hp=>by
  split at h
  ·rename_i vs
   simp only[xH]at hp;cases hc:tN vs with
   |none=>rw[hc]at hp;cases hp
   |some l=>rw[hc]at hp;injection hp with hp;subst hp;simp only[xH,A.law h hc]
  cases h
def Arg.fE{α:Type}(f:FuncId)(A:bR α):Arg α where
 enc a:= .fE f [] (A.enc a)
 dec v:=match v with
  | .fE g [] b=>bif If g f then A.dec b else ado
  |_=>ado
 law:=λ{v a p} h hp=>by
  split at h
  ·rename_i g b
   cases hg:If g f with
   |false=>rw[hg]at h;cases h
   |true=>
    rw[hg]at h;have:=Nat.eq_of_beq_eq_true hg;subst this;simp only[xH,tN]at hp ⊢;cases hc:tN b with
    |none=>rw[hc]at hp;cases hp
    |some l=>rw[hc]at hp;rw[A.law h hc];exact hp
  cases h
def GB.rows{α:Type}(A:Arg α)(q r:List PT)(g:α->List (RT q))(fn:List (RT q)->Option (List (RT r))):GB:=⟨.one A,.sl r,λa=>fn (g a),.own,adw⟩
def GB.clone(r:List PT):GB:=⟨.one (.sl r),.sl r,cN,.own,adw⟩
def uh(a b c:Int):Option (Int×Int):=bif ae0 (0<=a)&&ae0 (0<=b)&&ae0 (0<=c)&&ae0 (c<=1)then adc ((a+b+c)%18446744073709551616,(a+b+c) / 18446744073709551616)else ado
def GB.U1:GB:=⟨.cons (.int .u64) (.cons (.int .u64) (.one (.int .u64))),.cV (.cons (.int .u64) (.one (.int .u64))),λa=>uh a.1 a.2.1 a.2.2,.pure,adw⟩
def Qo:List (Nat×GB)->FuncId->List GB
 | [],_=>[]
 |(g,c)::r,f=>bif If g f then c::Qo r f else Qo r f
def Qp:List (Nat×fB)->FuncId->List fB
 | [],_=>[]
 |(g,c)::r,f=>bif If g f then c::Qp r f else Qp r f
def Oo:List (Nat×Cd)->FuncId->Option Cd
 | [],_=>ado
 |(g,c)::r,f=>bif If g f then adc c else Oo r f
def yi(lp:Option Nat)(c:List (Nat×GB))(p:List (Nat×fB))(x:List (Nat×Cd))(rk:List (Nat×List PT)):Ctx:=⟨lp,Qo c,Qp p,Oo x,rk,adw⟩
end Go.Vm
/- What a typed value says of a value of the logical machine. -/
namespace Go.Vm
def OwnAt(s:List SB)(t e n:Nat):Prop:=(∃r l,s[t]? =adc (.arr r l)/\e=ad7 r/\n=ad7 l)\/s[t]? =adc .dead
def Eb(s:List SB)(t e:Nat):Prop:=(∃r l,s[t]? =adc (.arr r l)/\e=ad7 r)\/s[t]? =adc .dead\/(∃cs,s[t]? =adc (.box cs)/\e=1)
def Y8(s:List SB)(t:Nat)(r:List PT)(i:Int)(a:RT r):Prop:=(∃l,s[t]? =adc (.arr r l)/\aF l i=adc a)\/s[t]? =adc .dead
def afV(s:List SB)(t:Nat)(i:Int):Prop:=(∃r l,s[t]? =adc (.arr r l)/\(aF l i).isSome=adu)\/s[t]? =adc .dead
mutual
def R(s:List SB):SV->PV->Prop
 | .jX,_=>True
 | .undef,v=>v= .undef
 | .nD,v=>v= .nD
 | .fv,v=>v= .fv
 | .int k n,v=>v= .int k n
 | .bool b,v=>v= .bool b
 | .str x,v=>v= .str x
 | .agg cs,v=> ∃ps,v= .agg ps/\RL s cs ps
 | .cV cs,v=> ∃ps,v= .cV ps/\RL s cs ps
 | .sl r l,v=>v= .sl (ad7 r) adw (l.map (RT.pv r))
 | .nil e c,v=>v= .sl e c []
 | .own t ex,v=> ∃e n,v= .own t e 0 n n ex/\OwnAt s t e n
 | .pre t len cap ex,v=> ∃e,v= .own t e 0 len cap ex/\Eb s t e
 | .part t off len cap ex,v=> ∃e,v= .own t e off len cap ex/\Eb s t e
 | .pa t r i a off,v=>v= .ptr t (ad7 r) i.toNat off/\Y8 s t r i a
 | .pb t i off,v=> ∃e,v= .ptr t e i.toNat off/\afV s t i
 | .bp t n off,v=>v= .ptr t n 0 off
 | .bs t e n ex,v=>v= .own t e 0 n n ex
 | .bq t e r off,v=>v= .ptr t e r off
 | .bZ cs off,v=> ∃ps,v= .bZ ps off/\RL s cs ps
 | .fE f a b,v=> ∃pa pb,v= .fE f pa pb/\RL s a pa/\RL s b pb
 | .mp t,v=>v= .mp t
def RL(s:List SB):List SV->List PV->Prop
 | [],ps=>ps=[]
 |x::xs,ps=> ∃p q,ps=p::q/\R s x p/\RL s xs q
end
def yj:List Int->PV
 | [a]=> .int .i64 a
 |l=> .agg (l.map (.int .i64))
def G4(k:List Int):PV×PV:=(yj k,.bool adu)
def J1(p:PT)(a:RT [.i .i64,p]):PV×PV:=(.int .i64 a.1,p.pv a.2)
def RB(s:List SB):SB->ox->Prop
 | .arr r l,b=>b= .arr (ad7 r) (l.map (RT.pv r))
 | .box cs,b=> ∃ps,b= .box ps/\RL s cs ps
 | .set l,b=>b= .map (l.map G4)
 | .mI p l,b=>b= .map (l.map (J1 p))
 | .dead,b=>b= .dead
structure de(s:List SB)(p:di):Prop where
 len:(ad7 p)=ad7 s
 at_: ∀(t:Nat) (b:SB),s[t]? =adc b-> ∃q,p[t]? =adc q/\RB s b q
def eS(s:List SB):SE->Env->Prop
 | [],e=>e=[]
 |(t,v)::r,e=> ∃p q,e=(t,p)::q/\R s v p/\eS s r q
structure Dv(st:ua)(p:St):Prop where
 env:eS st.aB st.env p.env
 aB:de st.aB p.aB
 fz:p.fz=st.fz
 kn:p.kn=st.kn
theorem qg: ∀(s l:List SB),apS s l=s++l
 | [],_=>rfl
 |b::r,l=>by simp[apS,qg r l]
theorem FJ: ∀(s:List SB) (t:Nat) (b:SB),Y3 s t b=s.set t b
 | [],_,_=>by simp[Y3]
 |_::_,0,_=>rfl
 |x::r,n+1,b=>by simp[Y3,FJ r n b]
theorem RL.nil{s:List SB}:RL s [] []:=rfl
theorem RL.cons{s:List SB}{x:SV}{xs:List SV}{p:PV}{q:List PV}(h:R s x p)(k:RL s xs q):RL s (x::xs) (p::q):=⟨p,q,rfl,h,k⟩
theorem RL.cons_inv{s:List SB}{x:SV}{xs:List SV}{ps:List PV}(h:RL s (x::xs) ps): ∃p q,ps=p::q/\R s x p/\RL s xs q:=h
theorem RL.pN{s:List SB}: ∀{xs:List SV} {ps:List PV},RL s xs ps->ad7 ps=ad7 xs
 | [],ps,h=>by rw[h];rfl
 |x::xs,ps,h=>by obtain⟨p,q,rfl,_,h2⟩:=h.cons_inv;simp[h2.pN]
theorem RL.append{s:List SB}: ∀{xs:List SV} {ps:List PV},RL s xs ps-> ∀{ys:List SV} {qs:List PV},RL s ys qs->RL s (xs++ys) (ps++qs)
 | [],ps,h,_,_,k=>by rw[h];exact k
 |x::xs,ps,h,_,_,k=>by obtain⟨p,q,rfl,h1,h2⟩:=h.cons_inv;exact RL.cons h1 (h2.append k)
theorem RL.take{s:List SB}: ∀{xs:List SV} {ps:List PV},RL s xs ps-> ∀n,RL s (xs.take n) (ps.take n)
 | [],ps,h,n=>by rw[h];simp;exact RL.nil
 |x::xs,ps,h,0=>by rfl
 |x::xs,ps,h,n+1=>by obtain⟨p,q,rfl,h1,h2⟩:=h.cons_inv;exact RL.cons h1 (h2.take n)
theorem RL.drop{s:List SB}: ∀{xs:List SV} {ps:List PV},RL s xs ps-> ∀n,RL s (xs.drop n) (ps.drop n)
 | [],ps,h,n=>by rw[h];simp;exact RL.nil
 |x::xs,ps,h,0=>h
 |x::xs,ps,h,n+1=>by obtain⟨p,q,rfl,h1,h2⟩:=h.cons_inv;exact h2.drop n
theorem RL.nth{s:List SB}: ∀{xs:List SV} {ps:List PV},RL s xs ps-> ∀{n:Nat} {v:SV},Vm.nth xs n=adc v-> ∃p,ps[n]? =adc p/\R s v p
 | [],_,_,_,_,e=>by cases e
 |x::xs,ps,h,0,v,e=>by obtain⟨p,q,rfl,h1,_⟩:=h.cons_inv;injection e with e;grind
 |x::xs,ps,h,n+1,v,e=>by
  obtain⟨p,q,rfl,_,h2⟩:=h.cons_inv;obtain⟨p',h3,h4⟩:=h2.nth e
  grind
mutual
theorem SW(s:List SB): ∀v:PV,R s (acb v) v
 | .undef=>rfl
 | .nD=>rfl
 | .fv=>rfl
 | .int _ _=>rfl
 | .bool _=>rfl
 | .str _=>rfl
 | .agg cs=>⟨cs,rfl,AT s cs⟩
 | .cV cs=>⟨cs,rfl,AT s cs⟩
 | .sl e c rows=>by
  cases rows with
  |nil=>exact rfl
  |cons _ _=>trivial
 | .fE f a b=>⟨a,b,rfl,AT s a,AT s b⟩
 | .own .. =>trivial
 | .ptr .. =>trivial
 | .bZ .. =>trivial
 | .mp _=>trivial
theorem AT(s:List SB): ∀l:List PV,RL s (H4 l) l
 | []=>rfl
 |x::xs=>RL.cons (SW s x) (AT s xs)
end
theorem eS.lk{s:List SB}: ∀{e:SE} {p:Env},eS s e p-> ∀t,R s (H3 t e) (Vm.lk t p)
 | [],p,h,t=>by rw[h];rfl
 |(u,v)::r,p,h,t=>by
  obtain⟨q,qs,rfl,h1,h2⟩:=h;simp only[H3,Vm.lk];cases hb:If u t with
  |true=>exact h1
  |false=>exact eS.lk h2 t
theorem eS.ED{s:List SB}: ∀{e:SE} {p:Env},eS s e p-> ∀{t:Nat} {v:SV},R s v (Vm.lk t p)->eS s (Vm.ED t v e) p
 | [],p,h,t,v,_=>h
 |(u,x)::r,p,h,t,v,hv=>by
  obtain⟨q,qs,rfl,h1,h2⟩:=h;simp[Vm.ED];simp only[Vm.lk]at hv;cases hb:If u t with
  |true=>rw[hb]at hv;exact⟨q,qs,rfl,hv,h2⟩
  |false=>rw[hb]at hv;exact⟨q,qs,rfl,h1,eS.ED h2 hv⟩
theorem eO{s:List SB}{e:SE}{p:Env}(h:eS s e p): ∀x:ib,R s (cH e x) (x.ev p)
 | .t n=>h.lk n
 | .c v=>SW s v
theorem Dw{s:List SB}{e:SE}{p:Env}(h:eS s e p): ∀l:List ib,RL s (mU e l) (LF p l)
 | []=>rfl
 |x::xs=>RL.cons (eO h x) (Dw h xs)
def Fr(bad:List Nat)(s s':List SB):Prop:= ∀(t:Nat) (b:SB),s[t]? =adc b->match b with
 | .arr r l=>(∃l',s'[t]? =adc (.arr r l')/\ad7 l'=ad7 l/\(has bad t=adw->l'=l))\/s'[t]? =adc .dead
 | .dead=>s'[t]? =adc .dead
 | .box _=>(∃cs,s'[t]? =adc (.box cs))\/s'[t]? =adc .dead
 |_=>True
theorem Fr.refl(bad:List Nat)(s:List SB):Fr bad s s:=λt b h=>by
 grind
theorem Fr.app(bad:List Nat)(s l:List SB):Fr bad s (s++l):=λt b h=>by
 grind
theorem Fr.trans{bad:List Nat}{a b c:List SB}(h:Fr bad a b)(k:Fr bad b c):Fr bad a c:=λt x hx=>by
 have h1:=h t x hx;cases x with
 |arr r l=>
  rcases h1 with⟨l',h2,h3,h4⟩|h2
  ·have k1:=k t _ h2
   grind
  exact .inr (k t _ h2)
 |dead=>exact k t _ h1
 |box cs=>
  rcases h1 with⟨c2,h2⟩|h2
  ·exact k t _ h2
  exact .inr (k t _ h2)
 |_=>trivial
theorem Ib{α:Type}{l m:List α}{i:Int}(h:(aF l i).isSome=adu)(hl:(ad7 m)=ad7 l):(aF m i).isSome=adu:=by
 cases i with
 |ofNat n=>
  simp[aF]at h ⊢
  grind
 |negSucc n=>simp[aF]at h
mutual
theorem R.fr{bad:List Nat}{s s':List SB}(hf:Fr bad s s'): ∀{v:SV} {p:PV},R s v p->R s' (dgV bad v) p
 | .jX,_,_=>trivial
 | .undef,_,h=>h
 | .nD,_,h=>h
 | .fv,_,h=>h
 | .int _ _,_,h=>h
 | .bool _,_,h=>h
 | .str _,_,h=>h
 | .agg cs,_,h=>by obtain⟨ps,rfl,h⟩:=h;exact⟨ps,rfl,RL.fr hf h⟩
 | .cV cs,_,h=>by obtain⟨ps,rfl,h⟩:=h;exact⟨ps,rfl,RL.fr hf h⟩
 | .sl _ _,_,h=>h
 | .nil _ _,_,h=>h
 | .own t ex,_,h=>by
  obtain⟨e,n,rfl,h⟩:=h;refine⟨e,n,rfl,?_⟩;rcases h with⟨r,l,h1,h2,h3⟩|h1
  ·rcases hf t _ h1 with⟨l',k1,k2,_⟩|k1
   ·exact .inl ⟨r,l',k1,h2,by rw[h3,k2]⟩
   exact .inr k1
  exact .inr (hf t _ h1)
 | .pre t len cap ex,_,h=>by
  obtain⟨e,rfl,h⟩:=h;refine⟨e,rfl,?_⟩;rcases h with⟨r,l,h1,h2⟩|h1|⟨cs,h1,h2⟩
  ·rcases hf t _ h1 with⟨l',k1,_,_⟩|k1
   ·exact .inl ⟨r,l',k1,h2⟩
   exact .inr (.inl k1)
  ·exact .inr (.inl (hf t _ h1))
  rcases hf t _ h1 with⟨c2,k1⟩|k1
  ·exact .inr (.inr ⟨c2,k1,h2⟩)
  exact .inr (.inl k1)
 | .part t off len cap ex,_,h=>by
  obtain⟨e,rfl,h⟩:=h;refine⟨e,rfl,?_⟩;rcases h with⟨r,l,h1,h2⟩|h1|⟨cs,h1,h2⟩
  ·rcases hf t _ h1 with⟨l',k1,_,_⟩|k1
   ·exact .inl ⟨r,l',k1,h2⟩
   exact .inr (.inl k1)
  ·exact .inr (.inl (hf t _ h1))
  rcases hf t _ h1 with⟨c2,k1⟩|k1
  ·exact .inr (.inr ⟨c2,k1,h2⟩)
  exact .inr (.inl k1)
 | .pa t r i a off,_,h=>by
  obtain⟨rfl,h⟩:=h;simp[dgV];cases hb:has bad t with
  |true=>
   refine⟨_,rfl,?_⟩;rcases h with⟨l,h1,h2⟩|h1
   ·rcases hf t _ h1 with⟨l',k1,k2,_⟩|k1
    ·exact .inl ⟨r,l',k1,Ib (by rw[h2];rfl) k2⟩
    exact .inr k1
   exact .inr (hf t _ h1)
  |false=>
   refine⟨rfl,?_⟩;rcases h with⟨l,h1,h2⟩|h1
   ·rcases hf t _ h1 with⟨l',k1,_,k3⟩|k1
    ·exact .inl ⟨l',k1,by grind⟩
    exact .inr k1
   exact .inr (hf t _ h1)
 | .pb t i off,_,h=>by
  obtain⟨e,rfl,h⟩:=h;refine⟨e,rfl,?_⟩;rcases h with⟨r,l,h1,h2⟩|h1
  ·rcases hf t _ h1 with⟨l',k1,k2,_⟩|k1
   ·exact .inl ⟨r,l',k1,Ib h2 k2⟩
   exact .inr k1
  exact .inr (hf t _ h1)
 | .bp _ _ _,_,h=>h
 | .bs _ _ _ _,_,h=>h
 | .bq _ _ _ _,_,h=>h
 | .bZ cs off,_,h=>by obtain⟨ps,rfl,h⟩:=h;exact⟨ps,rfl,RL.fr hf h⟩
 | .fE f a b,_,h=>by obtain⟨pa,pb,rfl,h1,h2⟩:=h;exact⟨pa,pb,rfl,RL.fr hf h1,RL.fr hf h2⟩
 | .mp _,_,h=>h
theorem RL.fr{bad:List Nat}{s s':List SB}(hf:Fr bad s s'): ∀{v:List SV} {p:List PV},RL s v p->RL s' (Y2 bad v) p
 | [],_,h=>h
 |x::xs,_,h=>by obtain⟨p,q,rfl,h1,h2⟩:=h.cons_inv;exact RL.cons (R.fr hf h1) (RL.fr hf h2)
end
mutual
theorem U2: ∀v:SV,dgV [] v=v
 | .jX| .undef| .nD| .fv| .int _ _| .bool _| .str _| .sl _ _| .nil _ _| .own _ _| .pre _ _ _ _| .part _ _ _ _ _| .pb _ _ _| .bp _ _ _| .bs _ _ _ _| .bq _ _ _ _| .mp _=>rfl
 | .agg cs=>by simp[dgV,yB cs]
 | .cV cs=>by simp[dgV,yB cs]
 | .bZ cs _=>by simp[dgV,yB cs]
 | .fE _ a b=>by simp[dgV,yB a,yB b]
 | .pa t r i a off=>by simp[dgV,has]
theorem yB: ∀v:List SV,Y2 [] v=v
 | []=>rfl
 |x::xs=>by simp[Y2,U2 x,yB xs]
end
theorem R.ext{s s':List SB}(hf:Fr [] s s'){v:SV}{p:PV}(h:R s v p):R s' v p:=by
 have:=R.fr hf h
 rwa [U2]at this
theorem RL.ext{s s':List SB}(hf:Fr [] s s'){v:List SV}{p:List PV}(h:RL s v p):RL s' v p:=by
 have:=RL.fr hf h
 rwa [yB]at this
theorem RB.fr{bad:List Nat}{s s':List SB}(hf:Fr bad s s'){b:SB}{p:ox}(h:RB s b p):RB s' (dgB bad b) p:=by
 cases b with
 |box cs=>obtain⟨ps,rfl,h⟩:=h;exact⟨ps,rfl,RL.fr hf h⟩
 |_=>exact h
theorem RB.ext{s s':List SB}(hf:Fr [] s s'){b:SB}{p:ox}(h:RB s b p):RB s' b p:=by
 cases b with
 |box cs=>obtain⟨ps,rfl,h⟩:=h;exact⟨ps,rfl,RL.ext hf h⟩
 |_=>exact h
theorem eS.fr{bad:List Nat}{s s':List SB}(hf:Fr bad s s'): ∀{e:SE} {p:Env},eS s e p->eS s' (dgE bad e) p
 | [],_,h=>h
 |(t,v)::r,_,h=>by obtain⟨p,q,rfl,h1,h2⟩:=h;exact⟨p,q,rfl,R.fr hf h1,eS.fr hf h2⟩
theorem eS.ext{s s':List SB}(hf:Fr [] s s'): ∀{e:SE} {p:Env},eS s e p->eS s' e p
 | [],_,h=>h
 |(t,v)::r,_,h=>by obtain⟨p,q,rfl,h1,h2⟩:=h;exact⟨p,q,rfl,R.ext hf h1,eS.ext hf h2⟩
theorem de.app{s:List SB}{p:di}(h:de s p){l:List SB}{q:di}(hl:(ad7 q)=ad7 l)(hb: ∀(j:Nat) (b:SB),l[j]? =adc b-> ∃x,q[j]? =adc x/\RB (s++l) b x):de (s++l) (p++q) where
 len:=by simp[h.len,hl]
 at_:=λt b ht=>by
  rcases aaQ t (ad7 s)with iL|hge
  ·rw[NE iL]at ht
   obtain⟨x,h1,h2⟩:=h.at_ t b ht;exact⟨x,by grind,h2.ext (Fr.app [] s l)⟩
  rw[aai hge]at ht
  obtain⟨x,h1,h2⟩:=hb _ b ht;exact⟨x,by rw[aai (by rw[h.len];exact hge),h.len];exact h1,h2⟩
theorem wT(ts:List Nat): ∀(s:List SB) (t:Nat),(IG ts s)[t]? =(s[t]?).map (dgB ts)
 | [],t=>by simp[IG]
 |b::r,0=>by simp[IG]
 |b::r,t+1=>by simp[IG,wT ts r t]
theorem AU(ts:List Nat): ∀(s:List SB),(IG ts s).length=ad7 s
 | []=>rfl
 |b::r=>by simp[IG,AU ts r]
theorem Fr.dg{bad ts:List Nat}{s s':List SB}(h:Fr bad s s'):Fr bad s (IG ts s'):=λt b hb=>by
 have h1:=h t b hb;cases b with
 |arr r l=>
  rcases h1 with⟨l',h2,h3,h4⟩|h2
  ·exact .inl ⟨l',by rw[wT,h2];rfl,h3,h4⟩
  exact .inr (by rw[wT,h2];rfl)
 |dead=>rw[wT,h1];rfl
 |box cs=>
  rcases h1 with⟨c2,h2⟩|h2
  ·exact .inl ⟨Y2 ts c2,by rw[wT,h2];rfl⟩
  exact .inr (by rw[wT,h2];rfl)
 |_=>trivial
theorem MI{s:List SB}: ∀(r:List PT) (a:RT r),RL s (RT.sv r a) (RT.pv r a)
 | [],_=>rfl
 | [p],a=>by refine RL.cons ?_ RL.nil;cases p<;>rfl
 |p::q::r,a=>by refine RL.cons ?_ (MI (q::r) a.2);cases p<;>rfl
theorem Dx{s:List SB}: ∀(r:List PT) (a:RT r) {ps:List PV},RL s (RT.sv r a) ps->ps=RT.pv r a
 | [],_,ps,h=>h
 | [p],a,ps,h=>by obtain⟨x,q,rfl,h1,h2⟩:=h.cons_inv;have h2':=h2;subst h2';cases p<;>(have Y9:=h1;rw[Y9];rfl)
 |p::q::r,a,ps,h=>by obtain⟨x,qs,rfl,h1,h2⟩:=h.cons_inv;rw[Dx _ a.2 h2];cases p<;>(have Y9:=h1;rw[Y9];rfl)
theorem RT.plain: ∀(r:List PT) (a:RT r),(RT.pv r a).all PV.plain=adu
 | [],_=>rfl
 | [p],a=>by cases p<;>rfl
 |p::q::r,a=>by have:=RT.plain _ a.2;cases p<;>(assumption)
theorem R.cells{s:List SB}{v:SV}{p:PV}(h:R s v p)(hj:v≠ .jX):RL s v.cells p.cells:=by
 cases v with
 |jX=>grind
 |agg cs=>obtain⟨ps,rfl,h⟩:=h;exact h
 |undef=>rw[h];exact RL.cons rfl RL.nil
 |nD=>rw[h];exact RL.cons rfl RL.nil
 |fv=>rw[h];exact RL.cons rfl RL.nil
 |int k n=>rw[h];exact RL.cons rfl RL.nil
 |bool b=>rw[h];exact RL.cons rfl RL.nil
 |str x=>rw[h];exact RL.cons rfl RL.nil
 |sl r l=>rw[h];exact RL.cons rfl RL.nil
 |nil e c=>rw[h];exact RL.cons rfl RL.nil
 |bp t n o=>rw[h];exact RL.cons rfl RL.nil
 |bs t n o x=>rw[h];exact RL.cons rfl RL.nil
 |bq t n r o=>rw[h];exact RL.cons rfl RL.nil
 |mp t=>rw[h];exact RL.cons rfl RL.nil
 |cV cs=>obtain⟨ps,rfl,h⟩:=h;exact RL.cons ⟨ps,rfl,h⟩ RL.nil
 |own t ex=>obtain⟨e,n,rfl,h⟩:=h;exact RL.cons ⟨e,n,rfl,h⟩ RL.nil
 |pre t a b c=>obtain⟨e,rfl,h⟩:=h;exact RL.cons ⟨e,rfl,h⟩ RL.nil
 |part t o a b c=>obtain⟨e,rfl,h⟩:=h;exact RL.cons ⟨e,rfl,h⟩ RL.nil
 |pa t r i a o=>obtain⟨rfl,h⟩:=h;exact RL.cons ⟨rfl,h⟩ RL.nil
 |pb t i o=>obtain⟨e,rfl,h⟩:=h;exact RL.cons ⟨e,rfl,h⟩ RL.nil
 |bZ cs o=>obtain⟨ps,rfl,h⟩:=h;exact RL.cons ⟨ps,rfl,h⟩ RL.nil
 |fE f a b=>obtain⟨pa,pb,rfl,h⟩:=h;exact RL.cons ⟨pa,pb,rfl,h⟩ RL.nil
theorem R.wz{s:List SB}{v:SV}{p:PV}(h:R s v p)(ho:v.wz=adu):p.wz=adu:=by
 cases v with
 |jX|undef|nD|agg _|cV _=>cases ho
 |fv|int _ _|bool _|str _|sl _ _|nil _ _|bp _ _ _|bs _ _ _ _|bq _ _ _ _|mp _=>rw[h];rfl
 |own t ex=>obtain⟨e,n,rfl,h⟩:=h;rfl
 |pre t a b c=>obtain⟨e,rfl,h⟩:=h;rfl
 |part t o a b c=>obtain⟨e,rfl,h⟩:=h;rfl
 |pa t r i a o=>obtain⟨rfl,h⟩:=h;rfl
 |pb t i o=>obtain⟨e,rfl,h⟩:=h;rfl
 |bZ cs o=>obtain⟨ps,rfl,h⟩:=h;rfl
 |fE f a b=>obtain⟨pa,pb,rfl,h⟩:=h;rfl
theorem RL.Cu{s:List SB}: ∀{cs:List SV} {ps:List PV},RL s cs ps->Vm.Cu cs=adu->ps.all PV.wz=adu
 | [],ps,h,_=>by rw[h];rfl
 |x::xs,ps,h,ho=>by obtain⟨p,q,rfl,h1,h2⟩:=h.cons_inv;simp[Vm.Cu,]at ho;simp only[List.all_cons,IR];exact⟨h1.wz ho.1,h2.Cu ho.2⟩
theorem R.stored{s:List SB}{v:SV}{p:PV}{w:List SV}(h:R s v p)(hs:v.stored=adc w): ∃q,p.stored=adc q/\RL s w q:=by
 unfold SV.stored at hs;cases ha:Vm.Cu v.cells with
 |false=>grind
 |true=>
  rw[ha]at hs;injection hs with hs;subst hs;have hj:v≠ .jX:=by intro e;subst e;cases ha
  have hc:=h.cells hj;exact⟨p.cells,by unfold PV.stored;rw[AC (hc.Cu ha)],hc⟩
theorem R.ofRow{s:List SB}{v:SV}{p:PV}{r:List PT}{a:RT r}(h:R s v p)(hr:RT.of r v.cells=adc a):p.dj=adc (RT.pv r a)/\ad7 v.cells=(ad7 r):=by
 have hc:=RT.uU hr;have hl:(ad7 v.cells)=(ad7 r):=by rw[hc,RT.On]
 refine⟨?_,hl⟩;have hj:v≠ .jX:=by
  intro e;subst e;cases r with
  |nil=>simp[SV.cells,RT.of]at hr
  |cons p q=>cases q with
   |nil=>cases p<;>simp[SV.cells,RT.of,PT.of]at hr
   |cons _ _=>simp only[SV.cells,RT.of]at hr;grind
 have h1:=h.cells hj;rw[hc]at h1;have h2:=Dx r a h1;unfold PV.dj;rw[h2,AC (RT.plain r a)]
theorem uW{s:List SB}{agg:Option Nat}{off:Nat}{cs:List SV}{ps:List PV}{v:SV}(h:RL s cs ps)(hp:BQ agg off cs=adc v): ∃p,part agg off ps=adc p/\R s v p:=by
 cases agg with
 |none=>obtain⟨p,h1,h2⟩:=h.nth hp;exact⟨p,h1,h2⟩
 |some n=>
  simp[BQ]at hp;cases hb:abu (off+n) (ad7 cs)with
  |false=>grind
  |true=>
   rw[hb]at hp;injection hp with hp;subst hp;have:off+n<=(ad7 ps):=by rw[h.pN];simp_all
   exact⟨.agg _,by simp[part,AC this],_,rfl,(h.drop off).take n⟩
theorem Dy{s:List SB}{off:Nat}{new old:List SV}{pn po:List PV}(h:RL s new pn)(k:RL s old po):RL s (wO off new old) (vY off pn po):=by unfold wO vY;rw[h.pN];exact((k.take off).append h).append (k.drop _)
theorem U3{s:List SB}{ps:di}{v:SV}{p:PV}{r:List PT}{l:List _}(hs:de s ps)(h:R s v p)(hc:D' s v=adc ⟨r,l⟩):
 rowsOf ps (ad7 r) p=adc (l.map (RT.pv r))/\mw p=IF v:=by
 cases v with
 |sl q m=>
  have IB:(⟨q,m⟩:Rows)=⟨r,l⟩:=by injection hc
  cases IB;rw[h];refine⟨?_,rfl⟩;cases l with
  |nil=>rfl
  |cons a l=>simp[rowsOf]
 |own t ex=>
  simp[D',cT]at hc;split at hc
  ·rename_i q m dd
   have IB:(⟨q,m⟩:Rows)=⟨r,l⟩:=by injection hc
   cases IB;obtain⟨e,n,rfl,dO⟩:=h;rcases dO with⟨q',m',h1,rfl,rfl⟩|h1
   ·rw[dd]at h1
    injection h1 with h1;cases h1;obtain⟨b,h2,h3⟩:=hs.at_ t _ dd;rw[h3]at h2;refine⟨?_,rfl⟩;simp[rowsOf,h2,];rw[abv (by simp)]
   grind
  cases hc
 |pre t len cap ex=>
  simp[D',cT]at hc;split at hc
  ·rename_i q m dd
   have IB:(⟨q,m.take len⟩:Rows)=⟨r,l⟩:=by injection hc
   cases IB;obtain⟨e,rfl,dO⟩:=h;rcases dO with⟨q',m',h1,rfl⟩|h1|⟨_,h1,_⟩
   ·rw[dd]at h1
    injection h1 with h1;cases h1;obtain⟨b,h2,h3⟩:=hs.at_ t _ dd;rw[h3]at h2;refine⟨?_,rfl⟩;simp only[rowsOf,h2];simp
   ·grind
   grind
  cases hc
 |part t off len cap ex=>
  simp[D',cT]at hc;split at hc
  ·rename_i q m dd
   have IB:(⟨q,(m.drop off).take len⟩:Rows)=⟨r,l⟩:=by injection hc
   cases IB;obtain⟨e,rfl,dO⟩:=h;rcases dO with⟨q',m',h1,rfl⟩|h1|⟨_,h1,_⟩
   ·rw[dd]at h1
    injection h1 with h1;cases h1;obtain⟨b,h2,h3⟩:=hs.at_ t _ dd;rw[h3]at h2;refine⟨?_,rfl⟩;simp only[rowsOf,h2];simp
   ·grind
   grind
  cases hc
 |_=>cases hc
end Go.Vm
