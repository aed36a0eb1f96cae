/- The logical machine, part 2: VmInv, VmStep, VmShr, VmOp, VmReg, VmReg2, VmNorm, VmNorm2, VmCode, VmSound, VmPrim, VmIns, VmCat, VmTab, VmTab2, VmComp, VmLaw, VmSym, SvBase, SvDef, SvCod, SvRel, SvOps1. -/
import Derived.Test.YtbelikaakgedaaaGreatPVm1
import Derived.Orders
import Derived.Laws.Sem
import Derived.Laws.Externs
import Derived.Lib.SliceRun
import Derived.Laws.CopyRow
import Derived.ProofKit
import Derived.Carry
import Derived.OpenShut
import Derived.Deep.Slices
import Derived.Deep.Grids
open Nat renaming beq->If,le_refl->Y,lt_or_ge->KJ,lt_trichotomy->YG,ble->Ii,le_trans->SG,zero_le->EE,blt->QK,le_of_lt->YJ,lt_of_lt_of_le->Mq,mul_le_mul_right->D8,eq_or_lt_of_le->Vf,lt_or_gt_of_ne->xc,beq_eq->g',ble_eq->SM,le_total->SN
open List renaming getElem?_eq_getElem->IR,getElem?_append_left->PP,getElem?_append_right->Pc,getElem?_eq_some_iff->Md,take_of_length_le->YH,replicate->GH,getElem?_set->SK,flatMap_cons->Mg,all_eq_true->Sv,drop_of_length_le->al,mem_append->KL,append_nil->YF,mem_append_left->Pg,mem_singleton->Su,nodup_append->Ih,append_assoc->Ml,any_eq_true->KO,drop_zero->vk,length->D5
open Bool renaming and_eq_true->NE,not_eq_true'->YI,true->YB,false->h9
open Option renaming map_eq_some_iff->WF,some->hi,none->h2
open Option.some renaming injEq->Sw
open Array renaming getD_eq_getD_getElem?->Xc,getElem?_setIfInBounds_self_of_lt->SI,getElem?_eq_some_iff->SH,replicate->Mp,getElem?_eq_getElem->SJ,ext'->Vg
open Prod.mk renaming injEq->Mi
open Int renaming ofNat->SL
open Go.Sem renaming run_bind->OH
open Go.World renaming cell?->Sy
open Decidable renaming decide->Mr
/- A region: what holds while aey of its operations are done, and that one more keeps it. -/
namespace Go.Vm
def aC(x:dD):J Nat:=(x.op.iV.filterMap λ| .t n=>hi n| .c _=>h2)++(match x.guard with|some (s,_)=>[s]|none=>[])
def B8(ops:Array Oper):O (Nat×Bool)->O (Nat×Bool)->Bool
 |none,h2=>YB
 |some (s,b),hi (j,c)=>b==c&&((ops[j]?).bind (·.dst))==hi s
 |_,_=>h9
def AD(P:Program)(prims:FuncId->Bool)(nt:Nat)(ops:Array Oper)(x:dD)(o:Oper):Bool:=
 x.dst==o.dst&&(match x.dst with|some d=>QK d nt|none=>YB)&&B8 ops x.guard o.guard&&D6 P prims o.type x.op o.op
def zx(Sx:Nat->O XR)(i:Nat):Prop:= ∃v s z,Sx i=hi (.shr v s z)
def kV(Sx:Nat->O XR)(i:Nat):Prop:=
 match Sx i with
 |some (.loc r)=>r.rd≠[]\/r.fr≠[]\/r.wr≠[]\/r.news≠[]
 |some (.shr ..)=>True
 |none=>False
def A(Sx:Nat->O XR)(i t:Nat):Prop:=
 match Sx i with
 |some (.loc r)=>t∈r.rd\/t∈r.fr
 |_=>False
structure Ord(ops:List dD)(Yz:Nat->St)(Sx:Nat->Option XR)(Ej:Nat->Nat->Prop):Prop where
 Mx: ∀(i j t:Nat) (x y:dD),i<j->ops[i]? =hi x->ops[j]? =hi y->x.dst=hi t->(t∈aC y\/y.dst=hi t)->Ej i j
 Qr: ∀(i j t:Nat) (x y:dD),i<j->ops[i]? =hi x->ops[j]? =hi y->y.dst=hi t->t∈aC x->Ej i j
 Vk: ∀i j t,i<j->j<D5 ops->W Sx i t->(A Sx j t\/W Sx j t)->Ej i j
 WR: ∀i j t,i<j->j<D5 ops->A Sx i t->W Sx j t->Ej i j
 Om: ∀i j t,i<j->j<D5 ops-> ¬zx Sx i->(Yz i).aH.length<=t->t<(Yz (i+1)).aH.length-> ¬zx Sx j->W Sx j t->Ej i j
 Sq: ∀i j,i<j->j<D5 ops->(zx Sx i/\kV Sx j\/kV Sx i/\zx Sx j)->Ej i j
 cl: ∀i t,i<D5 ops-> ¬zx Sx i->(A Sx i t\/W Sx i t)->t<(Yz i).aH.length\/ ∀c,i<c->c<D5 ops->Ej i c
structure Inv(ops:List dD)(Yz:Nat->St)(Sx:Nat->Option XR)(px:Im)(eM:Loc)(w0:World)(nt:Nat)(done:Nat->Prop)(im:Im)(loc:Loc)(a:Act)(w:World):Prop where
 tm: ∀t,∃m,m<=D5 ops/\(∀i x,ops[i]? =hi x->x.dst=hi t->(done i↔i<m))/\VR im loc (lk t (Yz m).env) (a.tmps.getD t Go.undef)
 bZ: ∀b o,im b=hi o->w.heap[b]? =hi o
 tok: ∀t li,loc t=hi li-> ∃k,Ip Yz Sx (D5 ops) done t k/\BR im loc w li k
 mE: ∀t u li lj k k',loc t=hi li->loc u=hi lj->Ip Yz Sx (D5 ops) done t k->Ip Yz Sx (D5 ops) done u k'->k.cu=YB->k'.cu=YB->li.eK=lj.eK->t=u
 free: ∀t li k,loc t=hi li->Ip Yz Sx (D5 ops) done t k->k.cu=YB->t∉(Yz 0).fz->(∀i,i<D5 ops->done i-> ¬FR Sx i t)->im li.eK=h2
 fresh: ∀i,i<D5 ops-> ¬done i-> ∀t,(Yz i).aH.length<=t->t<(Yz (i+1)).aH.length->loc t=h2
 kx:uH px im
 fA:rD eM loc
 os:w.os=w0.os
 tape:Tape w0 w
 output:w.output=w0.output
 size:w0.heap.size<=w.heap.size
 frame: ∀b,b<w0.heap.size->(∀t li k,eM t=hi li->(Yz 0).aH[t]? =hi k->k.cu=YB->li.eK≠b)->w.heap[b]? =w0.heap[b]?
 fG: ∀b o,im b=hi o->px b=hi o\/w0.heap.size<=b\/ ∃t li k,eM t=hi li/\(Yz 0).aH[t]? =hi k/\k.cu=YB/\li.eK=b
 uB: ∀t li,loc t=hi li->eM t=hi li\/(Yz 0).aH.length<=t
 own: ∀t li k,loc t=hi li->Ip Yz Sx (D5 ops) done t k->k.cu=YB->(w0.heap.size<=li.eK\/ ∃u lu ku,eM u=hi lu/\(Yz 0).aH[u]? =hi ku/\ku.cu=YB/\lu.eK=li.eK)
 defers:a.defers=[]
 U3:a.tmps.size=nt
def plus(done:Nat->Prop)(i:Nat):Nat->Prop:=λj=>done j\/j=i
section
variable {W7 : s9} {rec : Task -> O Out} {ops : J dD} {Yz : Nat -> St} {Sx : Nat -> O XR} {Ej : Nat -> Nat -> Prop} {px : Im} {eM : Loc} {w0 : World} {nt : Nat}
  {done : Nat -> Prop} {im : Im} {loc : Loc} {a : Act} {w : World} {i : Nat}
structure Place(ops:List dD)(Ej:Nat->Nat->Prop)(done:Nat->Prop)(i:Nat):Prop where
 lt:i<D5 ops
 nd: ¬done i
 pre: ∀j,j<D5 ops->Ej j i->done j
 fY: ∀k,k<D5 ops->done k-> ∀j,j<D5 ops->Ej j k->done j
theorem Place.B9(hp:Place ops Ej done i){k:Nat}(hk:k<D5 ops)(h:Ej i k): ¬done k:=λhd=>hp.nd (hp.fY k hk hd i hp.lt h)
theorem Inv.slot(hr:EJ W7 rec ops Yz Sx)(ho:Ord ops Yz Sx Ej)(hv:Inv ops Yz Sx px eM w0 nt done im loc a w)(hp:Place ops Ej done i){x:dD}(X:ops[i]? =hi x){t:Nat}(ht:t∈aC x):
 VR im loc (lk t (Yz i).env) (a.tmps.getD t Go.undef):=by
 obtain⟨m,hm,hd,wc⟩:=hv.tm t;have K': ∀j y,ops[j]? =hi y->y.dst=hi t->(done j↔j<i):=by
  intro j y hy YO;rcases YG j i with h|h|h
  ·exact⟨λ_=>h,λ_=>hp.pre j (dE hy) (ho.Mx j i t y x h hy X YO (.inl ht))⟩
  ·subst h;exact⟨λhd=>absurd hd hp.nd,λh=>by omega⟩
  exact⟨λSY=>absurd SY (hp.B9 (dE hy) (ho.Qr i j t x y h X hy YO ht)),λh'=>by omega⟩
 have same:lk t (Yz i).env=lk t (Yz m).env:=by
  rcases SN m i with h|h
  ·refine hr.Vj h (YJ hp.lt) λj hj D S Bq=>?_
   have a1:=hd j _ (IR hj) Bq;have a2:=K' j _ (IR hj) Bq;have:=a1.1 (a2.2 S);omega
  refine(hr.Vj h hm λj hj D S Bq=>?_).symm
  have a1:=hd j _ (IR hj) Bq;have a2:=K' j _ (IR hj) Bq;have:=a2.1 (a1.2 S);omega
 grind
theorem Inv.cur(hr:EJ W7 rec ops Yz Sx)(ho:Ord ops Yz Sx Ej)(hv:Inv ops Yz Sx px eM w0 nt done im loc a w)(hp:Place ops Ej done i){t:Nat}{li:LI}(I:loc t=hi li)
 (ht:(A Sx i t\/W Sx i t)) {k:pT} (hc:Ip Yz Sx (D5 ops) done t k):(Yz i).aH[t]? =hi k:=by
 obtain⟨m,hm,hw,hcr,hs⟩:=hc;have fJ:t<(Yz i).aH.length:=by
  rcases KJ t (Yz i).aH.length with h|h
  ·exact h
  have hmi:i<m:=by
   rcases KJ i m with h'|h'
   ·exact h'
   have:=hr.lP h' (YJ hp.lt);have:=dE hs;omega
  have: ∃c,i<=c/\c<m/\(Yz c).aH.length<=t/\t<(Yz (c+1)).aH.length:=by
   have hex: ∀d,i+d<=m->t<(Yz (i+d)).aH.length-> ∃c,i<=c/\c<i+d/\(Yz c).aH.length<=t/\t<(Yz (c+1)).aH.length:=by
    intro d
    induction d with
    |zero=>intro _ S;exact absurd S (by simpa using h)
    |succ d ih=>
     intro D S;rcases KJ t (Yz (i+d)).aH.length with h3|h3
     ·obtain⟨c,c1,c2,c3,c4⟩:=ih (by omega) h3
      exact⟨c,c1,by omega,c3,c4⟩
     exact⟨i+d,by omega,by omega,h3,S⟩
   obtain⟨c,c1,c2,c3,c4⟩:=hex (m-i) (by omega) (by rw[show i+(m-i)=m by omega];exact dE hs);exact⟨c,c1,by omega,c3,c4⟩
  obtain⟨c,c1,c2,c3,c4⟩:=this;have PJ:c<(D5 ops):=by omega
  have ast: ¬done c:=by
   intro RZ;rcases Vf c1 with e|e
   ·subst e;exact hp.nd RZ
   by_cases hsh:zx Sx i
   ·refine hp.B9 PJ (ho.Sq i c e PJ (.inl ⟨hsh,?_⟩)) RZ
    rcases hr.steps c _ (IR PJ)with⟨_,x,X,_,hX,hn⟩|⟨_,_,hn⟩
    ·unfold kV;rw[hX]
     cases x with
     |loc r=>refine .inr (.inr (.inr λQN=>?_));rw[hn]at c4;simp[XR.next,Au,lO,QN]at c4;omega
     |shr v s z=>trivial
    rw[hn]at c4;simp at c4;omega
   rcases ho.cl i t hp.lt hsh ht with h'|h'
   ·omega
   exact hp.B9 PJ (h' c e PJ) RZ
  have:=hv.fresh c PJ ast t c3 c4
  grind
 have K': ∀j,j<D5 ops->W Sx j t->(done j↔j<i):=by
  intro j hj hW;rcases YG j i with h|h|h
  ·exact⟨λ_=>h,λ_=>hp.pre j hj (ho.Vk j i t h hp.lt hW ht)⟩
  ·subst h;exact⟨λhd=>absurd hd hp.nd,λh=>by omega⟩
  refine⟨λSY=>absurd SY (hp.B9 hj ?_),λh'=>by omega⟩
  rcases ht with ht|ht
  ·exact ho.WR i j t h hj ht hW
  exact ho.Vk i j t h hj ht (.inr hW)
 rcases SN m i with h|h
 ·rw[hr.FT h (YJ hp.lt) (λj D S hW=>by
   have a1:=hw j (by have:=hp.lt;omega) hW;have a2:=K' j (by have:=hp.lt;omega) hW
   grind) (dE hs)]
  exact hs
 rw[<-hr.FT h hm (λj D S hW=>by
  grind) fJ]
 exact hs
end
end Go.Vm
/- A region: one more operation keeps what holds. -/
namespace Go.Vm
theorem BR.am4{im fZ:Im}{loc bK:Loc}{w w':World}{li:LI}{k:pT}(h:BR im loc w li k)(N:uH im fZ)(I:rD loc bK)
 (hw:k.cu=YB->w'.heap[li.eK]? =w.heap[li.eK]?):BR fZ bK w' li k:=by
 cases hs:k.cu with
 |true=>exact h.mono N I (hw hs)
 |false=>
  cases k with
  |arr e rows=>
   cases rows with
   |nil=>exact⟨h.1,h.2.1,λfk=>absurd rfl fk⟩
   |cons _ _=>cases hs
  |box _=>cases hs
  |map _=>cases hs
  |dead=>trivial
section
variable {W7 : s9} {rec : Task -> O Out} {ops : J dD} {Yz : Nat -> St} {Sx : Nat -> O XR} {Ej : Nat -> Nat -> Prop} {px : Im} {eM : Loc} {w0 : World} {nt : Nat}
  {done : Nat -> Prop} {im : Im} {loc : Loc} {a : Act} {w : World} {i : Nat}
theorem EJ.am5(hr:EJ W7 rec ops Yz Sx){j:Nat}(hj:j<D5 ops): ∀t,t∈(Yz j).fz->t∈(Yz (j+1)).fz:=by
 intro t ht;rcases hr.steps j _ (IR hj)with⟨_,x,X,_,_,hn⟩|⟨_,_,hn⟩
 ·rw[hn]
  cases x with
  |loc r=>simp[XR.next];grind
  |shr v s z=>exact(aeH X).2 t ht
 grind
theorem EJ.LM(hr:EJ W7 rec ops Yz Sx){m m':Nat}(h:m<=m')(hm:m'<=D5 ops): ∀t,t∈(Yz m).fz->t∈(Yz m').fz:=by
 induction m' with
 |zero=>grind
 |succ j ih=>
  rcases Vf h with e|e
  ·grind
  exact λt ht=>hr.am5 (by omega) t (ih (by omega) (by omega) t ht)
theorem EJ.ahO(hr:EJ W7 rec ops Yz Sx){j:Nat}(hj:j<D5 ops){t:Nat}(h:FR Sx j t):t∈(Yz (j+1)).fz:=by
 rcases hr.steps j _ (IR hj)with⟨_,x,X,_,hX,hn⟩|⟨_,hX,_⟩
 ·rw[hn]
  unfold FR at h;rw[hX]at h;cases x with
  |loc r=>exact Pg _ h
  |shr v s z=>exact h
 unfold FR at h;grind
theorem am6{j t:Nat}(h:FR Sx j t):A Sx j t\/W Sx j t:=by
 unfold FR at h;unfold A W
 grind
theorem Inv.aeK(hr:EJ W7 rec ops Yz Sx)(ho:Ord ops Yz Sx Ej)(hp:Place ops Ej done i){t:Nat}(hW:W Sx i t)(hz:t∉(Yz i).fz):
 t∉(Yz 0).fz/\ ∀j,j<D5 ops->done j-> ¬FR Sx j t:=by
 refine⟨λh=>hz (hr.LM (EE _) (YJ hp.lt) t h),λj hj hd hf=>?_⟩;rcases YG j i with h|h|h
 ·exact hz (hr.LM h (YJ hp.lt) t (hr.ahO hj hf))
 ·subst h;exact hp.nd hd
 exact hp.B9 hj (ho.Vk i j t h hj hW (am6 hf)) hd
theorem Inv.known(hr:EJ W7 rec ops Yz Sx)(ho:Ord ops Yz Sx Ej)(hv:Inv ops Yz Sx px eM w0 nt done im loc a w)(hp:Place ops Ej done i){r:v7}(hX:Sx i=hi (.loc r))(GA:(XR.loc r).ok (Yz i).fz=YB)
 (hn:(Yz (i+1)).aH.length=(Yz i).aH.length+D5 r.news):nM im loc (Yz i).aH w r where
 bZ:=hv.bZ
 tok:=λt ht li I=>by
  obtain⟨k,hc,Az⟩:=hv.tok t li I;refine⟨k,hv.cur hr ho hp I ?_ hc,Az⟩;rcases ht with ht|ht
  ·exact .inl (by unfold A;grind)
  exact .inr (by unfold W;grind)
 free:=λt k hm li k' I hs qZ=>by
  have hW:W Sx i t:=by unfold W;grind
  simp only[XR.ok,NE,Sv,YI]at GA;have hz:=oe.1 (GA.1 (t,k) hm);obtain⟨h0,D⟩:=Inv.aeK hr ho hp hW hz;obtain⟨k2,hc,_⟩:=hv.tok t li I;have:=hv.cur hr ho hp I (.inr hW) hc;rw[hs]at this;injection this with this;subst this;exact hv.free t li k' I hc qZ h0 D
 fresh:=λj hj=>hv.fresh i hp.lt hp.nd _ (by omega) (by omega)
 mE:=λt u li lj k k' ht hu I sH hs Eh qZ Pk hb=>by
  have aeM: ∀t,(t∈r.rd\/ ∃b,(t,b)∈r.wr)->A Sx i t\/W Sx i t:=λt h=>by
   rcases h with h|h
   ·exact .inl (by unfold A;grind)
   exact .inr (by unfold W;rw[hX];exact h)
  obtain⟨k1,OL,_⟩:=hv.tok t li I;obtain⟨k2,JQ,_⟩:=hv.tok u lj sH;have e1:=hv.cur hr ho hp I (aeM t ht) OL;have e2:=hv.cur hr ho hp sH (aeM u hu) JQ;rw[hs]at e1;injection e1 with e1;subst e1;rw[Eh]at e2;injection e2 with e2;subst e2;exact hv.mE t u li lj _ _ I sH OL JQ qZ Pk hb
theorem Inv.Ir(hr:EJ W7 rec ops Yz Sx)(ho:Ord ops Yz Sx Ej)(hv:Inv ops Yz Sx px eM w0 nt done im loc a w)(hp:Place ops Ej done i){x:dD}(X:ops[i]? =hi x){r:v7}(hX:Sx i=hi (.loc r))
 (GA:(XR.loc r).ok (Yz i).fz=YB) (hS:Yz (i+1)=(XR.loc r).next x.dst (Yz i)) {v':Value} {fZ:Im} {bK:Loc} {w':World} (wc:VR fZ bK r.v v') (he:Aw im loc (Yz i).aH w r fZ bK w')
 (Bq: ∀d,x.dst=hi d->d<nt):Inv ops Yz Sx px eM w0 nt (plus done i) fZ bK (a.put x.dst v') w':=by
 have fJ:(Yz (i+1)).aH.length=(Yz i).aH.length+(D5 r.news):=by rw[hS];simp[XR.next,Au,lO]
 have FU:=hp.lt;have JL:CP r.wr=YB:=by simp[XR.ok,NE]at GA;exact GA.2
 have CS:(Yz (i+1)).aH=mO r.wr (Yz i).aH++r.news:=by rw[hS];exact Au _ _
 have am7: ∀t k,(t,k)∈r.wr->t<(Yz i).aH.length->(Yz (i+1)).aH[t]? =hi k:=by
  grind[PP,lO,aeC]
 have ajd: ∀j k,r.news[j]? =hi k->(Yz (i+1)).aH[(Yz i).aH.length+j]? =hi k:=by
  grind
 have wlt: ∀t li,loc t=hi li->W Sx i t->t<(Yz i).aH.length:=by intro t li I hW;obtain⟨k,hc,_⟩:=hv.tok t li I;exact dE (hv.cur hr ho hp I (.inr hW) hc)
 have QV: ∀t k li,(t,k)∈r.wr->loc t=hi li->Ip Yz Sx (D5 ops) (plus done i) t k:=by
  intro t k li hm I;have hW:W Sx i t:=by unfold W;grind
  have iY:=wlt t li I hW;refine⟨i+1,FU,λj hj Xl=>?_,λc hc D S=>?_,am7 t k hm iY⟩
  ·rcases YG j i with h|h|h
   ·exact⟨λ_=>by omega,λ_=> .inl (hp.pre j hj (ho.Vk j i t h FU Xl (.inr hW)))⟩
   ·subst h;exact⟨λ_=>by omega,λ_=> .inr rfl⟩
   refine⟨λhd=>?_,λh'=>by omega⟩
   rcases hd with hd|hd
   ·exact absurd hd (hp.B9 hj (ho.Vk i j t h hj hW (.inr Xl)))
   omega
  rcases KJ c (i+1)with h|h
  ·exact h
  have:=hr.lP (by omega) (by omega);omega
 have Is: ∀j k,r.news[j]? =hi k->Ip Yz Sx (D5 ops) (plus done i) ((Yz i).aH.length+j) k:=by
  intro j k hj;have Vb:=dE hj;refine⟨i+1,FU,λq hq hWq=>?_,λc hc D S=>?_,ajd j k hj⟩
  ·rcases YG q i with h|h|h
   ·refine⟨λ_=>by omega,λ_=> .inl ?_⟩
    by_cases hs:zx Sx q
    ·
     refine hp.pre q hq (ho.Sq q i h FU (.inl ⟨hs,?_⟩));unfold kV;grind
    rcases ho.cl q _ hq hs (.inr hWq)with h'|h'
    ·have:=hr.lP (show q<=i by omega) (by omega);omega
    exact hp.pre q hq (h' i h FU)
   ·subst h;exact⟨λ_=>by omega,λ_=> .inr rfl⟩
   refine⟨λhd=>?_,λh'=>by omega⟩
   rcases hd with hd|hd
   ·exfalso
    by_cases hs:zx Sx q
    ·refine hp.B9 hq (ho.Sq i q h hq (.inr ⟨?_,hs⟩)) hd
     unfold kV;grind
    exact hp.B9 hq (ho.Om i q _ h hq (by rintro⟨v,s,z,e⟩;grind) (by omega) (by omega) hs hWq) hd
   omega
  rcases KJ c (i+1)with h|h
  ·exact h
  have:=hr.lP (by omega) (by omega);omega
 have aeP: ∀t k,¬W Sx i t->Ip Yz Sx (D5 ops) done t k->Ip Yz Sx (D5 ops) (plus done i) t k:=by
  intro t k hW hc;obtain⟨m,hm,D,S,h3⟩:=hc;refine⟨m,hm,λj hj Xl=>?_,S,h3⟩;have fk:j≠i:=λe=>hW (e▸Xl)
  have:=D j hj Xl;exact⟨λhd=>this.1 (hd.resolve_right fk),λh=> .inl (this.2 h)⟩
 have FV: ∀t li,bK t=hi li->(∃j k,t=(Yz i).aH.length+j/\r.news[j]? =hi k/\loc t=h2)\/loc t=hi li:=by
  intro t li I;rcases he.pU t li I with h|⟨D,S⟩
  ·exact .inr h
  refine .inl ⟨t- (Yz i).aH.length,r.news[t- (Yz i).aH.length],by omega,IR (by omega),?_⟩
  exact hv.fresh i FU hp.nd t D (by omega)
 have old: ∀t li k,loc t=hi li->Ip Yz Sx (D5 ops) (plus done i) t k->k.cu=YB-> ∃k0,Ip Yz Sx (D5 ops) done t k0/\k0.cu=YB/\BR im loc w li k0/\(¬W Sx i t->k0=k)/\(W Sx i t->(t,k)∈r.wr):=by
  intro t li k I hc hs;obtain⟨k0,OR,Az⟩:=hv.tok t li I
  by_cases hW:W Sx i t
  ·have QW:=hW
   unfold W at QW;rw[hX]at QW;obtain⟨k2,hm⟩:=QW;have e:=(QV t k2 li hm I).unique hr hc;subst e;obtain⟨k3,h3,h4⟩:=he.YA t k2 hm hs;have:=hv.cur hr ho hp I (.inr hW) OR
   grind
  have e:=(aeP t k0 hW OR).unique hr hc
  grind
 have QX: ∀t k li k0,(t,k)∈r.wr->loc t=hi li->(Yz i).aH[t]? =hi k0->Ip Yz Sx (D5 ops) done t k0:=by
  intro t k li k0 hm I hs;obtain⟨k1,OL,_⟩:=hv.tok t li I;have:=hv.cur hr ho hp I (.inr (by unfold W;grind)) OL
  grind
 have aa8: ∀t li k0,t∈r.fr->loc t=hi li->(Yz i).aH[t]? =hi k0->Ip Yz Sx (D5 ops) done t k0:=by
  intro t li k0 hm I hs;obtain⟨k1,OL,_⟩:=hv.tok t li I;have:=hv.cur hr ho hp I (.inl (by unfold A;grind)) OL
  grind
 refine {
  tm:=λt=>?_
  bZ:=he.bZ
  tok:=λt li I=>?_
  mE:=λt u li lj k k' I sH hc Lt hs Eh hb=>?_
  free:=λt li k I hc hs h0 hf=>?_
  fresh:=λj hj OO t D S=>?_
  kx:=hv.kx.trans he.kx
  fA:=hv.fA.trans he.fA
  os:=he.os.trans hv.os
  tape:=he.tape.trans hv.tape
  output:=he.output.trans hv.output
  size:=SG hv.size he.size
  frame:=λb hb hh=>?_
  fG:=λb o hb=>?_
  uB:=λt li I=>?_
  own:=λt li k I hc hs=>?_
  defers:=by cases hd:x.dst<;>simp[Act.put,hv.defers]
  U3:=by cases hd:x.dst<;>simp[Act.put,hv.U3]}
 ·
  by_cases hd:x.dst=hi t
  ·refine⟨i+1,FU,λj y hy YO=>?_,?_⟩
   ·rcases YG j i with h|h|h
    ·exact⟨λ_=>by omega,λ_=> .inl (hp.pre j (dE hy) (ho.Mx j i t y x h hy X YO (.inr hd)))⟩
    ·subst h;exact⟨λ_=>by omega,λ_=> .inr rfl⟩
    refine⟨λSY=>?_,λh'=>by omega⟩
    rcases SY with SY|SY
    ·exact absurd SY (hp.B9 (dE hy) (ho.Mx i j t x y h X hy hd (.inr YO)))
    omega
   rw[hS]
   simp[XR.next,hd,oU,yK,Act.put];have:=Bq t hd;simp[hv.U3,this,wc]
  obtain⟨m,hm,D,S⟩:=hv.tm t
  refine⟨m,hm,λj y hy YO=>?_,?_⟩
  ·have fk:j≠i:=by grind
   have:=D j y hy YO;exact⟨λSY=>this.1 (SY.resolve_right fk),λh=> .inl (this.2 h)⟩
  have:=S.mono he.kx he.fA
  cases KD:x.dst with
  |none=>assumption
  |some d=>
   have fk:d≠t:=λe=>hd (by rw[KD,e])
   simpa[Act.put,fk]using this
 ·
  rcases FV t li I with⟨j,k,rfl,hj,_⟩|YL
  ·obtain⟨S,_⟩:=he.news j k li hj I
   grind
  obtain⟨k0,OR,Az⟩:=hv.tok t li YL
  by_cases hW:W Sx i t
  ·have QW:=hW
   unfold W at QW;rw[hX]at QW;obtain⟨k2,hm⟩:=QW;exact⟨k2,QV t k2 li hm YL,he.wr t k2 li hm YL⟩
  refine⟨k0,aeP t k0 hW OR,Az.am4 he.kx he.fA λhs=>?_⟩
  refine he.frame _ (Az.lt hs) λt2 k2 l2 k3 hm SA hs3 qZ SU=>?_
  have:=hv.mE t2 t l2 li k3 k0 SA YL (QX t2 k2 l2 k3 hm SA hs3) OR qZ hs SU;exact hW (by unfold W;grind)
 ·
  have asw: ∀t u li lj k k',(∃j k,t=(Yz i).aH.length+j/\r.news[j]? =hi k/\loc t=h2)->loc u=hi lj->bK t=hi li->Ip Yz Sx (D5 ops) (plus done i) t k->Ip Yz Sx (D5 ops) (plus done i) u k'->
   k.cu=YB->k'.cu=YB->li.eK=lj.eK->False:=by
   intro t u li lj k k' hj Lf I hc Lt hs Eh hb;obtain⟨j,k1,rfl,hj,_⟩:=hj;have e:=(Is j k1 hj).unique hr hc;subst e;obtain⟨S,h3⟩:=he.news j k1 li hj I;obtain⟨k0,OR,Se,CJ,hk0,Pl⟩:=old u lj k' Lf Lt Eh;have iY:=CJ.lt Se;rcases(h3 hs).2 with h|⟨td,lt,kd,hm,La,fc,UD,KE⟩
   ·omega
   have:=hv.mE td u lt lj kd k0 La Lf (QX td _ lt kd hm La fc) OR UD Se (by rw[KE,hb])
   subst this;have Y6:=Pl (by unfold W;grind);have e2:=(QV td _ lj hm Lf).unique hr (QV td _ lj Y6 Lf);subst e2;cases Eh
  rcases FV t li I with D|D
  ·rcases FV u lj sH with S|S
   ·obtain⟨j1,k1,rfl,hj1,_⟩:=D
    obtain⟨j2,k2,rfl,hj2,_⟩:=S;have e1:=(Is j1 k1 hj1).unique hr hc;have e2:=(Is j2 k2 hj2).unique hr Lt;subst e1 e2;rw[he.distinct j1 j2 k1 k2 li lj hj1 hj2 hs Eh I sH hb]
   grind
  rcases FV u lj sH with S|S
  ·grind
  obtain⟨k0,OR,Se,_⟩:=old t li k D hc hs
  obtain⟨k1,OL,TQ,_⟩:=old u lj k' S Lt Eh;exact hv.mE t u li lj k0 k1 D S OR OL Se TQ hb
 ·
  rcases FV t li I with⟨j,k1,rfl,hj,_⟩|YL
  ·have e:=(Is j k1 hj).unique hr hc
   subst e;obtain⟨S,h3⟩:=he.news j k1 li hj I;exact(h3 hs).1
  obtain⟨k0,OR,Se,CJ,_,_⟩:=old t li k YL hc hs
  have hn:=hv.free t li k0 YL OR Se h0 (λj hj hd=>hf j hj (.inl hd));cases hb:fZ li.eK with
  |none=>rfl
  |some o=>
   rcases he.fG _ _ hb with h|h|⟨t2,l2,k2,D,S,h3,h4,h5⟩
   ·grind
   ·have:=CJ.lt Se;omega
   have hm:=xd.1 D
   have:=hv.mE t2 t l2 li k2 k0 S YL (aa8 t2 l2 k2 hm S h3) OR h4 Se h5;exact absurd (by unfold FR;grind) (hf i FU (.inr rfl))
 ·
  have Nf:=λe=>OO (.inr e)
  have Ot:=λh=>OO (.inl h)
  cases I:bK t with
  |none=>rfl
  |some li=>
   rcases he.pU t li I with h|⟨h3,h4⟩
   ·rw[hv.fresh j hj Ot t D S]at h;cases h
   rcases xc Nf with h|h
   ·have:=hr.lP (show j+1<=i by omega) (by omega);omega
   have:=hr.lP (show i+1<=j by omega) (by omega);omega
 ·
  have Vl:=Mq hb hv.size;rw[he.frame b Vl (λt k li k0 hm I hs qZ SU=>?_)]
  ·exact hv.frame b hb hh
  rcases hv.own t li k0 I (QX t k li k0 hm I hs) qZ with h|⟨u,lu,ku,D,S,h3,h4⟩
  ·omega
  grind
 ·rcases he.fG b o hb with h|h|⟨t,li,k,D,S,h3,h4,h5⟩
  ·exact hv.fG b o h
  ·exact .inr (.inl (SG hv.size h))
  rcases hv.own t li k S (aa8 t li k (xd.1 D) S h3) h4 with h|⟨u,lu,ku,g1,g2,g3,g4⟩
  ·exact .inr (.inl (by omega))
  grind
 ·rcases he.pU t li I with h|⟨h,_⟩
  ·exact hv.uB t li h
  exact .inr (SG (hr.lP (EE _) (by omega)) h)
 rcases FV t li I with⟨j,k1,rfl,hj,_⟩|YL
 ·have e:=(Is j k1 hj).unique hr hc
  subst e;obtain⟨S,h3⟩:=he.news j k1 li hj I;rcases(h3 hs).2 with h|⟨td,lt,kd,hm,La,fc,UD,KE⟩
  ·exact .inl (SG hv.size h)
  rcases hv.own td lt kd La (QX td _ lt kd hm La fc) UD with h|⟨u,lu,ku,g1,g2,g3,g4⟩
  ·exact .inl (by omega)
  grind
 obtain⟨k0,OR,Se,_⟩:=old t li k YL hc hs
 exact hv.own t li k0 YL OR Se
end
end Go.Vm
/- A region: a call that works on the blocks themselves, and a skipped operation. -/
namespace Go.Vm
section
variable {W7 : s9} {rec : Task -> O Out} {ops : J dD} {Yz : Nat -> St} {Sx : Nat -> O XR} {Ej : Nat -> Nat -> Prop} {px : Im} {eM : Loc} {w0 : World} {nt : Nat}
  {done : Nat -> Prop} {im : Im} {loc : Loc} {a : Act} {w : World} {i : Nat}
theorem Pm{v:PV}{s:dp}{z:J Nat}(hX:Sx i=hi (.shr v s z))(t:Nat):W Sx i t:=by unfold W;rw[hX];trivial
theorem CX{j t:Nat}(h:W Sx j t):kV Sx j:=by
 unfold W at h;unfold kV
 grind
theorem Inv.sr(hr:EJ W7 rec ops Yz Sx)(ho:Ord ops Yz Sx Ej)(hv:Inv ops Yz Sx px eM w0 nt done im loc a w)(hp:Place ops Ej done i){v:PV}{s:dp}{z:J Nat}(hX:Sx i=hi (.shr v s z)):
 SR im loc (Yz i).aH (Yz i).fz w where
 bZ:=hv.bZ
 eK:=λt li I=>by obtain⟨k,hc,hb⟩:=hv.tok t li I;exact⟨k,hv.cur hr ho hp I (.inr (Pm hX t)) hc,hb⟩
 mE:=λt u li lj k k' I sH hs Eh h h' hb=>by obtain⟨k1,OL,_⟩:=hv.tok t li I;obtain⟨k2,JQ,_⟩:=hv.tok u lj sH;have e1:=hv.cur hr ho hp I (.inr (Pm hX t)) OL;have e2:=hv.cur hr ho hp sH (.inr (Pm hX u)) JQ;rw[hs]at e1;injection e1 with e1;subst e1;rw[Eh]at e2;injection e2 with e2;subst e2;exact hv.mE t u li lj _ _ I sH OL JQ h h' hb
 free:=λt li k I hs h hz=>by obtain⟨k1,OL,_⟩:=hv.tok t li I;have e1:=hv.cur hr ho hp I (.inr (Pm hX t)) OL;rw[hs]at e1;injection e1 with e1;subst e1;obtain⟨h0,D⟩:=Inv.aeK hr ho hp (Pm hX t) (oe.1 hz);exact hv.free t li _ I OL h h0 D
theorem Inv.aa'{Yz:Nat->St}(ho:Ord ops Yz Sx Ej)(hp:Place ops Ej done i){x:dD}(X:ops[i]? =hi x){v:PV}{v':Value}{fZ:Im}{bK:Loc}
 (hv:Inv ops Yz Sx px eM w0 nt done im loc a w) (N:uH im fZ) (I:rD loc bK) (hS:(Yz (i+1)).env=oU x.dst v (Yz i).env) (wc:VR fZ bK v v') (Bq: ∀d,x.dst=hi d->d<nt):
 ∀t,∃m,m<=D5 ops/\(∀j y,ops[j]? =hi y->y.dst=hi t->(plus done i j↔j<m))/\VR fZ bK (lk t (Yz m).env) ((a.put x.dst v').tmps.getD t Go.undef):=by
 intro t;have FU:=hp.lt
 by_cases hd:x.dst=hi t
 ·refine⟨i+1,FU,λj y hy YO=>?_,?_⟩
  ·rcases YG j i with h|h|h
   ·exact⟨λ_=>by omega,λ_=> .inl (hp.pre j (dE hy) (ho.Mx j i t y x h hy X YO (.inr hd)))⟩
   ·subst h;exact⟨λ_=>by omega,λ_=> .inr rfl⟩
   refine⟨λSY=>?_,λh'=>by omega⟩
   rcases SY with SY|SY
   ·exact absurd SY (hp.B9 (dE hy) (ho.Mx i j t x y h X hy hd (.inr YO)))
   omega
  rw[hS]
  simp[hd,oU,yK,Act.put];have:=Bq t hd;simp[hv.U3,this,wc]
 obtain⟨m,hm,D,S⟩:=hv.tm t
 refine⟨m,hm,λj y hy YO=>?_,?_⟩
 ·have fk:j≠i:=by grind
  have:=D j y hy YO;exact⟨λSY=>this.1 (SY.resolve_right fk),λh=> .inl (this.2 h)⟩
 have:=S.mono N I
 cases KD:x.dst with
 |none=>assumption
 |some d=>
  have fk:d≠t:=λe=>hd (by rw[KD,e])
  simpa[Act.put,fk]using this
theorem put_defers(a:Act)(d:O Nat)(v:Value):(a.put d v).defers=a.defers:=by cases d<;>rfl
theorem aeT(a:Act)(d:O Nat)(v:Value):(a.put d v).tmps.size=a.tmps.size:=by cases d<;>simp[Act.put]
theorem Inv.aba(hr:EJ W7 rec ops Yz Sx)(ho:Ord ops Yz Sx Ej)(hv:Inv ops Yz Sx px eM w0 nt done im loc a w)(hp:Place ops Ej done i){x:dD}(X:ops[i]? =hi x){v:PV}{s:dp}{z:J Nat}
 (hX:Sx i=hi (.shr v s z)) (hS:Yz (i+1)=(XR.shr v s z).next x.dst (Yz i)) {v':Value} {fZ:Im} {bK:Loc} {w':World} (hf:B6 im loc (Yz i).aH w v s z fZ bK w' v')
 (Bq: ∀d,x.dst=hi d->d<nt):Inv ops Yz Sx px eM w0 nt (plus done i) fZ bK (a.put x.dst v') w':=by
 have FU:=hp.lt;have CS:(Yz (i+1)).aH=s:=by rw[hS];rfl
 have Ou: ∀t li,loc t=hi li-> ∀k,(Yz i).aH[t]? =hi k->Ip Yz Sx (D5 ops) done t k:=by
  intro t li I k hs;obtain⟨k1,OL,_⟩:=hv.tok t li I;have e1:=hv.cur hr ho hp I (.inr (Pm hX t)) OL
  grind
 have UE: ∀t k,s[t]? =hi k->Ip Yz Sx (D5 ops) (plus done i) t k:=by
  intro t k hs;refine⟨i+1,FU,λj hj Xl=>?_,λc hc D S=>?_,by grind⟩
  ·rcases YG j i with h|h|h
   ·exact⟨λ_=>by omega,λ_=> .inl (hp.pre j hj (ho.Sq j i h FU (.inr ⟨CX Xl,⟨v,s,z,hX⟩⟩)))⟩
   ·subst h;exact⟨λ_=>by omega,λ_=> .inr rfl⟩
   refine⟨λhd=>?_,λh'=>by omega⟩
   rcases hd with hd|hd
   ·exact absurd hd (hp.B9 hj (ho.Sq i j h hj (.inl ⟨⟨v,s,z,hX⟩,CX Xl⟩)))
   omega
  rcases KJ c (i+1)with h|h
  ·exact h
  have:=hr.lP (by omega) (by omega)
  grind
 have QY: ∀t li,bK t=hi li-> ∀k,Ip Yz Sx (D5 ops) (plus done i) t k->s[t]? =hi k:=by
  intro t li I k hc;obtain⟨k1,D,_⟩:=hf.sr.eK t li I;have:=hc.unique hr (UE t k1 D)
  grind
 refine {
  tm:=Inv.aa' ho hp X hv hf.kx hf.fA (by rw[hS];rfl) hf.vr Bq
  bZ:=hf.sr.bZ
  tok:=λt li I=>by
   obtain⟨k,D,S⟩:=hf.sr.eK t li I
   grind
  mE:=λt u li lj k k' I sH hc Lt hs Eh hb=>hf.sr.mE t u li lj k k' I sH (QY t li I k hc) (QY u lj sH k' Lt) hs Eh hb
  free:=λt li k I hc hs h0 Bm=>by refine hf.sr.free t li k I (QY t li I k hc) hs (oe.2 ?_);have:=Bm i FU (.inr rfl);unfold FR at this;grind
  fresh:=λj hj OO t D S=>?_
  kx:=hv.kx.trans hf.kx
  fA:=hv.fA.trans hf.fA
  os:=hf.os.trans hv.os
  tape:=hf.tape.trans hv.tape
  output:=hf.output.trans hv.output
  size:=SG hv.size hf.size
  frame:=λb hb hh=>?_
  fG:=λb o hb=>?_
  uB:=λt li I=>?_
  own:=λt li k I hc hs=>?_
  defers:=by rw[put_defers];exact hv.defers
  U3:=by rw[aeT];exact hv.U3}
 ·have Nf:=λe=>OO (.inr e)
  have Ot:=λh=>OO (.inl h)
  cases I:bK t with
  |none=>rfl
  |some li=>
   obtain⟨k,hk,_⟩:=hf.sr.eK t li I;have iY:=dE hk;rcases hf.uB t li I with h|h
   ·rw[hv.fresh j hj Ot t D S]at h;cases h
   rcases xc Nf with h'|h'
   ·have:=hr.lP (show j+1<=i by omega) (by omega);omega
   have:=hr.lP (show i+1<=j by omega) (by omega)
   grind
 ·rw[hf.frame b (Mq hb hv.size) λt li k I hs qZ SU=>?_]
  ·exact hv.frame b hb hh
  rcases hv.own t li k I (Ou t li I k hs) qZ with h|⟨u,lu,ku,g1,g2,g3,g4⟩
  ·omega
  grind
 ·rcases hf.fG b o hb with h|h|⟨t,li,k,D,S,h3,h4⟩
  ·exact hv.fG b o h
  ·exact .inr (.inl (SG hv.size h))
  rcases hv.own t li k D (Ou t li D k S) h3 with h|⟨u,lu,ku,g1,g2,g3,g4⟩
  ·exact .inr (.inl (by omega))
  grind
 ·rcases hf.uB t li I with h|h
  ·exact hv.uB t li h
  exact .inr (SG (hr.lP (EE _) (by omega)) h)
 rcases hf.own t li k I (QY t li I k hc) hs with h|⟨u,lu,ku,D,S,h3,h4⟩
 ·exact .inl (SG hv.size h)
 rcases hv.own u lu ku D (Ou u lu D ku S) h3 with h|⟨u',lu',ku',g1,g2,g3,g4⟩
 ·exact .inl (by omega)
 grind
theorem Inv.step_skip(_hr:EJ W7 rec ops Yz Sx)(ho:Ord ops Yz Sx Ej)(hv:Inv ops Yz Sx px eM w0 nt done im loc a w)(hp:Place ops Ej done i){x:dD}(X:ops[i]? =hi x)
 (hX:Sx i=h2) (hS:Yz (i+1)={Yz i with env:=oU x.dst .oI (Yz i).env}) (Bq: ∀d,x.dst=hi d->d<nt):Inv ops Yz Sx px eM w0 nt (plus done i) im loc (a.put x.dst Go.undef) w:=by
 have hnW: ∀t,¬W Sx i t:=λt h=>by unfold W at h;grind
 have UE: ∀t k,Ip Yz Sx (D5 ops) done t k->Ip Yz Sx (D5 ops) (plus done i) t k:=by
  intro t k ⟨m,hm,D,S,h3⟩;refine⟨m,hm,λj hj Xl=>?_,S,h3⟩;have fk:j≠i:=λe=>hnW t (e▸Xl)
  have:=D j hj Xl;exact⟨λhd=>this.1 (hd.resolve_right fk),λh=> .inl (this.2 h)⟩
 have QY: ∀t k,Ip Yz Sx (D5 ops) (plus done i) t k->Ip Yz Sx (D5 ops) done t k:=by
  intro t k ⟨m,hm,D,S,h3⟩;refine⟨m,hm,λj hj Xl=>?_,S,h3⟩;have fk:j≠i:=λe=>hnW t (e▸Xl)
  have:=D j hj Xl;exact⟨λhd=>this.1 (.inl hd),λh=>(this.2 h).resolve_right fk⟩
 refine {
  tm:=Inv.aa' ho hp X hv (.refl _) (.refl _) (by rw[hS]) .oI Bq
  bZ:=hv.bZ
  tok:=λt li I=>let ⟨k,D,S⟩:=hv.tok t li I;⟨k,UE t k D,S⟩
  mE:=λt u li lj k k' I sH hc Lt hs Eh hb=>hv.mE t u li lj k k' I sH (QY t k hc) (QY u k' Lt) hs Eh hb
  free:=λt li k I hc hs h0 Bm=>hv.free t li k I (QY t k hc) hs h0 λj hj hd=>Bm j hj (.inl hd)
  fresh:=λj hj OO t D S=>hv.fresh j hj (λh=>OO (.inl h)) t D S
  kx:=hv.kx
  fA:=hv.fA
  os:=hv.os
  tape:=hv.tape
  output:=hv.output
  size:=hv.size
  frame:=hv.frame
  fG:=hv.fG
  uB:=hv.uB
  own:=λt li k I hc hs=>hv.own t li k I (QY t k hc) hs
  defers:=by rw[put_defers];exact hv.defers
  U3:=by rw[aeT];exact hv.U3}
theorem Inv.start{st:St}(h0:Yz 0=st)(pY:SR px eM st.aH st.fz w0)(wA:ER px eM st.env a.tmps)(hd:a.defers=[])(hn:a.tmps.size=nt)(hr:EJ W7 rec ops Yz Sx):
 Inv ops Yz Sx px eM w0 nt (λ_=>False) px eM a w0:=by
 subst h0;have iY:=λt li I=>let ⟨k,h,_⟩:=pY.eK t li I;dE h
 have cur: ∀t li k,eM t=hi li->Ip Yz Sx (D5 ops) (λ_=>False) t k->(Yz 0).aH[t]? =hi k:=by intro t li k I ⟨m,hm,D,S,h3⟩;rw[<-hr.FT (EE m) hm (λj _ hj hW=>(D j (by omega) hW).2 hj) (iY t li I)];exact h3
 exact {
  tm:=λt=>⟨0,EE _,λj y _ _=>⟨λh=>h.elim,λh=>by omega⟩,wA t⟩
  bZ:=pY.bZ
  tok:=λt li I=>by obtain⟨k,D,S⟩:=pY.eK t li I;refine⟨k,⟨0,EE _,λj _ _=>⟨λh=>h.elim,λh=>by omega⟩,λc hc h3 h4=>?_,D⟩,S⟩;have:=iY t li I;have:=hr.lP (EE c) (by omega);omega
  mE:=λt u li lj k k' I sH hc Lt=>pY.mE t u li lj k k' I sH (cur t li k I hc) (cur u lj k' sH Lt)
  free:=λt li k I hc hs hz _=>pY.free t li k I (cur t li k I hc) hs (oe.2 hz)
  fresh:=λj hj _ t D S=>by
   cases I:eM t with
   |none=>rfl
   |some li=>have:=iY t li I;have:=hr.lP (EE j) (by omega);omega
  kx:= .refl _
  fA:= .refl _
  os:=rfl
  tape:= .refl _
  output:=rfl
  size:=Y _
  frame:=λ_ _ _=>rfl
  fG:=λ_ _ h=> .inl h
  uB:=λ_ _ h=> .inl h
  own:=λt li k I hc hs=> .inr ⟨t,li,k,I,cur t li k I hc,hs,rfl⟩
  defers:=hd
  U3:=hn}
structure Kept(px:Im)(eM:Loc)(nQ:dp)(w0:World)(st:St)(im:Im)(loc:Loc)(w:World):Prop where
 sr:SR im loc st.aH st.fz w
 kx:uH px im
 fA:rD eM loc
 os:w.os=w0.os
 tape:Tape w0 w
 output:w.output=w0.output
 size:w0.heap.size<=w.heap.size
 frame: ∀b,b<w0.heap.size->(∀t li k,eM t=hi li->nQ[t]? =hi k->k.cu=YB->li.eK≠b)->w.heap[b]? =w0.heap[b]?
 fG: ∀b o,im b=hi o->px b=hi o\/w0.heap.size<=b\/ ∃t li k,eM t=hi li/\nQ[t]? =hi k/\k.cu=YB/\li.eK=b
 uB: ∀t li,loc t=hi li->eM t=hi li\/D5 nQ<=t
 own: ∀t li k,loc t=hi li->st.aH[t]? =hi k->k.cu=YB->(w0.heap.size<=li.eK\/ ∃u lu ku,eM u=hi lu/\nQ[u]? =hi ku/\ku.cu=YB/\lu.eK=li.eK)
theorem Inv.finish (hr : EJ W7 rec ops Yz Sx) (hv : Inv ops Yz Sx px eM w0 nt done im loc a w) (hd : ∀ j, j < (D5 ops) -> done j) :
    Kept px eM (Yz 0).aH w0 (Yz (D5 ops)) im loc w /\ ER im loc (Yz (D5 ops)).env a.tmps /\ a.defers = [] /\ a.tmps.size = nt := by
  have cur : ∀ t k, Ip Yz Sx (D5 ops) done t k -> (Yz (D5 ops)).aH[t]? = hi k := by
    intro t k ⟨m, hm, D, S, h3⟩
    rw [hr.FT hm (Y _) (fun j h4 h5 hW => by have := (D j h5 hW).1 (hd j h5); omega) (dE h3)]
    exact h3
  have rm : ∀ t li k, loc t = hi li -> (Yz (D5 ops)).aH[t]? = hi k -> Ip Yz Sx (D5 ops) done t k := by
    intro t li k I hs
    obtain ⟨k1, hc, _⟩ := hv.tok t li I
    have := cur t k1 hc
    rw [hs] at this; injection this with this; subst this; exact hc
  refine ⟨{
    sr := { bZ := hv.bZ
            eK := fun t li I => let ⟨k, D, S⟩ := hv.tok t li I; ⟨k, cur t k D, S⟩
            mE := fun t u li lj k k' I sH hs Eh => hv.mE t u li lj k k' I sH (rm t li k I hs) (rm u lj k' sH Eh)
            free := fun t li k I hs qZ hz => by
              have hz := oe.1 hz
              refine hv.free t li k I (rm t li k I hs) qZ (fun h => hz (hr.LM (EE _) (Y _) t h)) fun j hj _ hf => ?_
              exact hz (hr.LM (hj) (Y _) t (hr.ahO hj hf)) }
    kx := hv.kx, fA := hv.fA, os := hv.os, tape := hv.tape, output := hv.output, size := hv.size, frame := hv.frame, fG := hv.fG, uB := hv.uB
    own := fun t li k I hs => hv.own t li k I (rm t li k I hs) }, fun t => ?_, hv.defers, hv.U3⟩
  obtain ⟨m, hm, D, S⟩ := hv.tm t
  rw [hr.Vj hm (Y _) fun j hj h3 h4 Bq => ?_]
  · exact S
  grind
end
end Go.Vm
/- One operation of a region, in the model. -/
namespace Go.Vm
theorem JV{P:Program}{o:Oper}{a:Act}{w:World}{f:FuncId}{us:Array Value}{R:Value->World->Prop}{next:Act->World->Prop}{Q:Exit->Act->World->Prop}
 (h:(execOp a.eval o).run P w=(callFunc f us).run P w) (hc:Bo P f us w R) (hR: ∀v w',R v w'->next (a.put o.dst v) w'):o.wp P a w next Q:=by
 unfold Oper.wp;rw[h];rcases hc with⟨v,w',D,S⟩|⟨D,S⟩
 ·grind[Oper.upon_value]
 rw[D,Oper.upon_enter]
 refine S.mono λe w' ⟨v,he,hv⟩=>?_
 grind
theorem Vn{im:Im}{loc:Loc}{e:Env}{a:Act}(x:jd)(h: ∀t,x= .t t->VR im loc (lk t e) (a.tmps.getD t Go.undef))(o:Operand)(hc:bT x o=YB):VR im loc (x.ev e) (a.eval o):=by
 unfold bT at hc;split at hc
 ·rename_i n m
  have:n=m:=by simpa using hc
  subst this;exact h n rfl
 ·exact QF hc
 ·rename_i f g
  have:f=g:=by simpa using hc
  subst this;exact .fY f [] [] [] [] .nil .nil
 ·exact .undef _
 cases hc
section
variable {P : Program} {W7 : s9} {rec : Task -> O Out} {ops : J dD} {Yz : Nat -> St} {Sx : Nat -> O XR} {Ej : Nat -> Nat -> Prop} {px : Im} {eM : Loc} {w0 : World} {nt : Nat}
  {done : Nat -> Prop} {im : Im} {loc : Loc} {a : Act} {w : World} {i : Nat} {prims : FuncId -> Bool} {nR : Array Oper}
theorem VR.ae7{v:Value}(h:VR im loc .oI v):v=Go.undef:=by cases h;rfl
theorem CY{r:v7}{d:O Nat}{st:St}:((XR.loc r).next d st).aH.length=D5 st.aH+(D5 r.news):=by simp[XR.next,Au,lO]
theorem aar{x:dD}{o:Oper}{e:Env}{b:Bool}(hc:B8 nR x.guard o.guard=YB)(hs: ∀s c,x.guard=hi (s,c)->VR im loc (lk s e) (a.tmps.getD s Go.undef))(h:wanted x.guard e=hi b):
 Region.wanted o (yielded nR a.tmps)=b:=by
 unfold Region.wanted;cases hg:x.guard with
 |none=>
  rw[hg]at hc h;cases ho:o.guard with
  |none=>simp[wanted]at h;subst h;rfl
  |some q=>rw[ho]at hc;simp[B8]at hc
 |some q=>
  obtain⟨s,c⟩:=q;rw[hg]at hc h;cases ho:o.guard with
  |none=>rw[ho]at hc;simp[B8]at hc
  |some q'=>
   obtain⟨j,c'⟩:=q';rw[ho]at hc;simp[B8,NE,beq_iff_eq]at hc;obtain⟨rfl,hd⟩:=hc;have hv:=hs s c hg;dsimp only;unfold yielded;rw[hd];simp[wanted]at h;split at h
   ·rename_i b' I
    rw[I]at hv;have:=hv.oc;have ht:a.tmps[s]? =hi (.bool b'):=by
     simp[Xc]at this;cases hq:a.tmps[s]? with
     |none=>rw[hq]at this;simp[Go.undef]at this
     |some u=>rw[hq]at this;exact congrArg hi this
    simp_all
   ·rename_i I
    rw[I]at hv;have:=hv.ae7;injection h with h;subst h;have ht: ∀b',a.tmps[s]?≠hi (.bool b'):=by intro b' hq;simp[Xc,hq,]at this;cases this
    simp
   cases h
structure QZ(P:Program)(W7:s9)(rec:Task->Option Out):Prop where
 func:JS P rec
 p7:FQ P W7
theorem Inv.wpOp(hE:QZ P W7 rec)(hr:EJ W7 rec ops Yz Sx)(ho:Ord ops Yz Sx Ej)(hv:Inv ops Yz Sx px eM w0 nt done im loc a w)(hp:Place ops Ej done i){x:dD}{o:Oper}(X:ops[i]? =hi x)(PK:nR[i]? =hi o)
 (hc:AD P prims nt nR x o=YB) {Q:Exit->Act->World->Prop} {K:Act->World->Prop}
 (hK: ∀fZ bK a' w',Inv ops Yz Sx px eM w0 nt (plus done i) fZ bK a' w'->K a' w'):Go.wpOp P nR Q i K a w:=by
 unfold AD at hc;simp[NE,beq_iff_eq]at hc;obtain⟨⟨⟨Bq,NA⟩,hg⟩,je⟩:=hc;have hd: ∀d,x.dst=hi d->d<nt:=by intro d h;rw[h]at NA;simpa using NA
 have ahQ: ∀t,t∈aC x->VR im loc (lk t (Yz i).env) (a.tmps.getD t Go.undef):=λt ht=>hv.slot hr ho hp X ht
 have YR: ∀y∈x.op.iV,∀o',bT y o'=YB->VR im loc (y.ev (Yz i).env) (a.eval o'):=by intro y hy o' Wl;refine Vn y (λt ht=>ahQ t ?_) o' Wl;subst ht;exact Pg _ (List.mem_filterMap.2 ⟨.t t,hy,rfl⟩)
 have hgs: ∀s c,x.guard=hi (s,c)->VR im loc (lk s (Yz i).env) (a.tmps.getD s Go.undef):=by intro s c h;refine ahQ s (List.mem_append_right _ ?_);rw[h];simp
 unfold Go.wpOp;simp[PK];rcases hr.steps i x X with⟨hw,xr,nP,GA,hX,hS⟩|⟨hw,hX,hS⟩
 ·rw[aar hg hgs hw]
  left;have anb: ∀{own:Bool} {f:FuncId} {args:J PV} {us:J Value} {r:v7},xr= .loc r->iJ W7 rec own f args (Yz i).aH (Yz i).fz=hi r->gW im loc args us->
   (execOp a.eval o).run P w=(callFunc f ⟨us⟩).run P w->o.wp P a w K Q:=by
   intro own f args us r G' UB FO dG;subst G';have hk:=hv.known hr ho hp hX GA (by rw[hS];exact CY);refine JV dG (hAl hE.func hE.p7 UB FO hk) λv' w' ⟨fZ,bK,wc,Ei⟩=>?_
   exact hK _ _ _ _ (Bq▸hv.Ir hr ho hp X hX GA hS wc Ei hd)
  have abb: ∀{f:FuncId} {args:J PV} {us:J Value},kr rec f args (Yz i).aH (Yz i).fz=hi xr->gW im loc args us->
   (execOp a.eval o).run P w=(callFunc f ⟨us⟩).run P w->o.wp P a w K Q:=by
   intro f args us yL FO dG;unfold kr at yL;split at yL
   ·rename_i v s z Mo
    split at yL
    ·injection yL with yL;subst yL
     refine JV dG (hE.func f args _ _ v s z Mo im loc w us (hv.sr hr ho hp hX) FO) λv' w' ⟨fZ,bK,hf⟩=>?_
     exact hK _ _ _ _ (Bq▸hv.aba hr ho hp X hX hS hf hd)
    cases yL
   cases yL
  have ajk: ∀{r:v7},xr= .loc r->cd (Yz i).env (Yz i).aH (Yz i).fz x.op=hi r->o.wp P a w K Q:=by
   intro r G' he;subst G';have hk:=hv.known hr ho hp hX GA (by rw[hS];exact CY);obtain⟨nx,w',bK,dG,hnx,Ei⟩:=aaU je YR he hk;unfold Oper.wp;rw[dG];rcases hnx with⟨rfl,hu⟩|⟨v,rfl,wc⟩
   ·rw[Oper.upon_skip]
    exact hK _ _ _ _ (Bq▸hv.Ir hr ho hp X hX GA hS (by rw[hu];exact .undef _) Ei hd)
   exact hK _ _ _ _ (Bq▸hv.Ir hr ho hp X hX GA hS wc Ei hd)
  cases S2:x.op with
  |call m f args=>
   rw[S2]at nP je YR;have Ju: ∃as K4,o.op= .call {callee:= .value (.func f),args:=as,argTypes:=K4}/\gY args as.toList=YB:=by
    cases Xj:o.op with
    |call c=>
     obtain⟨callee,as,K4⟩:=c;rw[Xj]at je;cases callee with
     |value g=>
      cases g with
      |func g=>
       simp[D6,]at je
       grind
      |_=>simp[D6]at je
     |_=>simp[D6]at je
    |_=>rw[Xj]at je;simp[D6]at je
   obtain⟨as,K4,Xj,Wl⟩:=Ju;have hrel:=tz (λy hy=>YR y (by assumption)) Wl;have dG:(execOp a.eval o).run P w=(callFunc f ⟨as.toList.map a.eval⟩).run P w:=by
    have:(⟨as.toList.map a.eval⟩:Array Value)=as.map a.eval:=by apply Vg;simp
    rw[this];simp[execOp,Xj,resolve,Act.eval,Deferred.ofValue,invoke]
   cases m with
   |Zh=>
    simp[FJ,WF]at nP
    grind
   |own=>
    simp[FJ,WF]at nP
    grind
   |shr=>exact abb nP hrel dG
   |fp=>
    simp[FJ,WF]at nP;obtain⟨r,ME,VS⟩:=nP;subst VS;have hk:=hv.known hr ho hp hX GA (by rw[hS];exact CY);refine JV dG (h1c hE.func ME hrel hk) λv' w' ⟨fZ,bK,wc,Ei⟩=>?_
    exact hK _ _ _ _ (Bq▸hv.Ir hr ho hp X hX GA hS wc Ei hd)
  |D3 y args=>
   rw[S2]at nP je YR;have Ju: ∃t as K4,o.op= .call {callee:= .value (.tmp t),args:=as,argTypes:=K4}/\bT y (.tmp t)=YB/\gY args as.toList=YB:=by
    cases Xj:o.op with
    |call c=>
     obtain⟨callee,as,K4⟩:=c;rw[Xj]at je;cases callee with
     |value g=>
      cases g with
      |tmp g=>
       simp[D6,]at je
       grind
      |_=>simp[D6]at je
     |_=>simp[D6]at je
    |_=>rw[Xj]at je;simp[D6]at je
   obtain⟨t,as,K4,Xj,hcy,Wl⟩:=Ju;have hrel:=tz (λy hy=>YR y (by simp[qd.iV,hy])) Wl;have hy:=YR y (by simp[qd.iV]) (.tmp t) hcy;simp[FJ]at nP;split at nP
   ·rename_i f p q Tq
    rw[Tq]at hy;generalize Tl:a.eval (.tmp t)=aay at hy;cases hy with
    |fY _ _ _ us vs D S=>
    have tB:=(D.append hrel).append S;have dG:(execOp a.eval o).run P w=(callFunc f ⟨us++as.toList.map a.eval++vs⟩).run P w:=by
     have:(⟨us++as.toList.map a.eval++vs⟩:Array Value)=(⟨us⟩++as.map a.eval)++⟨vs⟩:=by apply Vg;simp
     rw[this];simp[execOp,Xj,resolve,Tl,Deferred.ofValue,invoke]
    grind[WF]
   cases nP
  |_=>rw[S2]at nP;simp[FJ,WF]at nP;obtain⟨r,ME,VS⟩:=nP;exact ajk VS.symm (by rw[S2];exact ME)
 rw[aar hg hgs hw]
 exact hK _ _ _ _ (Bq▸hv.step_skip hr ho hp X hX hS hd)
end
end Go.Vm
/- A region, in the order of the text or in a drawn one. -/
namespace Go.Vm
def B'(P:Program)(prims:FuncId->Bool)(nt:Nat)(nR:Array Oper):J dD->J Oper->Bool
 | [],[]=>YB
 |x::xs,o::os=>AD P prims nt nR x o&&B' P prims nt nR xs os
 |_,_=>h9
theorem aaz{P:Program}{prims:FuncId->Bool}{nt:Nat}{nR:Array Oper}: ∀{xs:J dD} {os:J Oper},B' P prims nt nR xs os=YB->
 (D5 xs)=D5 os/\ ∀(i:Nat) (x:dD) (o:Oper),xs[i]? =hi x->os[i]? =hi o->AD P prims nt nR x o=YB
 | [],[],_=>⟨rfl,λi x o h=>by simp at h⟩
 |x::xs,o::os,h=>by
  simp[B',]at h;obtain⟨D,S⟩:=aaz h.2
  grind
 | [],_::_,h=>by simp[B']at h
 |_::_,[],h=>by simp[B']at h
def bit(m i:Nat):Bool:=Nat.testBit m i
def tD(nN:J Nat)(j:Nat):J Edge->O Nat
 | []=>hi 0
 |e::es=>match tD nN j es with
  |some m=>if Region.binds .any e then(if QK e.on j then hi (m|||((nN.getD e.on 0)|||(1<<<e.on)))else h2)else hi m
  |none=>h2
def Ca(nN:J Nat):Nat->J Nat->J Oper->Bool
 |_,[],[]=>YB
 |j,m::ms,o::os=>(match tD nN j o.after.toList with|some m'=>m==m'|none=>h9)&&Ca nN (j+1) ms os
 |_,_,_=>h9
def Cb (i : Nat) (x : dD) (ux : J Nat) : J dD -> J Nat -> Bool
  | [], _ => YB
  | y :: ys, m :: ms => (bit m i || ((match x.dst with
      | some d => !has (aC y) d && (match y.dst with | some d' => !(If d d') | none => YB)
      | none => YB) && (match y.dst with | some d => !has ux d | none => YB))) && Cb i x ux ys ms
  | _ :: _, [] => h9
def Cc:Nat->J dD->J Nat->Bool
 |_,[],_=>YB
 |i,x::xs,_::ms=>Cb i x (aC x) xs ms&&Cc (i+1) xs ms
 |_,_::_,[]=>h9
def JW(P:Program)(prims:FuncId->Bool)(nt:Nat)(draw:O (J Nat))(HY:J dD)(nR:Array Oper)(flag:Bool):Bool:=
 B' P prims nt nR HY nR.toList&&match draw with
 |none=>!flag
 |some bf=>flag&&If (D5 bf) (D5 HY)&&Ca bf 0 bf nR.toList&&Cc 0 HY bf
section
variable {P : Program} {W7 : s9} {rec : Task -> O Out} {ops : J dD} {Yz : Nat -> St} {Sx : Nat -> O XR} {Ej : Nat -> Nat -> Prop} {px : Im} {eM : Loc} {w0 : World} {nt : Nat}
  {done : Nat -> Prop} {im : Im} {loc : Loc} {a : Act} {w : World} {i : Nat} {prims : FuncId -> Bool} {nR : Array Oper}
theorem Ord.text:Ord ops Yz Sx (· < ·) where
 Mx:=λ_ _ _ _ _ h _ _ _ _=>h
 Qr:=λ_ _ _ _ _ h _ _ _ _=>h
 Vk:=λ_ _ _ h _ _ _=>h
 WR:=λ_ _ _ h _ _ _=>h
 Om:=λ_ _ _ h _ _ _ _ _ _=>h
 Sq:=λ_ _ h _ _=>h
 cl:=λ_ _ _ _ _=> .inr λ_ h _=>h
theorem aaB(hE:QZ P W7 rec)(hr:EJ W7 rec ops Yz Sx)(hc: ∀(i:Nat) (x:dD) (o:Oper),ops[i]? =hi x->nR[i]? =hi o->AD P prims nt nR x o=YB)(fJ:(D5 ops)=nR.size)
 {Q:Exit->Act->World->Prop} (hQ: ∀im loc a w,Inv ops Yz Sx px eM w0 nt (λi=>i<D5 ops) im loc a w->Q .normal a w):
 ∀(d n:Nat) (im:Im) (loc:Loc) (a:Act) (w:World),n+d=D5 ops->Inv ops Yz Sx px eM w0 nt (λi=>i<n) im loc a w->wpOps P nR Q (List.range' n d) a w
 |0,n,im,loc,a,w,hn,hv=>by
  have:n=(D5 ops):=by omega
  subst this;exact hQ im loc a w hv
 |d+1,n,im,loc,a,w,hn,hv=>by
  have X:=IR (show n<(D5 ops) by omega);have ho:=SJ (show n<nR.size by omega);refine Inv.wpOp hE hr Ord.text hv {lt:=by omega,nd:=by omega,pre:=λj _ h=>h,fY:=λk _ D j _ S=>by omega} X ho (hc n _ _ X ho) λfZ bK a' w' h'=>?_
  refine aaB hE hr hc fJ hQ d _ fZ bK a' w' (by omega) ?_;have e:plus (λi=>i<n) n=λi=>i<n+1:=by
   funext j;unfold plus;apply propext;omega
  grind
def Vy(nN:J Nat)(i j:Nat):Prop:=bit (nN.getD j 0) i=YB
theorem CZ{nN:J Nat}{j:Nat}: ∀{es:J Edge} {m:Nat},tD nN j es=hi m->(∀e∈es,Region.binds .any e=YB->e.on<j)/\
 ∀i,bit m i=YB-> ∃e∈es,Region.binds .any e=YB/\(e.on=i\/bit (nN.getD e.on 0) i=YB)
 | [],m,h=>by simp[tD,]at h;subst h;exact⟨λe h=>(by cases h),λi h=>by simp[bit]at h⟩
 |e::es,m,h=>by
  simp[tD]at h;split at h
  ·rename_i m' Iq
   obtain⟨D,S⟩:=CZ Iq;split at h
   ·rename_i hb
    split at h
    ·rename_i iY
     injection h with h;subst h;refine⟨λe' Sa KK=>?_,λi N=>?_⟩
     ·rcases List.mem_cons.1 Sa with rfl|Sa
      ·simpa using iY
      exact D e' Sa KK
     simp only[bit,Nat.testBit_or,Bool.or_eq_true]at N
     rcases N with N|N|N
     ·obtain⟨e',Sa,h3⟩:=S i N
      exact⟨e',List.mem_cons_of_mem _ Sa,h3⟩
     ·exact⟨e,by simp,hb,.inr N⟩
     refine⟨e,by simp,hb,.inl ?_⟩
     rw[Nat.one_shiftLeft,Nat.testBit_two_pow]at N;simpa using N
    cases h
   grind
  cases h
theorem aaN{nN:J Nat}: ∀{j:Nat} {ms:J Nat} {os:J Oper},Ca nN j ms os=YB->D5 ms=D5 os/\
 ∀(k:Nat) (m:Nat) (o:Oper),ms[k]? =hi m->os[k]? =hi o->tD nN (j+k) o.after.toList=hi m
 |j,[],[],_=>⟨rfl,λk m o h=>by simp at h⟩
 |j,m::ms,o::os,h=>by
  simp[Ca,]at h;obtain⟨D,S⟩:=h;obtain⟨h3,h4⟩:=aaN S
  grind
 |j,[],_::_,h=>by simp[Ca]at h
 |j,_::_,[],h=>by simp[Ca]at h
theorem adc{i:Nat}{x:dD}{ux:J Nat}: ∀{ys:J dD} {ms:J Nat},Cb i x ux ys ms=YB-> ∀(k:Nat) (y:dD),ys[k]? =hi y->
 bit (ms.getD k 0) i=YB\/((∀d,x.dst=hi d->d∉aC y/\y.dst≠hi d)/\ ∀d,y.dst=hi d->d∉ux)
 | [],_,_,k,y,h=>by simp at h
 |z::ys,[],h,k,y,hy=>by simp[Cb]at h
 |z::ys,m::ms,h,k,y,hy=>by
  simp[Cb,]at h;obtain⟨D,S⟩:=h;cases k with
  |succ k=>simpa using adc S k y (by simpa using hy)
  |zero=>
   simp at hy;subst hy;rcases D with D|⟨D,h3⟩
   ·grind
   refine .inr ⟨λd hd=>?_,λd hd=>?_⟩
   ·rw[hd]at D
    simp[]at D;refine⟨oe.1 D.1,λhz=>?_⟩;simp_all
   rw[hd]at h3
   simp[]at h3;exact oe.1 h3
theorem EK: ∀{i0:Nat} {xs:J dD} {ms:J Nat},Cc i0 xs ms=YB-> ∀(i j:Nat) (x y:dD),i<j->xs[i]? =hi x->xs[j]? =hi y->
 bit (ms.getD j 0) (i0+i)=YB\/((∀d,x.dst=hi d->d∉aC y/\y.dst≠hi d)/\ ∀d,y.dst=hi d->d∉aC x)
 |i0,[],_,_,i,j,x,y,_,X,_=>by simp at X
 |i0,z::xs,[],h,i,j,x,y,_,X,_=>by simp[Cc]at h
 |i0,z::xs,m::ms,h,i,j,x,y,rE,X,hy=>by
  simp[Cc,]at h;obtain⟨D,S⟩:=h;cases j with
  |zero=>omega
  |succ j=>
   cases i with
   |zero=>simp at X;subst X;simpa using adc D j y (by simpa using hy)
   |succ i=>
    have:=EK S i j x y (by omega) (by simpa using X) (by simpa using hy)
    grind
theorem ae3{i:Nat}{t:Tr}: ∀{l:J _},QB i t l=YB-> ∀(k:Nat) (b:Tr) (m:Nat),l[k]? =hi (b,m)->t.BX b=YB->bit m i=YB
 | [],_,k,b,m,h,_=>by simp at h
 |(b',m')::r,h,k,b,m,hk,hc=>by
  simp[QB,]at h;cases k with
  |zero=>
   obtain⟨rfl,rfl⟩:=hk;rcases h.1 with D|D
   ·grind
   exact D
  |succ k=>exact ae3 h.2 k b m (by simpa using hk) hc
theorem aew: ∀{i0:Nat} {l:J _},yJ i0 l=YB->(∀(i:Nat) (t:Tr) (m:Nat),l[i]? =hi (t,m)->t.cl=YB)/\
 ∀(i j:Nat) (t b:Tr) (m m':Nat),i<j->l[i]? =hi (t,m)->l[j]? =hi (b,m')->t.BX b=YB->bit m' (i0+i)=YB
 |_,[],_=>⟨λi t m h=>by simp at h,λi j t b m m' _ h=>by simp at h⟩
 |i0,(t0,m0)::r,h=>by
  simp[yJ,]at h;obtain⟨⟨D,S⟩,h3⟩:=h;obtain⟨h4,h5⟩:=aew h3;refine⟨λi t m N=>?_,λi j t b m m' rE N hj hc=>?_⟩
  ·grind
  cases j with
  |zero=>omega
  |succ j=>
   cases i with
   |zero=>
    grind[ae3]
   |succ i=>
    grind
theorem MB{l m:J Nat}{t:Nat}(D:t∈l)(S:t∈m):meets l m=YB:=by unfold meets;rw[KO];exact⟨t,D,xd.2 S⟩
theorem Ord.drawn (hr : EJ W7 rec ops Yz Sx) {nN : J Nat} (U2 : (D5 nN) = (D5 ops)) (hs : Cc 0 ops nN = YB) (ho : yJ 0 ((GJ Yz Sx (D5 ops)).zip nN) = YB) : Ord ops Yz Sx (Vy nN) := by
  obtain ⟨Ls, hcz⟩ := aew ho
  have OP : ∀ i, i < (D5 ops) -> ((GJ Yz Sx (D5 ops)).zip nN)[i]? = hi (GC (Sx i) (Yz i), nN.getD i 0) := by
    intro i N
    rw [List.getElem?_zip_eq_some]
    refine ⟨?_, ?_⟩
    · unfold GJ; simp [N]
    grind
  have BX : ∀ i j, i < j -> j < (D5 ops) -> (GC (Sx i) (Yz i)).BX (GC (Sx j) (Yz j)) = YB -> Vy nN i j := by
    intro i j rE hj hc
    have := hcz i j _ _ _ _ rE (OP i (by omega)) (OP j hj) hc
    unfold Vy; simpa using this
  have tch : ∀ j, kV Sx j -> (GC (Sx j) (Yz j)).kV = YB := by
    intro j h
    unfold kV at h
    unfold GC
    cases hX : Sx j with
    | none => grind
    | some x =>
      rw [hX] at h
      cases x with
      | shr v s z => rfl
      | loc r =>
        simp [XR.tr, Tr.kV, ]
        rcases h with h | h | h | h
        · cases Xi : r.rd with
          | nil => exact absurd Xi h
          | cons _ _ => simp
        · cases Xi : r.fr with
          | nil => exact absurd Xi h
          | cons _ _ => simp
        · cases Xi : r.wr with
          | nil => exact absurd Xi h
          | cons _ _ => simp
        grind
  have brr : ∀ j, zx Sx j -> (GC (Sx j) (Yz j)).Sq = YB := by
    rintro j ⟨v, s, z, h⟩; rw [h]; rfl
  have aeG : ∀ j t, W Sx j t -> kV Sx j := fun j t h => CX h
  have aeB : ∀ j t, A Sx j t -> kV Sx j := by
    intro j t h
    unfold A at h; unfold kV
    grind
  have Sq : ∀ i j, i < j -> j < (D5 ops) -> (zx Sx i /\ kV Sx j \/ kV Sx i /\ zx Sx j) -> Vy nN i j := by
    intro i j rE hj h
    refine BX i j rE hj ?_
    unfold Tr.BX
    rcases h with ⟨D, S⟩ | ⟨D, S⟩
    · rw [brr i D, tch j S]; simp
    grind
  have Lb : ∀ j t, W Sx j t -> ¬ zx Sx j -> t ∈ (GC (Sx j) (Yz j)).wr := by
    intro j t h hn
    unfold W at h
    cases hX : Sx j with
    | none => grind
    | some x =>
      rw [hX] at h
      cases x with
      | shr v s z => exact absurd ⟨v, s, z, hX⟩ hn
      | loc r =>
        obtain ⟨k, hk⟩ := h
        exact List.mem_map.2 ⟨(t, k), hk, rfl⟩
  have rdT : ∀ j t, A Sx j t -> t ∈ (GC (Sx j) (Yz j)).rd := by
    intro j t h
    unfold A at h
    cases hX : Sx j with
    | none => grind
    | some x =>
      rw [hX] at h
      cases x with
      | shr v s z => exact h.elim
      | loc r => exact KL.2 h
  exact {
    Mx := fun i j t x y rE X hy hd hu => by
      rcases EK hs i j x y rE X hy with h | ⟨h, _⟩
      · unfold Vy; simpa using h
      rcases hu with hu | hu
      · exact absurd hu (h t hd).1
      exact absurd hu (h t hd).2
    Qr := fun i j t x y rE X hy hd hu => by
      rcases EK hs i j x y rE X hy with h | ⟨_, h⟩
      · unfold Vy; simpa using h
      exact absurd hu (h t hd)
    Vk := fun i j t rE hj hW Rs => by
      by_cases N : zx Sx i
      · exact Sq i j rE hj (.inl ⟨N, Rs.elim (aeB j t) (aeG j t)⟩)
      by_cases YP : zx Sx j
      · exact Sq i j rE hj (.inr ⟨aeG i t hW, YP⟩)
      refine BX i j rE hj ?_
      unfold Tr.BX
      rcases Rs with h | h
      · rw [MB (Lb i t hW N) (rdT j t h)]; simp
      rw [MB (Lb i t hW N) (Lb j t h YP)]; simp
    WR := fun i j t rE hj hA hW => by
      by_cases YP : zx Sx j
      · exact Sq i j rE hj (.inr ⟨aeB i t hA, YP⟩)
      refine BX i j rE hj ?_
      unfold Tr.BX
      rw [MB (rdT i t hA) (Lb j t hW YP)]; simp
    Om := fun i j t rE hj KS D S YP hW => by
      refine BX i j rE hj ?_
      unfold Tr.BX
      have : ((GC (Sx j) (Yz j)).wr.any fun t => Ii (GC (Sx i) (Yz i)).lo t && QK t (GC (Sx i) (Yz i)).N) = YB := by
        rw [KO]
        refine ⟨t, Lb j t hW YP, ?_⟩
        rcases hr.steps i _ (IR (by omega)) with ⟨_, x, X, _, hX, hn⟩ | ⟨_, hX, hn⟩
        · cases x with
          | shr v s z => exact absurd ⟨v, s, z, hX⟩ KS
          | loc r =>
            rw [hn, CY] at S
            rw [hX]
            simp [GC, XR.tr, ]
            exact ⟨D, by simpa using S⟩
        rw [hn] at S; dsimp only at S; omega
      rw [this]; simp
    Sq := Sq
    cl := fun i t N KS Rs => by
      left
      have hc := Ls i _ _ (OP i N)
      cases hX : Sx i with
      | none => rcases Rs with h | h
                · unfold A at h; rw [hX] at h; exact h.elim
                unfold W at h; rw [hX] at h; exact h.elim
      | some x =>
        cases x with
        | shr v s z => exact absurd ⟨v, s, z, hX⟩ KS
        | loc r =>
          have hb : ∀ u v : Nat, QK u v = YB -> u < v := fun u v h => by simpa using h
          rw [hX] at hc
          simp only [GC, XR.tr, NE, Sv] at hc
          rcases Rs with h | h
          · unfold A at h; rw [hX] at h
            exact hb _ _ (hc.1 t (KL.2 h))
          unfold W at h; rw [hX] at h
          obtain ⟨k, hk⟩ := h
          exact hb _ _ (hc.2 (t, k) hk) }
end
end Go.Vm
/- A region: the theorem. -/
namespace Go.Vm
section
variable {P : Program} {W7 : s9} {rec : Task -> O Out} {ops : J dD} {Yz : Nat -> St} {Sx : Nat -> O XR} {px : Im} {eM : Loc} {w0 : World} {nt : Nat}
  {im : Im} {loc : Loc} {a : Act} {w : World} {i : Nat} {prims : FuncId -> Bool} {nR : Array Oper} {nN : J Nat}
def pV(l:Array Bool)(i:Nat):Prop:=l.getD i h9=YB
theorem hov(hE:QZ P W7 rec)(hr:EJ W7 rec ops Yz Sx)(ho:Ord ops Yz Sx (Vy nN))(hc: ∀(i:Nat) (x:dD) (o:Oper),ops[i]? =hi x->nR[i]? =hi o->AD P prims nt nR x o=YB)(fJ:(D5 ops)=nR.size)
 (hm: ∀(k:Nat) (o:Oper),nR[k]? =hi o->tD nN k o.after.toList=hi (nN.getD k 0))
 {Q:Exit->Act->World->Prop} (hQ: ∀im loc a w (done:Nat->Prop),(∀i,i<D5 ops->done i)->Inv ops Yz Sx px eM w0 nt done im loc a w->Q .normal a w):
 ∀(EL:Nat) (l:Array Bool) (im:Im) (loc:Loc) (a:Act) (w:World),l.size=D5 ops->EL+l.toList.count YB=D5 ops->(∀k j,pV l k->Vy nN j k->pV l j)->
  Inv ops Yz Sx px eM w0 nt (pV l) im loc a w->wpAny P .any nR Q EL l a w:=by
 have full: ∀l:Array Bool,l.size=D5 ops->Region.ready .any nR l=[]-> ∀i,i<D5 ops->pV l i:=by
  intro l I QN i
  induction i using Nat.strongRecOn with
  |_ i ih=>
   intro N
   by_cases h:pV l i
   ·exact h
   have Lv:i∈Region.ready .any nR l:=by
    rw[mem_ready];have ho:=SJ (show i<nR.size by omega);refine⟨?_,_,ho,λe he hb=>?_⟩
    ·unfold pV at h
     have iY:i<l.size:=by omega
     simp[iY]at h ⊢;exact h
    have:=(CZ (hm i _ ho)).1 e (by simpa using he) hb
    exact ih e.on this (by omega)
   grind
 intro EL
 induction EL with
 |zero=>
  intro l im loc a w I asB wo hv;have yN: ∀b∈l.toList,YB=b:=by
   have:l.toList.count YB=(D5 l.toList):=by grind
   exact List.count_eq_length.1 this
  have Xn: ∀i,i<D5 ops->pV l i:=by
   intro i N;have iY:i<l.size:=by omega
   have:=yN (l[i]) (by simp);unfold pV;simp_all
  refine⟨?_,hQ im loc a w _ Xn hv⟩;cases Xi:Region.ready .any nR l with
  |nil=>rfl
  |cons x xs=>
   have Lv:x∈Region.ready .any nR l:=by rw[Xi];simp
   obtain⟨h0,o,Np,_⟩:=mem_ready.1 Lv;have iY:=(SH.1 Np).1;have:=Xn x (by omega);unfold pV at this
   grind
 |succ EL ih=>
  intro l im loc a w I asB wo hv;refine⟨λQN=>hQ im loc a w _ (full l I QN) hv,λi N=>?_⟩;obtain⟨h0,o,Np,yN⟩:=mem_ready.1 N;have iY:=(SH.1 Np).1;have NB:i<l.size:=by omega
  have X:=IR (show i<(D5 ops) by omega);have anf: ∀j,Vy nN j i->pV l j:=by
   intro j hj;obtain⟨e,he,hb,h⟩:=(CZ (hm i o Np)).2 j hj;have rJ:=yN e (by simpa using he) hb;rcases h with rfl|h
   ·exact rJ
   exact wo _ _ rJ h
  have OO: ¬pV l i:=by unfold pV;grind
  refine Inv.wpOp hE hr ho hv {lt:=by omega,nd:=OO,pre:=λj _ h=>anf j h,fY:=λk _ D j _ S=>wo k j D S} X Np (hc i _ _ X Np) λfZ bK a' w' h'=>?_
  have e:plus (pV l) i=pV (l.setIfInBounds i YB):=by
   funext j
   apply propext;unfold plus pV
   by_cases rE:i=j
   ·subst rE;simp[NB]
   simp[getD_set_ne h9 rE]
   grind
  rw[e]at h';refine ih _ fZ bK a' w' (by simpa using I) ?_ ?_ h'
  ·rw[Array.toList_setIfInBounds,List.count_set (by simpa using NB)]
   have:l.toList[i]=h9:=by simp[NB]at h0;simpa using h0
   grind
  intro k j hk hj
  rw[<-e]at hk ⊢;rcases hk with hk|rfl
  ·exact .inl (wo k j hk hj)
  exact .inl (anf j hj)
theorem ER.iH{st:Env}{iH:J Nat}(h:ER im loc st a.tmps):ER im loc (iH.map λs=>(s,lk s st)) a.tmps:=by
 intro t;have:lk t (iH.map λs=>(s,lk s st))=lk t st\/lk t (iH.map λs=>(s,lk s st))= .undef:=by
  induction iH with
  |nil=>exact .inr rfl
  |cons s r ih=>
   grind[yK]
 rcases this with h'|h'
 ·rw[h'];exact h t
 rw[h'];exact .undef _
structure D9(im:Im)(loc:Loc)(nt:Nat)(st:St)(a:Act):Prop where
 env:ER im loc st.env a.tmps
 defers:a.defers=[]
 U3:a.tmps.size=nt
theorem Kept.world {nQ : dp} {st : St} {w1 : World} (h : Kept px eM nQ w1 st im loc w) (hh : w1.heap = w0.heap) (ho : w1.os = w0.os) (ht : Tape w0 w1) (hp : w1.output = w0.output) : Kept px eM nQ w0 st im loc w :=
  { sr := h.sr, kx := h.kx, fA := h.fA, os := h.os.trans ho, tape := h.tape.trans ht, output := h.output.trans hp, size := by have := h.size; grind
    frame := by have := h.frame; grind
    fG := by have := h.fG; grind
    uB := h.uB
    own := by have := h.own; grind }
theorem SR.world{aH:dp}{fz:J Nat}{w1:World}(h:SR im loc aH fz w)(hh:w1.heap=w.heap):SR im loc aH fz w1 where
 bZ:=by rw[hh];exact h.bZ
 eK:=λt li I=>let ⟨k,D,S⟩:=h.eK t li I;⟨k,D,S.mono (.refl _) (.refl _) (by rw[hh])⟩
 mE:=h.mE
 free:=h.free
theorem hdl(hE:QZ P W7 rec)(xK:P.follows .mixedOrders=YB){draw:O (J Nat)}{iH:J Nat}{id:Nat}{flag:Bool}{st rT:St}
 (hc:JW P prims nt draw ops nR flag=YB) (nP:qf W7 rec draw ops iH st=hi rT) (pY:SR px eM st.aH st.fz w0) (ha:D9 px eM nt st a) {Q:Exit->Act->World->Prop}
 (hQ: ∀im loc a' w',Kept px eM st.aH w0 rT im loc w'->D9 im loc nt rT a'->Q .normal a' w'):(Code.region id nR flag).wp P Q a w0:=by
 unfold JW at hc;simp[NE]at hc;obtain⟨YS,hd⟩:=hc;obtain⟨fJ,LD⟩:=aaz YS;have fJ:(D5 ops)=nR.size:=by simpa using fJ
 have LD:=λi x o X ho=>LD i x o X (by simpa using ho)
 unfold qf at nP;cases he:wb W7 rec ops st []with
 |none=>grind
 |some q=>
  obtain⟨uz,tr⟩:=q;rw[he]at nP;obtain⟨Yz,Sx,h0,hn,hr,htr⟩:=JU ops st [] uz tr he;have fin: ∀(w1:World),w1.heap=w0.heap->w1.os=w0.os->Tape w0 w1->w1.output=w0.output->rT={uz with env:=iH.map λs=>(s,lk s uz.env)}-> ∀im loc a' w' (done:Nat->Prop),(∀i,i<D5 ops->done i)->
   Inv ops Yz Sx px eM w1 nt done im loc a' w'->Q .normal a' w':=by
   intro w1 q1 q2 q3 q4 dh im loc a' w' done UF hv;obtain⟨hk,wA,Jv,hns⟩:=hv.finish hr UF;rw[hn]at hk wA;rw[h0]at hk;subst dh;have hk:=hk.world q1 q2 q3 q4;exact hQ im loc a' w' {sr:=hk.sr,kx:=hk.kx,fA:=hk.fA,os:=hk.os,tape:=hk.tape,output:=hk.output,size:=hk.size,frame:=hk.frame,fG:=hk.fG,uB:=hk.uB,own:=hk.own} ⟨wA.iH,Jv,hns⟩
  cases draw with
  |none=>
   have:flag=h9:=by simpa using hd
   subst this;injection nP with nP;refine wp_region ?_;rw[List.range_eq_range'];refine aaB hE hr LD fJ (λim loc a w hv=>fin w0 rfl rfl (.refl _) rfl nP.symm im loc a w _ (λi h=>h) hv) nR.size 0 px eM a w0 (by omega) ?_;have:=Inv.start h0 pY ha.env ha.defers ha.U3 hr
   grind
  |some bf=>
   dsimp only at hd nP;simp[NE]at hd;obtain⟨⟨⟨rfl,PQ⟩,fm⟩,S1⟩:=hd;split at nP
   ·rename_i Xj
    injection nP with nP;have asE:tr.reverse=GJ Yz Sx (D5 ops):=by rw[htr];simp
    rw[asE]at Xj;obtain⟨_,fm⟩:=aaN fm;refine wp_region_any xK ?_;refine hov hE hr (Ord.drawn hr PQ S1 Xj) LD fJ ?_ (λim loc a w done UF hv=>fin {w0 with drawn:=w0.drawn+1} rfl rfl ⟨rfl,Nat.le_succ _⟩ rfl nP.symm im loc a w done UF hv) nR.size _ px eM a _ (by simp[fJ]) ?_ ?_ ?_
    ·grind
    ·simp[fJ,List.count_replicate]
    ·intro k j h
     unfold pV at h
     by_cases hk:k<nR.size<;>simp[hk]at h
    have:=Inv.start (w0:={w0 with drawn:=w0.drawn+1}) h0 (pY.world rfl) ha.env ha.defers ha.U3 hr
    have e:(λ_:Nat=>False)=pV (Mp nR.size h9):=by
     funext i;apply propext
     unfold pV
     by_cases hk:i<nR.size<;>simp[hk]
    grind
   cases nP
end
end Go.Vm
/- What a function keeps from its beginning on; the head of a loop. -/
namespace Go.Vm
theorem Kept.trans{px OF Ms:Im}{eM eQ zw:Loc}{nQ:dp}{w0 w1 w2:World}{uz Ap:St}(D:Kept px eM nQ w0 uz OF eQ w1)(S:Kept OF eQ uz.aH w1 Ap Ms zw w2)(I:(D5 nQ)<=D5 uz.aH):
 Kept px eM nQ w0 Ap Ms zw w2 where
 sr:=S.sr
 kx:=D.kx.trans S.kx
 fA:=D.fA.trans S.fA
 os:=S.os.trans D.os
 tape:=S.tape.trans D.tape
 output:=S.output.trans D.output
 size:=SG D.size S.size
 frame:=λb hb hh=>by
  rw[S.frame b (Mq hb D.size) λt li k I hs qZ SU=>?_]
  ·exact D.frame b hb hh
  rcases D.own t li k I hs qZ with h|⟨u,lu,ku,g1,g2,g3,g4⟩
  ·omega
  grind
 fG:=λb o hb=>by
  rcases S.fG b o hb with h|h|⟨t,li,k,g1,g2,g3,g4⟩
  ·exact D.fG b o h
  ·exact .inr (.inl (SG D.size h))
  rcases D.own t li k g1 g2 g3 with h|⟨u,lu,ku,k1,k2,k3,k4⟩
  ·exact .inr (.inl (by omega))
  grind
 uB:=λt li h=>by
  rcases S.uB t li h with h|h
  ·exact D.uB t li h
  omega
 own:=λt li k I hs qZ=>by
  rcases S.own t li k I hs qZ with h|⟨u,lu,ku,g1,g2,g3,g4⟩
  ·exact .inl (SG D.size h)
  rcases D.own u lu ku g1 g2 g3 with h|⟨u',lu',ku',k1,k2,k3,k4⟩
  ·exact .inl (by omega)
  grind
structure GK(px:Im)(eM:Loc)(nQ:dp)(w0:World)(st:St)(im:Im)(loc:Loc)(w:World):Prop where
 kept:Kept px eM nQ w0 st im loc w
 kn:st.kn=D5 nQ
 len:(D5 nQ)<=D5 st.aH
 I9: ∀t li,eM t=hi li->t<D5 nQ
theorem MC{W7:s9}{rec:Task->O Out}: ∀(ops:J dD) (st:St) (tr:J Tr) (rT:St) (YQ:J Tr),wb W7 rec ops st tr=hi (rT,YQ)->rT.kn=st.kn
 | [],st,tr,rT,YQ,h=>by simp[wb,Sw,Mi]at h;rw[h.1]
 |o::l,st,tr,rT,YQ,h=>by
  simp[wb]at h;split at h
  ·split at h
   ·rename_i x X
    split at h
    ·have:=MC l _ _ rT YQ h
     rw[this];cases x<;>rfl
    cases h
   cases h
  ·have:=MC l _ _ rT YQ h
   exact this
  cases h
theorem hA1{W7:s9}{rec:Task->O Out}{draw:O (J Nat)}{ops:J dD}{iH:J Nat}{st rT:St}(h:qf W7 rec draw ops iH st=hi rT):rT.kn=st.kn/\D5 st.aH<=(D5 rT.aH):=by
 unfold qf at h;cases he:wb W7 rec ops st []with
 |none=>grind
 |some q=>
  obtain⟨uz,tr⟩:=q;obtain⟨Yz,Sx,h0,hn,hr,_⟩:=JU ops st [] uz tr he;have D:=MC ops st [] uz tr he;have S:=hr.lP (EE (D5 ops)) (Y _)
  grind
section
variable {im : Im} {loc eQ : Loc} {m : J Nat}
theorem afs{fz:J Nat}: ∀{l:J Nat} {i0 u t:Nat},l[u]? =hi t->(i0+u)∉Et fz i0 l->t∉fz
 | [],i0,u,t,h,_=>by simp at h
 |s::r,i0,u,t,h,hn=>by
  simp[Et]at hn;cases u with
  |zero=>
   simp at h;subst h;intro hf;rw[Do (xd.2 hf)]at hn
   grind
  |succ u=>
   refine afs (i0:=i0+1) (by simpa using h) λLv=>?_
   grind
theorem MD{aH:dp}: ∀{n:Nat} {ts seen:J Nat} {m:J Nat},reach aH n ts seen=hi m->(∃l,m=seen++l)/\(seen.Nodup->m.Nodup)
 |_,[],seen,m,h=>by
  have h:hi seen=hi m:=by rw[<-h];unfold reach;cases ‹Nat› <;>rfl
  simp_all
 |0,_::_,seen,m,h=>by simp[reach]at h
 |n+1,t::ts,seen,m,h=>by
  simp[reach]at h;split at h
  ·exact MD h
  rename_i hn
  split at h
  ·obtain⟨⟨l,I⟩,S⟩:=MD h
   refine⟨⟨t::l,by rw[I];simp⟩,λhd=>S ?_⟩;rw[Ih];refine⟨hd,by simp,λa ha b hb=>?_⟩;have:b=t:=by simpa using hb
   subst this;intro e;subst e;exact hn (xd.2 ha)
  cases h
theorem pur: ∀{n i:Nat},i<n->(BV n)[i]? =hi i
 |n+1,i,h=>by
  have I: ∀n,(BV n).length=n:=by
   intro n;induction n with
   |zero=>rfl
   |succ n ih=>simp[BV,ih]
  simp[BV];rcases KJ i n with h'|h'
  ·rw[PP (by rw[I];exact h')];exact pur h'
  grind
theorem mov: ∀{n i:Nat},i∈BV n->i<n
 |n+1,i,h=>by
  simp[BV,KL,Su]at h;rcases h with h|h
  ·have:=mov h;omega
  omega
theorem eqc: ∀n,(BV n).Nodup
 |0=>by simp[BV]
 |n+1=>by
  simp[BV];rw[Ih];refine⟨eqc n,by simp,λa ha b hb=>?_⟩;have:=mov ha
  grind
end
end Go.Vm
/- The head of a loop. -/
namespace Go.Vm
def hW1(s2:dp):Prop:= ∀(j:Nat) (k:pT),s2[j]? =hi k-> ∃e,k= .arr e []
theorem VR.O'{im:Im}{loc:Loc}{x:PV}{u:Value}(h:VR im loc x u): ∀k:O Nat,VR im loc (O' k x) u
 |none=>h
 |some _=>by
  cases h with
  |own t aT off len cap ex li a eL I he hn hc X hk h=>exact .own t aT off len cap h9 li a eL I he hn hc X (λh=>by cases h) h
  |undef=>exact .undef _
  |oI=>exact .oI
  |int k n=>exact .int k n
  |bool b=>exact .bool b
  |str s=>exact .str s
  |agg cs vs h=>exact .agg cs vs h
  |cT cs vs h=>exact .cT cs vs h
  |sl e c r a cap D S h3=>exact .sl e c r a cap D S h3
  |ptr t e r o li D S h3=>exact .ptr t e r o li D S h3
  |cj cs off b o vs h hv=>exact .cj cs off b o vs h hv
  |mp t li I=>exact .mp t li I
  |fY fn a b as bs ha hb=>exact .fY fn a b as bs ha hb
  |fC=>exact .fC
theorem Hk{im:Im}{loc eQ:Loc}{m:J Nat}{e:Env}{tmps:Array Value}(hm:Ren m loc eQ)(he:ER im loc e tmps): ∀{live:J _} {nx:Nat} {e1:Env} {s2:dp},As e m nx live=hi (e1,s2)->
 hW1 s2/\((∀(j:Nat) (aT:Nat),s2[j]? =hi (.arr aT [])->eQ (nx+j)=hi ⟨0,0,aT,0,0⟩)->ER im eQ e1 tmps)
 | [],nx,e1,s2,h=>by obtain⟨rfl,rfl⟩:=h;exact⟨λj k h=>by simp at h,λ_ t=> .undef _⟩
 |(s,k)::r,nx,e1,s2,h=>by
  have hs:=he s;simp[As]at h;split at h
  ·rename_i aT e' CL
   rw[WF]at h;obtain⟨⟨e2,s3⟩,D,S⟩:=h;obtain⟨rfl,rfl⟩:=S;obtain⟨g1,g2⟩:=Hk hm he D;refine⟨λj k hj=>?_,λI t=>?_⟩
   ·cases j with
    |zero=>grind
    |succ j=>exact g1 j k (by simpa using hj)
   rw[yK]
   split
   ·rename_i e;subst e
    rw[CL]at hs;generalize hg:tmps.getD s Go.undef=v at hs;cases hs with
    |sl _ _ _ a cap D S h3=>
    have:cap=0:=by grind
    subst this;exact .own nx aT 0 0 0 h9 ⟨0,0,aT,0,0⟩ a 0 (by simpa using I 0 aT rfl) rfl (Y _) (Y _) (Y _) (λh=>by cases h) (.inl rfl)
   refine g2 (λj asF hj=>?_) t
   have:=I (j+1) asF (by simpa using hj)
   grind
  split at h
  ·rename_i v' p D S
   injection h with h;simp[]at h;obtain⟨rfl,rfl⟩:=h;obtain⟨g1,g2⟩:=Hk hm he S;refine⟨g1,λI t=>?_⟩;rw[yK];split
   ·rename_i e;subst e
    exact(aaE hm hs D).O' _
   exact g2 I t
  cases h
theorem gW.setAt{im:Im}{loc:Loc}{x:PV}: ∀{xs:J PV} {vs:J Value} {c:Nat} {y:PV},gW im loc xs vs->xs[c]? =hi y->(∀v,VR im loc y v->VR im loc x v)->gW im loc (xs.set c x) vs
 | [],_,c,y,h,hc,_=>by simp at hc
 |z::zs,vs,c,y,h,hc,X=>by
  cases h with
  |cons _ v _ us g1 g2=>
   cases c with
   |zero=>simp at hc;subst hc;exact .cons _ _ _ _ (X v g1) g2
   |succ c=>exact .cons _ _ _ _ g1 (gW.setAt g2 (by simpa using hc) X)
theorem hh1{px im:Im}{eM loc:Loc}{nQ:dp}{w0 w:World}{nt:Nat}{st:St}{a:Act}(t c aT:Nat)(hk:GK px eM nQ w0 st im loc w)(ha:D9 im loc nt st a):
 ∃eQ,GK px eM nQ w0 (yI st t c aT) im eQ w/\D9 im eQ nt (yI st t c aT) a:=by
 unfold yI;split
 ·rename_i cs hb
  split
  ·rename_i e hc
   have sr:=hk.kept.sr;have asG: ∀u li,loc u=hi li->u<(D5 st.aH):=λu li h=>by obtain⟨k,D,_⟩:=sr.eK u li h;exact dE D
   let eQ:=λu=>if u=(D5 st.aH)then hi ⟨0,0,aT,0,0⟩else loc u
   have rJ:rD loc eQ:=λu li h=>by have:=asG u li h;simp[eQ,show u≠(D5 st.aH) by omega,];exact h
   have back: ∀u li,eQ u=hi li->u≠D5 st.aH->loc u=hi li:=λu li h hu=>by simpa only[eQ,hu,if_false]using h
   have YU:=dE hb;have get: ∀u,u<D5 st.aH->(st.aH.set t (.box (cs.set c (.own (D5 st.aH) aT 0 0 0 h9)))++[.arr aT []])[u]? =if t=u then hi (.box (cs.set c (.own (D5 st.aH) aT 0 0 0 h9)))else st.aH[u]?:=λu hu=>by
    rw[PP (by simpa using hu),SK];split
    ·rename_i e;subst e;simp
    rfl
   have ang:(st.aH.set t (.box (cs.set c (.own (D5 st.aH) aT 0 0 0 h9)))++[.arr aT []])[D5 st.aH]? =hi (.arr aT []):=by rw[Pc (by simp)];simp
   have cu: ∀(u:Nat) (k:pT),(st.aH.set t (.box (cs.set c (.own (D5 st.aH) aT 0 0 0 h9)))++[.arr aT []])[u]? =hi k->k.cu=YB->u≠D5 st.aH/\ ∃k0:pT,st.aH[u]? =hi k0/\k0.cu=YB:=by
    intro u k hu hs;have iY:=dE hu;simp[]at iY;have fk:u≠(D5 st.aH):=by intro e;subst e;rw[ang]at hu;injection hu with hu;subst hu;cases hs
    refine⟨fk,?_⟩;rw[get u (by omega)]at hu;split at hu
    ·rename_i e;subst e;exact⟨_,hb,rfl⟩
    exact⟨k,hu,hs⟩
   refine⟨eQ,⟨⟨?_,hk.kept.kx,hk.kept.fA.trans rJ,hk.kept.os,hk.kept.tape,hk.kept.output,hk.kept.size,hk.kept.frame,hk.kept.fG,λu li h=>?_,λu li k h hs qZ=>?_⟩,hk.kn,?_,hk.I9⟩,⟨ha.env.mono (uH.refl _) rJ,ha.defers,ha.U3⟩⟩
   ·refine {
     bZ:=sr.bZ
     eK:=λu li I=>?_
     mE:=λu u' li lj k k' I sH hs Eh qZ Pk hbk=>?_
     free:=λu li k I hs qZ hz=>?_}
    ·by_cases hu:u=D5 st.aH
     ·subst hu
      simp only[eQ,]at I;injection I with I;subst I;exact⟨_,ang,rfl,rfl,λh=>absurd rfl h⟩
     have UZ:=back u li I hu
     obtain⟨k,D,S⟩:=sr.eK u li UZ;rw[get u (dE D)];split
     ·rename_i et;subst et
      rw[hb]at D;injection D with D;subst D;obtain⟨g1,g2,g3,vs,el,g4,g5,g6⟩:=S;refine⟨_,rfl,by simpa using g1,g2,g3,vs,el,g4,g5,(g6.mono (uH.refl _) rJ).setAt hc λv hv=>?_⟩;cases hv with
      |sl _ _ _ a' cap D S h3=>
      have:cap=0:=by simpa using S rfl
      subst this;exact .own _ aT 0 0 0 h9 ⟨0,0,aT,0,0⟩ a' 0 (by simp[eQ,]) rfl (Y _) (Y _) (Y _) (λh=>by cases h) (.inl rfl)
     exact⟨k,D,S.mono (uH.refl _) rJ rfl⟩
    ·obtain⟨n1,k0,g1,g2⟩:=cu u k hs qZ
     obtain⟨n2,TP,K5,IJ⟩:=cu u' k' Eh Pk;exact sr.mE u u' li lj k0 TP (back _ _ I n1) (back _ _ sH n2) g1 K5 g2 IJ hbk
    obtain⟨n1,k0,g1,g2⟩:=cu u k hs qZ
    exact sr.free u li k0 (back _ _ I n1) g1 g2 hz
   ·by_cases hu:u=D5 st.aH
    ·right;have:=hk.len;omega
    exact hk.kept.uB u li (back u li h hu)
   ·obtain⟨n1,k0,g1,g2⟩:=cu u k hs qZ
    exact hk.kept.own u li k0 (back _ _ h n1) g1 g2
   have:=hk.len
   simp;omega
  exact⟨loc,hk,ha⟩
 grind
theorem xL{px im:Im}{eM:Loc}{nQ:dp}{w0 w:World}{nt:Nat}{a:Act}: ∀(live:J _) {st:St} {loc:Loc},GK px eM nQ w0 st im loc w->D9 im loc nt st a->
 ∃eQ,GK px eM nQ w0 (qe live st) im eQ w/\D9 im eQ nt (qe live st) a
 | [],st,loc,hk,ha=>⟨loc,hk,ha⟩
 |(s,k)::r,st,loc,hk,ha=>by
  simp[qe];split
  ·split
   ·split
    ·rename_i t _
     obtain⟨eQ,D,S⟩:=hh1 t _ _ hk ha;exact xL r D S
    exact xL r hk ha
   exact xL r hk ha
  exact xL r hk ha
theorem abe{px im:Im}{eM loc:Loc}{nQ:dp}{w0 w:World}{nt:Nat}{live:J _}{st uz:St}{a:Act}(h:Pa live st=hi uz)(hk:GK px eM nQ w0 st im loc w)(ha:D9 im loc nt st a):
 ∃eQ,GK px eM nQ w0 uz im eQ w/\D9 im eQ nt uz a:=by
 unfold Pa at h;split at h
 ·cases h
 rename_i m ajn
 split at h
 ·rename_i s1 e1 s2 TQ hlv
  injection h with h;subst h;refine(λhh: ∃eQ,GK px eM nQ w0 {env:=e1,aH:=s1++s2,fz:=Et st.fz 0 m,kn:=st.kn} im eQ w/\D9 im eQ nt {env:=e1,aH:=s1++s2,fz:=Et st.fz 0 m,kn:=st.kn} a=>
   let ⟨_,g1,g2⟩:=hh;xL live g1 g2) ?_
  obtain⟨⟨ml,U2⟩,OO⟩:=MD ajn;have OO:=OO (eqc _);obtain⟨Pf,OP⟩:=JG TQ;have anh: ∀n,(BV n).length=n:=by
   intro n;induction n with
   |zero=>rfl
   |succ n ih=>simp[BV,ih]
  have YT: ∀t,t<st.kn->m[t]? =hi t:=by intro t ht;rw[U2,PP (by rw[anh];exact ht)];exact pur ht
  have aAr:st.kn<=(D5 m):=by rw[U2];simp[anh]
  let eQ:=λu=>if u<(D5 m)then(match m[u]? with|some t=>loc t|none=>h2)else match s2[u-(D5 m)]? with
   |some (.arr e [])=>hi ⟨0,0,e,0,0⟩
   |_=>h2
  have OQ:Ren m loc eQ:=by intro u t hu;have:=dE hu;simp only[eQ,this,if_true,hu]
  obtain⟨asH,wA⟩:=Hk OQ ha.env hlv;have old: ∀u li,eQ u=hi li->u<D5 m-> ∃t,m[u]? =hi t/\loc t=hi li:=by intro u li I hu;have e:=IR hu;rw[OQ u _ e]at I;exact⟨_,e,I⟩
  have ani: ∀u,u<D5 m->(s1++s2)[u]? =s1[u]?:=λu hu=>PP (by rw[Pf];exact hu)
  have anj: ∀u,¬u<D5 m->(s1++s2)[u]? =s2[u-(D5 m)]?:=λu hu=>by rw[Pc (by rw[Pf];omega),Pf]
  have FW: ∀(u:Nat) (k:pT),(s1++s2)[u]? =hi k->k.cu=YB->u<(D5 m):=by
   intro u k hs qZ;rcases KJ u (D5 m)with h|h
   ·exact h
   rw[anj u (by omega)]at hs
   obtain⟨e,rfl⟩:=asH _ _ hs;cases qZ
  have back: ∀(u:Nat) (k:pT),(s1++s2)[u]? =hi k-> ∀t,m[u]? =hi t-> ∃k0:pT,st.aH[t]? =hi k0/\k.cu=k0.cu:=by intro u k hs t ht;obtain⟨k0,k',g1,g2,g3⟩:=OP u t ht;rw[ani u (dE ht),g3]at hs;injection hs with hs;subst hs;exact⟨k0,g1,aaw g2⟩
  have sr:=hk.kept.sr;have ajo:SR im eQ (s1++s2) (Et st.fz 0 m) w:=by
   refine {
    bZ:=sr.bZ
    eK:=λu li I=>?_
    mE:=λu u' li lj k k' I sH hs Eh qZ Pk hb=>?_
    free:=λu li k I hs qZ hz=>?_}
   ·by_cases hu:u<D5 m
    ·obtain⟨t,ht,iY⟩:=old u li I hu
     obtain⟨k0,D,S⟩:=sr.eK t li iY;obtain⟨k1,k',g1,g2,g3⟩:=OP u t ht;rw[D]at g1;injection g1 with g1;subst g1;exact⟨k',by rw[ani u hu];exact g3,aav OQ g2 S⟩
    simp[eQ,hu,]at I
    split at I
    ·rename_i e he
     injection I with I;subst I;exact⟨.arr e [],by rw[anj u hu];exact he,rfl,rfl,λh=>absurd rfl h⟩
    cases I
   ·have hu:=FW u k hs qZ
    have KQ:=FW u' k' Eh Pk;obtain⟨t,ht,iY⟩:=old u li I hu;obtain⟨t',aw,NB⟩:=old u' lj sH KQ;obtain⟨k0,g1,g2⟩:=back u k hs t ht;obtain⟨TP,K5,IJ⟩:=back u' k' Eh t' aw;have:=sr.mE t t' li lj k0 TP iY NB g1 K5 (by rw[<-g2];exact qZ) (by rw[<-IJ];exact Pk) hb;subst this;have pw:=List.pairwise_iff_getElem.1 OO;have e1:=(Md.1 ht).2;have e2:=(Md.1 aw).2;rcases YG u u' with h|h|h
    ·exact absurd (e1.trans e2.symm) (pw u u' hu KQ h)
    ·exact h
    exact absurd (e2.trans e1.symm) (pw u' u KQ hu h)
   have hu:=FW u k hs qZ
   obtain⟨t,ht,iY⟩:=old u li I hu;obtain⟨k0,g1,g2⟩:=back u k hs t ht;refine sr.free t li k0 iY g1 (by rw[<-g2];exact qZ) (oe.2 ?_);exact afs (i0:=0) ht (by have:=oe.1 hz;simpa using this)
  refine⟨eQ,⟨⟨ajo,hk.kept.kx,λt li I=>?_,hk.kept.os,hk.kept.tape,hk.kept.output,hk.kept.size,hk.kept.frame,hk.kept.fG,λt li I=>?_,λu li k I hs qZ=>?_⟩,hk.kn,?_,hk.I9⟩,
   ⟨wA λj aT hj=>?_,ha.defers,ha.U3⟩⟩
  ·have D:=hk.kept.fA t li I
   have ht:t<st.kn:=by rw[hk.kn];exact hk.I9 t li I
   rw[OQ t t (YT t ht)];exact D
  ·rcases KJ t st.kn with ht|ht
   ·rw[OQ t t (YT t ht)]at I
    exact hk.kept.uB t li I
   right;rw[hk.kn]at ht;exact ht
  ·have hu:=FW u k hs qZ
   obtain⟨t,ht,iY⟩:=old u li I hu;obtain⟨k0,g1,g2⟩:=back u k hs t ht;exact hk.kept.own t li k0 iY g1 (by rw[<-g2];exact qZ)
  ·rw[<-hk.kn]
   simp;omega
  simp[eQ,hj]
 grind
theorem afa{px im:Im}{eM loc:Loc}{nQ:dp}{w0 w:World}{nt:Nat}{live:J _}{st uz:St}{a:Act}(h:norm live st=hi uz)(hk:GK px eM nQ w0 st im loc w)(ha:D9 im loc nt st a):
 ∃eQ,GK px eM nQ w0 uz im eQ w/\D9 im eQ nt uz a:=by
 unfold norm at h
 grind[abe]
end Go.Vm
/- The code of a function; what it returns. -/
namespace Go.Vm
def jV(P:Program)(prims:FuncId->Bool)(nt:Nat):pg->Code->Bool
 | .skip,.skip=>YB
 | .region d ops _,.region _ nR flag=>JW P prims nt d ops nR flag
 | .seq a b,.seq c d=>jV P prims nt a c&&jV P prims nt b d
 | .cond c a b,.cond c' a' b'=>bT c c'&&jV P prims nt a a'&&jV P prims nt b b'
 | .block id b,.block Ha b'=>id==Ha&&jV P prims nt b b'
 | .loop _ b,.loop b'=>jV P prims nt b b'
 | .exit id,.exit Ha=>id==Ha
 | .ret,.ret=>YB
 |_,_=>h9
def mM.out:mM->Exit
 | .normal=> .normal
 | .exit id=> .exit id
 | .ret=> .ret
section
variable {P : Program} {W7 : s9} {rec : Task -> O Out} {px : Im} {eM : Loc} {nQ : dp} {w0 : World} {nt : Nat} {prims : FuncId -> Bool}
structure At(px:Im)(eM:Loc)(nQ:dp)(w0:World)(nt:Nat)(st:St)(a:Act)(w:World):Prop where
 ex: ∃im loc,GK px eM nQ w0 st im loc w/\D9 im loc nt st a
def JX (P : Program) (prims : FuncId -> Bool) (rec : Task -> O Out) : Prop :=
  ∀ (live : J (Nat × O Nat)) (x : pg) (st : St) (e : mM) (rT : St), rec (.loop live x st) = hi (.code e rT) ->
    ∀ (c : Code) (nt : Nat) (px : Im) (eM : Loc) (nQ : dp) (w0 : World) (a : Act) (w : World), jV P prims nt x c = YB -> At px eM nQ w0 nt st a w ->
      ∀ (b : Frame) (k : J Item) (cs : J Frame), ∃ a' w', At px eM nQ w0 nt rT a' w' /\ Arrives P (lone (b.at a (.code c :: .inLoop c :: k)) cs w) b k cs e.out a' w'
theorem py(hE:QZ P W7 rec)(hL:JX P prims rec)(xK:P.follows .mixedOrders=YB): ∀(x:pg) (c:Code) (st:St) (e:mM) (rT:St),jV P prims nt x c=YB->BY W7 rec x st=hi (e,rT)->
 ∀(a:Act) (w:World),At px eM nQ w0 nt st a w-> ∀(Q:Exit->Act->World->Prop),(∀a' w',At px eM nQ w0 nt rT a' w'->Q e.out a' w')->c.wp P Q a w
 | .skip,c,st,e,rT,hc,nP,a,w,ha,Q,hQ=>by
  cases c<;>simp[jV,]at hc
  obtain⟨rfl,rfl⟩:=nP;exact wp_skip (hQ _ _ ha)
 | .region d ops iH,c,st,e,rT,hc,nP,a,w,ha,Q,hQ=>by
  cases c<;>simp[jV,]at hc
  simp only[BY,WF]at nP;obtain⟨uz,nP,h⟩:=nP;obtain⟨rfl,rfl⟩:=h;obtain⟨im,loc,hk,MF⟩:=ha.ex;refine hdl hE xK hc nP hk.kept.sr MF λfZ bK a' w' OS OT=>hQ a' w' ⟨fZ,bK,?_,OT⟩
  obtain⟨D,S⟩:=hA1 nP;exact⟨hk.kept.trans OS hk.len,by rw[D];exact hk.kn,SG hk.len S,hk.I9⟩
 | .seq x y,c,st,e,rT,hc,nP,a,w,ha,Q,hQ=>by
  cases c<;>simp[jV,]at hc
  obtain⟨D,S⟩:=hc;simp[BY]at nP;refine wp_seq ?_;cases X:BY W7 rec x st with
  |none=>grind
  |some q=>
   obtain⟨e1,uz⟩:=q;rw[X]at nP;refine py hE hL xK x _ st e1 uz D X a w ha _ λa' w' OT=>?_
   cases e1 with
   |normal=>exact py hE hL xK y _ uz e rT S nP a' w' OT Q hQ
   |exit id=>obtain⟨rfl,rfl⟩:=nP;exact hQ a' w' OT
   |ret=>obtain⟨rfl,rfl⟩:=nP;exact hQ a' w' OT
 | .cond cc x y,c,st,e,rT,hc,nP,a,w,ha,Q,hQ=>by
  cases c<;>simp[jV,]at hc
  obtain⟨⟨h0,D⟩,S⟩:=hc;obtain⟨im,loc,hk,MF⟩:=ha.ex;have hv:=Vn cc (λt _=>MF.env t) _ h0;simp[BY]at nP;split at nP
  ·rename_i hb
   rw[hb]at hv;exact wp_cond_true hv.oc (py hE hL xK x _ st e rT D nP a w ha Q hQ)
  ·rename_i hb
   rw[hb]at hv;exact wp_cond_false hv.oc (py hE hL xK y _ st e rT S nP a w ha Q hQ)
  cases nP
 | .block id x,c,st,e,rT,hc,nP,a,w,ha,Q,hQ=>by
  cases c<;>simp[jV,]at hc
  obtain⟨rfl,D⟩:=hc;refine wp_block ?_;simp[BY]at nP;cases X:BY W7 rec x st with
  |none=>grind
  |some q=>
   obtain⟨e1,uz⟩:=q;rw[X]at nP;refine py hE hL xK x _ st e1 uz D X a w ha _ λa' w' OT=>?_
   cases e1 with
   |normal=>simp[]at nP;obtain⟨rfl,rfl⟩:=nP;exact hQ a' w' OT
   |ret=>simp[]at nP;obtain⟨rfl,rfl⟩:=nP;exact hQ a' w' OT
   |exit j=>
    dsimp only at nP;simp[mM.out,Exit.inBlock];split at nP
    ·rename_i hj
     have:j=id:=by simpa using hj
     simp[]at nP;obtain⟨rfl,rfl⟩:=nP;rw[Do this];exact hQ a' w' OT
    rename_i hj
    have:j≠id:=by simpa using hj
    simp[]at nP;obtain⟨rfl,rfl⟩:=nP;rw[EQ this];exact hQ a' w' OT
 | .loop live x,c,st,e,rT,hc,nP,a,w,ha,Q,hQ=>by
  cases c<;>simp[jV,]at hc
  simp[BY]at nP;split at nP
  ·rename_i e1 uz hr
   simp[]at nP;obtain⟨rfl,rfl⟩:=nP;intro b k cs;obtain⟨a',w',D,S⟩:=hL live x st _ _ hr _ nt px eM nQ w0 a w hc ha b k cs;exact⟨_,a',w',hQ a' w' D,.of_steps (.one step_loop) S⟩
  cases nP
 | .exit id,c,st,e,rT,hc,nP,a,w,ha,Q,hQ=>by
  cases c<;>simp[jV,]at hc
  subst hc;simp[BY,]at nP;obtain⟨rfl,rfl⟩:=nP;exact wp_exit (hQ _ _ ha)
 | .ret,c,st,e,rT,hc,nP,a,w,ha,Q,hQ=>by
  cases c<;>simp[jV,]at hc
  simp[BY,]at nP;obtain⟨rfl,rfl⟩:=nP;exact wp_ret (hQ _ _ ha)
theorem U64(hE:QZ P W7 rec)(hL:JX P prims rec)(xK:P.follows .mixedOrders=YB):JX P prims (step W7 rec):=by
 intro live x st e rT h c nt px eM nQ w0 a w hc ha b k cs;simp[step]at h;cases hn:norm live st with
 |none=>grind
 |some uz=>
  rw[hn]at h;dsimp only at h;obtain⟨im,loc,hk,MF⟩:=ha.ex;obtain⟨eQ,lL,GB⟩:=afa hn hk MF;have dU:At px eM nQ w0 nt uz a w:=⟨im,eQ,lL,GB⟩;cases X:BY W7 rec x uz with
  |none=>grind
  |some q=>
   obtain⟨e1,Ap⟩:=q;rw[X]at h;have hw:=py hE hL xK x c uz e1 Ap hc X a w dU (λe' a' w'=>e'=e1.out/\At px eM nQ w0 nt Ap a' w') λa' w' h=>⟨rfl,h⟩
   obtain⟨e',a1,w1,⟨rfl,hq⟩,Q1⟩:=hw b _ cs;cases e1 with
   |normal=>obtain⟨a',w',D,S⟩:=hL live x Ap e rT h c nt px eM nQ w0 a1 w1 hc hq b k cs;exact⟨a',w',D,.of_steps (Steps.trans Q1 (.one step_inLoop)) S⟩
   |exit id=>obtain⟨rfl,rfl⟩:=h;exact⟨a1,w1,hq,.pass rfl (λ_ _=> .inl (by simp[mM.out])) Q1⟩
   |ret=>obtain⟨rfl,rfl⟩:=h;exact⟨a1,w1,hq,.pass rfl (λ_ _=> .inl (by simp[mM.out])) Q1⟩
def wz(P:Program):J RV->J ResultVar->Bool
 | [],[]=>YB
 | .tmp t::r,.tmp t'::s=>t==t'&&wz P r s
 | .cell t agg::r,.cell t' ty::s=>t==t'&&Ic P ty agg&&wz P r s
 |_,_=>h9
def YW(tmps:Array Value):ResultVar->Sem Value
 | .tmp t=>pure (tmps.getD t undef)
 | .cell a t=>do loadVar t (<-asAddr (tmps.getD a undef))
theorem ade{im:Im}{loc:Loc}{aH:dp}{agg:O Nat}{p:PV}{u:Value}{r:v7}(hp:VR im loc p u)(h:v8 aH agg p=hi r): ∃ad,u= .pointer (hi ad):=by cases hp<;>first|(simp[v8]at h;done)|simp
theorem SR.known{im:Im}{loc:Loc}{aH:dp}{fz:J Nat}{w:World}(h:SR im loc aH fz w){r:v7}(hn:r.news=[])(hw:r.wr=[]):nM im loc aH w r where
 bZ:=h.bZ
 tok:=λt _ li I=>h.eK t li I
 free:=λt k hm=>by grind
 fresh:=λj hj=>by grind
 mE:=λt u li lj k k' _ _=>h.mE t u li lj k k'
theorem B64{aH:dp}{agg:O Nat}{p:PV}{r:v7}(h:v8 aH agg p=hi r):r.news=[]/\r.wr=[]:=by
 unfold v8 at h
 grind[WF]
theorem abg{im : Im}{loc : Loc}{st : St}{a : Act}{w : World}(pY : SR im loc st.aH st.fz w)(ha : ER im loc st.env a.tmps) : ∀ {rs : J RV} {vs : J PV} {os : J ResultVar}, wz P rs os = YB -> uG st rs = hi vs ->
    ∃ us, (os.mapM (YW a.tmps)).run P w = .ok us w /\ gW im loc vs us
  | [], vs, os, hc, h => by
    cases os <;> simp[wz, ]at hc
    simp[uG, ]at h; subst h
    exact⟨[], by simp, .nil⟩
  | r :: rs, vs, [], hc, h => by cases r <;> simp[wz]at hc
  | r :: rs, vs, o :: os, hc, h => by
    simp[uG]at h
    split at h
    ·rename_i v U1 D S
     injection h with h; subst h
     have JL : ∃ u, (YW a.tmps o).run P w = .ok u w /\ VR im loc v u /\ wz P rs os = YB := by
       cases r with
       | tmp t =>
         cases o with
         | tmp t' =>
           simp[wz, ]at hc
           obtain⟨rfl, hc⟩ := hc
           simp[Mc, ]at D; subst D
           exact⟨_, rfl, ha t, hc⟩
         | cell _ _ => simp[wz]at hc
       | cell t agg =>
         cases o with
         | tmp t' => simp[wz]at hc
         | cell t' ty =>
           simp[wz, ]at hc
           obtain⟨⟨rfl, P2⟩, hc⟩ := hc
           simp[Mc, ]at D
           obtain⟨rr, h3, rfl⟩ := D
           obtain⟨g1, g2⟩ := B64 h3
           obtain⟨u, dG, wc, _⟩ := aaA (ha t) P2 h3 (pY.known g1 g2)
           obtain⟨ad, Nq⟩ := ade (ha t) h3
           refine⟨u, ?_, wc, hc⟩
           simp[YW, Nq, asAddr]
           rw[Nq]at dG
           simpa[Instr.loadAt, Instr.sureAddr]using dG
     obtain⟨u, hu, wc, hc⟩ := JL
     obtain⟨us, FO, asJ⟩ := abg pY ha hc S
     refine⟨u :: us, ?_, .cons _ _ _ _ wc asJ⟩
     simp_all
    cases h
theorem mks{im:Im}{loc:Loc}{st:St}{a:Act}{w:World}{fn:Func}(pY:SR im loc st.aH st.fz w)(ha:ER im loc st.env a.tmps){rs:J RV}{vs:J PV}(hc:wz P rs fn.results.toList=YB)(h:uG st rs=hi vs):
 ∃u,(results fn a.tmps).run P w= .ok u w/\VR im loc (results1 vs) u:=by
 obtain⟨us,D,S⟩:=abg pY ha hc h;have e:fn.results.mapM _=List.toArray<$>fn.results.toList.mapM (YW a.tmps):=Array.mapM_eq_mapM_toList;have h3:(fn.results.mapM (YW a.tmps)).run P w= .ok us.toArray w:=by simp_all
 have Iv:results fn a.tmps=(do let vs <-fn.results.mapM (YW a.tmps);pure (if h:vs.size=1 then vs[0]else .tuple vs)):=by rfl
 rw[Iv];simp only[OH,h3,];refine⟨_,rfl,?_⟩;cases S with
 |nil=>exact .cT _ _ .nil
 |cons x u xs us g2 g3=>
  cases g3 with
  |nil=>exact g2
  |cons y v ys vs g4 g5=>exact .cT _ _ (.cons _ _ _ _ g2 (.cons _ _ _ _ g4 g5))
end
end Go.Vm
/- What the logical machine answers, the model answers. -/
namespace Go.Vm
def Iw(P:Program)(prims:FuncId->Bool)(x:ay)(f:FuncId):Bool:=
 match P.funcs[f]? with
 |some fn=>!(fn.name== "runtime.NumGoroutine")&&Ii x.Sn fn.ntmps&&wz P x.res fn.results.toList&&(match fn.body with|some c=>jV P prims fn.ntmps x.code c|none=>h9)
 |none=>h9
section
variable {P : Program} {W7 : s9} {rec : Task -> O Out} {prims : FuncId -> Bool}
def S4(P:Program)(prims:FuncId->Bool)(W7:s9):Prop:= ∀f x,W7 f=hi (.code x)->Iw P prims x f=YB
theorem mkf: ∀(args:J PV) (i t:Nat),lk t (Eu i args)=if i<=t then(args[t-i]?).getD .undef else .undef
 | [],i,t=>by simp[Eu,lk]
 |v::r,i,t=>by
  simp[Eu,yK];rw[mkf r (i+1) t]
  grind
theorem mkm{im:Im}{loc:Loc}{args:J PV}{us:J Value}(h:gW im loc args us)(n:Nat):ER im loc (Eu 0 args) ((⟨us⟩:Array Value)++Mp n Go.undef):=by
 intro t;rw[mkf];cases ha:args[t]? with
 |none=>exact .undef _
 |some x=>
  obtain⟨v,hv,hr⟩:=h.get t x ha;have:((⟨us⟩:Array Value)++Mp n Go.undef).getD t Go.undef=v:=by have iY:=dE hv;simp[Xc];rw[Array.getElem?_append_left (by simpa using iY)];simp[hv]
  grind
theorem lQ{f:FuncId}{fn:Func}{c:Code}{us:Array Value}{w:World}(hf:P.funcs[f]? =hi fn)(hn:(fn.name== "runtime.NumGoroutine")=h9)(hb:fn.body=hi c):(callFunc f us).run P w= .ok (.enter f us) w:=by unfold callFunc;simp_all
theorem h3'(hE:QZ P W7 rec)(hL:JX P prims rec)(hT:S4 P prims W7)(xK:P.follows .mixedOrders=YB):JS P (step W7 rec):=by
 intro f args aH fz v B7 QS h im loc w us pY FO;simp[step]at h;split at h
 ·rename_i x hF
  have hc:=hT f x hF;unfold Iw at hc;cases hf:P.funcs[f]? with
  |none=>grind
  |some fn=>
   rw[hf]at hc;simp only[NE,YI]at hc;obtain⟨⟨⟨yE,hna⟩,Iv⟩,tF⟩:=hc;cases hb:fn.body with
   |none=>grind
   |some c=>
    rw[hb]at tF;refine .inr ⟨lQ hf yE hb,calls_of_wp hf hb ?_⟩;split at h
    ·rename_i fJ
     have hna:x.Sn<=fn.ntmps:=by simpa using hna
     have aCd:=FO.sG
     let Zu:St:={env:=Eu 0 args,aH,fz,kn:=D5 aH}
     let a0:Act:={tmps:=(⟨us⟩:Array Value)++Mp (fn.ntmps- (⟨us⟩:Array Value).size) Go.undef,defers:=[]}
     have dU:At im loc aH w fn.ntmps Zu a0 w:=by
      refine⟨im,loc,⟨⟨pY,.refl _,.refl _,rfl,.refl _,rfl,Y _,λ_ _ _=>rfl,λ_ _ h=> .inl h,λ_ _ h=> .inl h,λt li k I hs qZ=> .inr ⟨t,li,k,I,hs,qZ,rfl⟩⟩,rfl,Y _,λt li I=>?_⟩,⟨mkm FO _,rfl,?_⟩⟩
      ·obtain⟨k,hk,_⟩:=pY.eK t li I
       exact dE hk
      grind
     have fin: ∀(st:St),(uG st x.res).map (λvs=>Out.func (results1 vs) st.aH st.fz)=hi (.func v B7 QS)-> ∀a' w',At im loc aH w fn.ntmps st a' w'->
      a'.defers=[]/\ ∃u,(results fn a'.tmps).run P w'= .ok u w'/\ ∃v',Ending.returned u= .returned v'/\ ∃fZ bK,B6 im loc aH w v B7 QS fZ bK w' v':=by
      intro st dh a' w' dU
      obtain⟨fZ,bK,hk,MF⟩:=dU.ex;rw[WF]at dh;obtain⟨vs,QM,he⟩:=dh;obtain⟨rfl,rfl,rfl⟩:=he;obtain⟨u,hu,wc⟩:=mks hk.kept.sr MF.env Iv QM;have K:=hk.kept;exact⟨MF.defers,u,hu,u,rfl,fZ,bK,⟨K.kx,K.fA,wc,K.sr,K.os,K.tape,K.output,K.size,K.frame,K.fG,K.uB,K.own⟩⟩
     split at h
     ·rename_i st nP
      exact py hE hL xK x.code c Zu .normal st tF nP a0 w dU _ λa' w' UG=>fin st h a' w' UG
     ·rename_i st nP
      exact py hE hL xK x.code c Zu .ret st tF nP a0 w dU _ λa' w' UG=>fin st h a' w' UG
     cases h
    cases h
 ·rename_i p hF
  obtain⟨fn,c,hf,yE,hb,key⟩:=hE.p7.2 f p hF
  grind[WF,Out.func.injEq]
 cases h
theorem ahS(hT:S4 P prims W7)(Ik:FQ P W7)(xK:P.follows .mixedOrders=YB): ∀n,JS P (run W7 n)/\JX P prims (run W7 n)
 |0=>⟨λf args aH fz v B7 QS h=>by simp[run]at h,λlive x st e rT h=>by simp[run]at h⟩
 |n+1=>by obtain⟨D,S⟩:=ahS hT Ik xK n;have hE:QZ P W7 (run W7 n):=⟨D,Ik⟩;exact⟨h3' hE S hT xK,U64 hE S xK⟩
theorem adi(hT:S4 P prims W7)(Ik:FQ P W7)(xK:P.follows .mixedOrders=YB){n:Nat}{f:FuncId}{args:J PV}{v:PV}{B7:dp}{QS:J Nat}(h:run W7 n (.func f args [] [])=hi (.func v B7 QS))
 {im:Im} {w:World} {us:J Value} (IK: ∀b o,im b=hi o->w.heap[b]? =hi o) (FO:gW im jy args us):
 Calls P f ⟨us⟩ w λe w'=> ∃u,e= .returned u/\(∃fZ bK,VR fZ bK v u/\SR fZ bK B7 QS w')/\w'.os=w.os/\Tape w w'/\w'.output=w.output/\w.heap.size<=w'.heap.size/\ ∀b,b<w.heap.size->w'.heap[b]? =w.heap[b]?:=by
 have key:=(ahS hT Ik xK n).1 f args [] [] v B7 QS h im jy w us (SR.empty IK) FO;rcases key with⟨u,w',D,S⟩|⟨D,S⟩
 ·cases n with
  |zero=>simp[run]at h
  |succ n=>
   have h:step W7 (run W7 n) (.func f args [] [])=hi (.func v B7 QS):=h;simp[step]at h;split at h
   ·rename_i x hF
    have hc:=hT f x hF;unfold Iw at hc;cases hf:P.funcs[f]? with
    |none=>grind
    |some fn=>
     rw[hf]at hc;simp[]at hc
     grind[lQ]
   ·rename_i p hF
    obtain⟨fn,c,hf,yE,hb,key⟩:=Ik.2 f p hF
    grind[lQ]
   cases h
 refine S.mono λe w' ⟨u,he,fZ,bK,hp⟩=>⟨u,he,⟨fZ,bK,hp.vr,hp.sr⟩,hp.os,hp.tape,hp.output,hp.size,λb hb=>hp.frame b hb λt li k I=>by cases I⟩
end
end Go.Vm
/- Functions that are known without their code: math/bits.Add64 and Sub64, slices.Clone. -/
namespace Go.Vm
section
variable {P : Program}
theorem hn'{im:Im}{w:World}{v:PV}{u:Value}(pY:SR im jy [] [] w)(hv:VR im jy v u):B6 im jy [] w v [] [] im jy w u where
 kx:= .refl _
 fA:= .refl _
 vr:=hv
 sr:=pY
 os:=rfl
 tape:= .refl _
 output:=rfl
 size:=Y _
 frame:=λ_ _ _=>rfl
 fG:=λ_ _ h=> .inl h
 uB:=λ_ _ h=> .inl h
 own:=λt li k h=>by cases h
theorem adl{im:Im}{loc:Loc}{k1 k2 k3:IntKind}{a b c:Int}{us:J Value}(h:gW im loc [.int k1 a,.int k2 b,.int k3 c] us):us=[.int k1 a,.int k2 b,.int k3 c]:=by
 cases h with
 |cons _ _ _ _ D h=>
  cases h with
  |cons _ _ _ _ S h=>
   cases h with
   |cons _ _ _ _ h3 h=>cases h;rw[D.jT,S.jT,h3.jT]
theorem up2{f:FuncId}{fn:Func}(hf:P.funcs[f]? =hi fn)(yE:(fn.name== "runtime.NumGoroutine")=h9)(hb:fn.body.isNone=YB)(hn:Extern.findNext fn=h2)(he:Extern.find fn=hi add64Entry):QT P f Hd:=by
 intro args v news hp im w us pY FO;unfold Hd at hp;split at hp
 ·rename_i a b c
  split at hp
  ·rename_i hc
   have hc:c<=1:=by simpa using hc
   obtain⟨rfl,rfl⟩:=hp;obtain rfl:=adl FO;refine .inl ⟨_,w,?_,im,jy,hn' pY (.cT _ [.int .u64 (((a:Int)+b+c)%18446744073709551616),.int .u64 (((a:Int)+b+c) / 18446744073709551616)] (.cons _ _ _ _ ?_ (.cons _ _ _ _ ?_ .nil)))⟩
   ·rw[run_callFunc_extern hf yE hb hn he]
    have:=run_add64 (P:=P) (a:Int) b c (by omega) (by omega) (by omega) (by omega) w;simp_all
   ·have:SL ((a+b+c)%18446744073709551616)=((a:Int)+b+c)%18446744073709551616:=by
     rfl
    rw[this];exact .int _ _
   exact .int _ _
  cases hp
 cases hp
def xcA(aT:Nat):pg:= .region h2 [⟨hi 2,.SP (.c (.sl aT YB [])),h2⟩] [0]
def xcN(aT:Nat):pg:= .seq (.region h2 [⟨hi 2,.SP (.c (.sl aT YB [])),h2⟩] [2]) .ret
def I'(aT:Nat)(zero:Row):pg:= .seq (.region h2 [⟨hi 5,.Ia aT 0 zero [],h2⟩,⟨hi 6,.SP (.t 0),h2⟩,⟨hi 7,.append aT (.t 5) (.t 6),h2⟩,⟨hi 2,.SP (.t 7),h2⟩] [2]) .ret
def abh(P:Program)(o:Oper):Bool:=
 o.guard.isNone&&o.dst==hi 4&&(match o.op with
  | .binOp .eql t x (.const (.slice h2 0 0)) _=>bT (.t 3) x&&zt P t
  |_=>h9)
def Ent(P:Program)(aT:Nat)(zero:Row)(f:FuncId):Bool:=
 match P.funcs[f]? with
 |some fn=>!(fn.name== "runtime.NumGoroutine")&&QK 7 fn.ntmps&&wz P [.tmp 2] fn.results.toList&&(match fn.body with
  |some (.seq a (.seq (.seq (.region _ ops h9) (.cond c n .skip)) r))=>
   jV P (λ_=>YB) fn.ntmps (xcA aT) a&&jV P (λ_=>YB) fn.ntmps (xcN aT) n&&jV P (λ_=>YB) fn.ntmps (I' aT zero) r&&bT (.t 4) c&&
    (match ops.toList with
    | [o1,o2]=>AD P (λ_=>YB) fn.ntmps ops ⟨hi 3,.SP (.t 0),h2⟩ o1&&abh P o2
    |_=>h9)
  |_=>h9)
 |none=>h9
theorem ZY:QZ P (λ_=>h2) (λ_=>h2):=⟨(λ_ _args _sto _fz _v _sto' _fz' h=>by cases h),⟨(λ_ _k _p h=>by cases h),(λ_ _p h=>by cases h)⟩⟩
theorem Xo{prims:FuncId->Bool}:JX P prims (λ_=>h2):=λ_ _x _st _e _st' h=>by cases h
theorem sI(xK:P.follows .mixedOrders=YB){aT:Nat}{zero:Row}{f:FuncId}(hc:Ent P aT zero f=YB):QT P f (iK aT):=by
 intro args v news hp im w us pY FO;unfold Ent at hc;cases hf:P.funcs[f]? with
 |none=>grind
 |some fn=>
  rw[hf]at hc;simp only[NE,YI]at hc;obtain⟨⟨⟨yE,NA⟩,Iv⟩,tF⟩:=hc;have NA:7<fn.ntmps:=by simpa using NA
  split at tF
  ·rename_i b12 id ops cc cn unE hb
   simp only[NE]at tF;obtain⟨⟨⟨⟨hA,hN⟩,hC⟩,W8⟩,YS⟩:=tF;split at YS
   ·rename_i o1 o2 I
    simp only[NE]at YS;obtain⟨Yj,Ow⟩:=YS;have asM: ∃e c rows,args=[.sl e c rows]:=by
     unfold iK at hp
     grind
    obtain⟨e,cl,rows,rfl⟩:=asM;obtain⟨u,rfl⟩: ∃u,us=[u]:=by
     cases FO with
     |cons _ u _ us D S=>cases S;simp
    refine .inr ⟨lQ hf yE hb,calls_of_wp hf hb ?_⟩
    let Zu:St:={env:=[(0,.sl e cl rows)],aH:=[],fz:=[],kn:=0}
    let a0:Act:={tmps:=(⟨[u]⟩:Array Value)++Mp (fn.ntmps- (⟨[u]⟩:Array Value).size) Go.undef,defers:=[]}
    have asN:At im jy [] w fn.ntmps Zu a0 w:=by
     refine⟨im,jy,⟨⟨pY,.refl _,.refl _,rfl,.refl _,rfl,Y _,λ_ _ _=>rfl,λ_ _ h=> .inl h,λ_ _ h=> .inl h,λt li k I=>by cases I⟩,rfl,Y _,λt li I=>by cases I⟩,⟨mkm FO _,rfl,?_⟩⟩
     grind
    have fin: ∀(st:St) (v':PV),lk 2 st.env=v'-> ∀a' w',At im jy [] w fn.ntmps st a' w'->
     a'.defers=[]/\ ∃u,(results fn a'.tmps).run P w'= .ok u w'/\ ∃re:Value,Ending.returned u= .returned re/\ ∃fZ bK,B6 im jy [] w v' st.aH st.fz fZ bK w' re:=by
     intro st v' hv' a' w' dU
     obtain⟨fZ,bK,hk,MF⟩:=dU.ex;obtain⟨u,hu,wc⟩:=mks (P:=P) (fn:=fn) hk.kept.sr MF.env Iv (vs:=[v']) (by simp[uG,Mc,hv']);have K:=hk.kept;exact⟨MF.defers,u,hu,u,rfl,fZ,bK,⟨K.kx,K.fA,wc,K.sr,K.os,K.tape,K.output,K.size,K.frame,K.fG,K.uB,K.own⟩⟩
    refine wp_seq ?_;refine py ZY Xo xK (xcA aT) _ Zu .normal {env:=[(0,.sl e cl rows)],aH:=[],fz:=[],kn:=0} hA rfl a0 w asN _ λa1 w1 asO=>?_
    refine wp_seq (wp_seq ?_);refine wp_region ?_;have ank:ops= #[o1,o2]:=Vg (by simpa using I);subst ank;obtain⟨OF,eQ,lL,S7⟩:=asO.ex;have Q2:=S7.env 0;have Q2:VR OF eQ (.sl e cl rows) (a1.tmps.getD 0 Go.undef):=Q2;obtain⟨ad,cap,S',OJ,tE,qg⟩:=Q2.uI;unfold AD at Yj;simp only[NE,beq_iff_eq]at Yj;obtain⟨⟨⟨Lg,_⟩,QU⟩,I0⟩:=Yj;have asP:o1.guard=h2:=by
     cases hg:o1.guard with
     |none=>rfl
     |some q=>rw[hg]at QU;simp[B8]at QU
    have anl: ∃x,(o1.op= .move x\/o1.op= .assign x)/\bT (.t 0) x=YB:=by cases ho:o1.op<;>rw[ho]at I0<;>simp only[D6]at I0<;>first|exact⟨_,.inl rfl,I0⟩|exact⟨_,.inr rfl,I0⟩|simp at I0
    obtain⟨x1,Pq,WS⟩:=anl;have asQ:a1.eval x1= .slice ad (D5 rows) cap:=by
     have h:=Vn (a:=a1) (e:=[(0,PV.sl e cl rows)]) (.t 0) (λt ht=>by injection ht with ht;subst ht;exact S7.env 0) x1 WS;cases x1 with
     |tmp t=>
      have:(0:Nat)=t:=by simpa[bT]using WS
      subst this;simpa[Act.eval]using S'
     |_=>simp[bT]at WS
    have anm:(execOp a1.eval o1).run P w1= .ok (.value (.slice ad (D5 rows) cap)) w1:=by rcases Pq with h|h<;>simp[execOp,h,asQ]
    unfold abh at Ow;simp only[NE,beq_iff_eq,Option.isNone_iff_eq_none]at Ow;obtain⟨⟨V9,NC⟩,Lh⟩:=Ow;split at Lh
    case h_2=>cases Lh
    rename_i ty x2 ub ano;simp only[NE]at Lh;obtain⟨Vp,dh⟩:=Lh;have asR:x2= .tmp 3:=by
     cases x2 with
     |tmp t=>
      have:(3:Nat)=t:=by simpa[bT]using Vp
      subst this;rfl
     |_=>simp[bT]at Vp
    subst asR;unfold zt at dh;split at dh
    case h_2=>cases dh
    rename_i el vV;have asS:a1.tmps.size=fn.ntmps:=S7.U3
    let a2:Act:=a1.put (hi 3) (.slice ad (D5 rows) cap)
    have UY:a2.tmps.getD 3 Go.undef= .slice ad (D5 rows) cap:=by simp only[a2,Act.put,Xc];rw[SI (by omega)];rfl
    have anp:(execOp a2.eval o2).run P w1= .ok (.value (.bool ad.isNone)) w1:=by
     simp only[execOp,ano];refine mG ?_;have e3:a2.eval (.tmp 3)= .slice ad (D5 rows) cap:=by simpa[Act.eval]using UY
     rw[e3];have hg:(eqGuard .eql ty (.tmp 3) (.const (.slice h2 0 0)) (.slice ad (D5 rows) cap) (a2.eval (.const (.slice h2 0 0)))).run P w1= .ok () w1:=by unfold eqGuard;simp
     simp only[OH,hg,Result.andThen_ok];exact Lib.run_eql_slice_nil w1 ty el ad (D5 rows) cap 0 0 vV
    let a3:Act:=a2.put (hi 4) (.bool ad.isNone)
    have WT:At im jy [] w fn.ntmps {env:=[(0,.sl e cl rows)],aH:=[],fz:=[],kn:=0} a3 w1:=by
     refine⟨OF,eQ,lL,⟨λt=>?_,S7.defers,by simp[a3,a2,Act.put,asS]⟩⟩;have h:=S7.env t;simp only[yK]at h ⊢
     by_cases ht:t=0
     ·subst ht
      simp only[if_true]at h ⊢;simpa[a3,a2,Act.put,Array.getElem?_setIfInBounds]using h
     rw[EQ (λe=>ht e.symm)];exact .undef _
    have Sz:a3.eval cc= .bool ad.isNone:=by
     cases cc with
     |tmp t=>
      have:(4:Nat)=t:=by simpa[bT]using W8
      subst this;simp only[Act.eval,a3,Act.put,Xc];rw[SI (by simp[a2,Act.put];omega)];rfl
     |_=>simp[bT]at W8
    have ajs:List.range #[o1,o2].size=[0,1]:=rfl;rw[ajs];simp only[wpOps];have e0:(#[o1,o2]:Array Oper)[0]? =hi o1:=rfl;have e1:(#[o1,o2]:Array Oper)[1]? =hi o2:=rfl;rw[e0];dsimp only;have Nn:Region.wanted o1 (yielded #[o1,o2] a1.tmps)=YB:=by unfold Region.wanted;rw[asP]
    rw[Nn,Do rfl];refine .inl ?_;unfold Oper.wp;rw[anm,Oper.upon_value,<-Lg,e1];dsimp only;have Y7:Region.wanted o2 (yielded #[o1,o2] (a1.put (hi 3) (.slice ad (D5 rows) cap)).tmps)=YB:=by unfold Region.wanted;rw[V9]
    rw[Y7,Do rfl];refine .inl ?_;rw[show a1.put (hi 3) (.slice ad (D5 rows) cap)=a2 from rfl,anp,Oper.upon_value,NC];show(Code.cond cc cn .skip).wp P _ a3 w1;cases Nq:ad with
    |none=>
     have QN:rows=[]:=by
      rcases rows with _|⟨r,rs⟩
      ·rfl
      obtain⟨b,o,h,_⟩:=qg (by simp)
      rw[Nq]at h;cases h
     subst QN;simp only[iK,Sw,Mi]at hp;obtain⟨rfl,rfl⟩:=hp;refine wp_cond_true (by rw[Sz,Nq];rfl) ?_;refine py ZY Xo xK (xcN aT) _ _ .ret {env:=[(2,.sl aT YB [])],aH:=[],fz:=[],kn:=0} hN rfl a3 w1 WT _ λa4 w4 XW=>?_
     obtain⟨Jv,u',KQ,re,asT,fZ,bK,YV⟩:=fin _ _ rfl a4 w4 XW;refine⟨Jv,u',KQ,re,asT,fZ,bK.set 1 ⟨0,0,aT,0,0⟩,?_⟩;have Xp: ∀t,bK t=h2:=λt=>by
      cases I:bK t with
      |none=>rfl
      |some li=>obtain⟨k,hk,_⟩:=YV.sr.eK t li I;simp at hk
     obtain⟨ad',eL,hv3,_,asU,_⟩:=YV.vr.uI;have OR:eL=0:=by simpa using asU rfl
     subst OR;exact {
      kx:=YV.kx,fA:=λt li h=>by cases h
      vr:=by rw[hv3];exact .own 1 aT 0 0 0 h9 ⟨0,0,aT,0,0⟩ ad' 0 (Loc.ij _ _ _) rfl (Y _) (Y _) (Y _) (λh=>by cases h) (.inl rfl)
      sr:={
       bZ:=YV.sr.bZ
       eK:=λt li h=>by
        unfold Loc.set at h;split at h
        ·rename_i ht;subst ht;injection h with h;subst h
         exact⟨_,rfl,rfl,rfl,λh=>absurd rfl h⟩
        rw[Xp t]at h;cases h
       mE:=λt u li lj k k' h h' hs Eh LL=>by
        unfold Loc.set at h;split at h
        ·rename_i ht;subst ht;simp at hs;subst hs;cases LL
        rw[Xp t]at h;cases h
       free:=λt li k h hs LL=>by
        unfold Loc.set at h;split at h
        ·rename_i ht;subst ht;simp at hs;subst hs;cases LL
        rw[Xp t]at h;cases h}
      os:=YV.os,tape:=YV.tape,output:=YV.output,size:=YV.size,frame:=YV.frame,fG:=YV.fG
      uB:=λt li h=> .inr (EE _)
      own:=λt li k h hs LL=>by
       unfold Loc.set at h;split at h
       ·rename_i ht;subst ht;simp at hs;subst hs;cases LL
       rw[Xp t]at h;cases h}
    |some ad'=>
     refine wp_cond_false (by rw[Sz,Nq];rfl) (wp_skip ?_);rcases rows with _|⟨r,rs⟩
     ·simp only[iK,Sw,Mi]at hp
      obtain⟨rfl,rfl⟩:=hp;exact py ZY Xo xK (I' aT zero) _ _ .ret {env:=[(2,.own 1 aT 0 0 0 h9)],aH:=[.arr aT [],.arr aT []],fz:=[],kn:=0} hC rfl a3 w1 WT _ λa4 w4 XW=>fin _ _ rfl a4 w4 XW
     simp only[iK]at hp
     split at hp
     case isFalse=>cases hp
     rename_i Xg;simp only[NE,g',SM]at Xg;obtain⟨rfl,mP⟩:=Xg;simp only[Sw,Mi]at hp;obtain⟨rfl,rfl⟩:=hp;have UH:mN [.arr e []] [] e (.own 0 e 0 0 0 YB) (.sl e cl (r::rs))=hi {v:= .own 1 e 0 (0+(D5 rs+1)) (0+(D5 rs+1)) h9,news:=[.arr e (r::rs)],rd:=[0]}:=by
      have D:If e e=YB:=by simp
      have S:Ii (D5 rs+1) 0=h9:=rfl;have h3:Ii (0+(D5 rs+1)) gX=YB:=by simpa using mP
      simp only[mN,rowsOf,D,if_true];simp[S,mP,nK]
     refine py ZY Xo xK (I' e zero) _ _ .ret {env:=[(2,.own 1 e 0 (0+(D5 rs+1)) (0+(D5 rs+1)) h9)],aH:=[.arr e [],.arr e (r::rs)],fz:=[],kn:=0} hC ?_ a3 w1 WT _ λa4 w4 XW=>fin _ _ rfl a4 w4 XW
     simp only[I',BY,qf,wb,wanted,FJ,cd,jd.ev,lk];simp[xF,XR.ok,CP,XR.next,oU,BW,mO,lk,UH]
   cases YS
  cases tF
end
end Go.Vm
/- slices.Insert of one row: what it leaves of the memory. -/
namespace Go.Vm
section
variable {P : Program} {im fZ : Im} {loc bK : Loc} {aH : dp} {fz : J Nat} {w w' : World}
theorem xf (w:World) (dT sT ty el:TypeId) (aT g o O7 asW:Nat) (a:Addr) (B3 sCap:Nat) (cur:Array Value) (t:TypeId) (cs:J Value)
 (hu:P.underlying dT=hi (.slice el)) (hs:(P.info? el).map (·.size)=hi aT)
 (hg:w.heap[g]? =hi (.cells cur t (0,0))) (hn:Nat.min B3 O7*aT=D5 cs)
 (asX: ∀j v,cs[j]? =hi v->w.cell? (a.add j)=hi v) (yM:o+D5 cs<=cur.size) (D: ∀v∈cs,v.oneCell'=YB):
 (Builtin.copy_ #[dT,sT] ty #[.slice (hi ⟨g,o,h2⟩) O7 asW,.slice (hi a) B3 sCap]).run P w=
  .ok (goInt (Nat.min B3 O7)) (w.setRow g (uA o cs cur.toList).toArray):=by
 have I:=run_loadCells_list (P:=P) w a cs asX;have dh:=run_storeCells_at P g o t cs 0 cur w hg (by simpa using yM) D;cases hq:P.info? el with
 |none=>simp [hq] at hs
 |some i=>
  have N:i.size=aT:=by grind
  simp [Builtin.copy_,run_underlying hu,Builtin.lenOf,Builtin.firstCells,sizeOf,typeInfo,hq,N,hn,I,dh,uA]
theorem BR.iH{li:LI}{k:pT}(h:BR im loc w li k)(N:uH im fZ)(I:rD loc bK)(hw:k.cu=YB->w'.heap[li.eK]? =w.heap[li.eK]?):BR fZ bK w' li k:=by
 cases hs:k.cu with
 |true=>exact h.mono N I (hw hs)
 |false=>
  cases k with
  |arr e rows=>
   cases rows with
   |nil=>exact⟨h.1,h.2.1,λfk=>absurd rfl fk⟩
   |cons r rs=>cases hs
  |box cs=>cases hs
  |map es=>cases hs
  |dead=>trivial
theorem FX{r:v7}{t:Nat}{u:Value}(pY:SR im loc aH fz w)(he:Aw im loc aH w r fZ bK w')(Bm:r.fr=[])(hw:r.wr=[(t,.dead)])(ht:t<D5 aH)(hv:VR fZ bK r.v u):
 B6 im loc aH w r.v (aH.set t .dead++r.news) fz fZ bK w' u:=by
 have fJ:(aH.set t .dead).length=(D5 aH):=by simp
 have old: ∀t' li,loc t'=hi li->t'<(D5 aH):=λt' li h=>by
  obtain⟨k,hk,_⟩:=pY.eK t' li h
  grind
 have Y0: ∀t' li k,loc t'=hi li->(aH.set t .dead++r.news)[t']? =hi k->k.cu=YB->t'≠t/\aH[t']? =hi k:=by
  intro t' li k h hk hs;have iY:=old t' li h;rw[PP (by omega),SK]at hk;split at hk
  ·first|(injection hk with hk;subst hk;cases hs)|(split at hk<;>first|(injection hk with hk;subst hk;cases hs)|cases hk)
  grind
 have Y1: ∀t' k,D5 aH<=t'->(aH.set t .dead++r.news)[t']? =hi k->r.news[t'-(D5 aH)]? =hi k:=by
  grind
 have Pr: ∀t' li,bK t'=hi li->loc t'=hi li\/(D5 aH<=t'/\t'=D5 aH+(t'-(D5 aH))):=by
  intro t' li h;rcases he.pU t' li h with h|⟨h,_⟩
  ·exact .inl h
  omega
 have imn: ∀b o,fZ b=hi o->im b=hi o\/w.heap.size<=b:=by
  intro b o h;rcases he.fG b o h with h|h|⟨t0,li,k,h,_⟩
  ·exact .inl h
  ·exact .inr h
  rw[Bm]at h;cases h
 have anq: ∀t' li k,loc t'=hi li->aH[t']? =hi k->t'≠t->k.cu=YB->BR im loc w li k->w'.heap[li.eK]? =w.heap[li.eK]?:=by
  intro t' li k I hk fk hs hb;refine he.frame li.eK (hb.lt hs) λt0 k1 l0 k0 hm UZ hk0 Se e=>?_
  rw[hw]at hm;obtain⟨rfl,rfl⟩:=by simpa using hm
  exact fk (pY.mE _ _ _ _ _ _ I UZ hk hk0 hs Se e.symm)
 have Ja: ∀t' li k,bK t'=hi li->D5 aH<=t'->r.news[t'-(D5 aH)]? =hi k->BR fZ bK w' li k/\
  (k.cu=YB->fZ li.eK=h2/\(w.heap.size<=li.eK\/ ∃lt k0,loc t=hi lt/\aH[t]? =hi k0/\k0.cu=YB/\lt.eK=li.eK)):=by
  intro t' li k I rJ hk;obtain⟨D,S⟩:=he.news (t'-(D5 aH)) k li hk (by rw[show(D5 aH)+(t'-(D5 aH))=t' by omega];exact I)
  grind
 have apart: ∀t1 u1 li lj k k',loc t1=hi li->t1≠t->aH[t1]? =hi k->k.cu=YB->bK u1=hi lj->D5 aH<=u1->r.news[u1-(D5 aH)]? =hi k'->k'.cu=YB->li.eK≠lj.eK:=by
  intro t1 u1 li lj k k' I fk hk hs sH rJ OS Eh e;obtain⟨k2,KP,hb⟩:=pY.eK t1 li I;rw[hk]at KP;injection KP with KP;subst KP;rcases((Ja u1 lj k' sH rJ OS).2 Eh).2 with h|⟨lt,k0,a,b,c,d⟩
  ·have:=hb.lt hs;omega
  exact fk (pY.mE _ _ _ _ _ _ I a hk b hs c (by rw[e,d]))
 exact {
  kx:=he.kx,fA:=he.fA,vr:=hv
  sr:={
   bZ:=he.bZ
   eK:=λt' li h=>by
    rcases Pr t' li h with ho|⟨rJ,_⟩
    ·obtain⟨k,hk,hb⟩:=pY.eK t' li ho
     have iY:=old t' li ho
     by_cases e:t'=t
     ·subst e
      exact⟨.dead,by rw[PP (by omega),List.getElem?_set_self (by omega)],trivial⟩
     refine⟨k,by rw[PP (by omega),List.getElem?_set_ne (λx=>e x.symm)];exact hk,hb.iH he.kx he.fA λhs=>anq t' li k ho hk e hs hb⟩
    have hn:t'-(D5 aH)<(D5 r.news):=by
     rcases he.pU t' li h with ho|⟨_,S⟩
     ·have:=old t' li ho;omega
     omega
    obtain⟨hb,_⟩:=Ja t' li _ h rJ (IR hn);exact⟨_,by rw[Pc (by omega),fJ];exact IR hn,hb⟩
   mE:=λt1 u1 li lj k k' I sH hk OS hs Eh e=>by
    rcases Pr t1 li I with D|⟨D,_⟩<;>rcases Pr u1 lj sH with S|⟨S,_⟩
    ·obtain⟨n1,e1⟩:=Y0 _ _ _ D hk hs
     obtain⟨n2,e2⟩:=Y0 _ _ _ S OS Eh;exact pY.mE _ _ _ _ _ _ D S e1 e2 hs Eh e
    ·obtain⟨n1,e1⟩:=Y0 _ _ _ D hk hs
     exact absurd e (apart _ _ _ _ _ _ D n1 e1 hs sH S (Y1 _ _ S OS) Eh)
    ·obtain⟨n2,e2⟩:=Y0 _ _ _ S OS Eh
     exact absurd e.symm (apart _ _ _ _ _ _ S n2 e2 Eh I D (Y1 _ _ D hk) hs)
    have:=he.distinct (t1-(D5 aH)) (u1-(D5 aH)) k k' li lj (Y1 _ _ D hk) (Y1 _ _ S OS) hs Eh (by rw[show(D5 aH)+(t1-(D5 aH))=t1 by omega];exact I) (by rw[show(D5 aH)+(u1-(D5 aH))=u1 by omega];exact sH) e
    omega
   free:=λt' li k I hk hs hz=>by
    rcases Pr t' li I with D|⟨D,_⟩
    ·obtain⟨n1,e1⟩:=Y0 _ _ _ D hk hs
     obtain⟨k2,KP,hb⟩:=pY.eK t' li D;rw[e1]at KP;injection KP with KP;subst KP;have h0:=pY.free t' li k D e1 hs hz;cases N:fZ li.eK with
     |none=>rfl
     |some o=>
      rcases imn _ _ N with h|h
      ·rw[h0]at h;cases h
      have:=hb.lt hs;omega
    exact((Ja t' li k I D (Y1 _ _ D hk)).2 hs).1}
  os:=he.os,tape:=he.tape,output:=he.output,size:=he.size
  frame:=λb hb h=>he.frame b hb λt0 k li k0 hm I hk hs=>h t0 li k0 I hk hs
  fG:=λb o h=>by
   rcases imn b o h with h|h
   ·exact .inl h
   exact .inr (.inl h)
  uB:=λt' li h=>by
   rcases Pr t' li h with h|⟨h,_⟩
   ·exact .inl h
   exact .inr h
  own:=λt' li k I hk hs=>by
   rcases Pr t' li I with D|⟨D,_⟩
   ·obtain⟨n1,e1⟩:=Y0 _ _ _ D hk hs
    exact .inr ⟨t',li,k,D,e1,hs,rfl⟩
   rcases((Ja t' li k I D (Y1 _ _ D hk)).2 hs).2 with h|⟨lt,k0,a,b,c,d⟩
   ·exact .inl h
   exact .inr ⟨t,lt,k0,a,b,c,d⟩}
theorem SR.mmE(h:SR im loc aH fz w):loc (D5 aH)=h2:=by
 cases I:loc (D5 aH)with
 |none=>rfl
 |some li=>obtain⟨k,hk,_⟩:=h.eK _ _ I;simp at hk
theorem e10{t e:Nat}{li:LI}{rows L:J Row}{arr fin:Array Value}{el:TypeId}(pY:SR im loc aH fz w)(I:loc t=hi li)(dh:aH[t]? =hi (.arr e rows))(fk:rows≠[])(hf:has fz t=h9)
 (ha:w.heap[li.eK]? =hi (.cells arr el (0,0))) (hh:w'.heap=w.heap.setIfInBounds li.eK (.cells fin el (0,0))) (ho:w'.os=w.os) (ht:Tape w w') (hp:w'.output=w.output)
 (yB:fin.size=li.sz) (yM:li.sh+D5 L*e<=li.sz) (hr:cw (λk=>fin[k]?) li.sh e L):
 Aw im loc aH w {v:= .own (D5 aH) e 0 (D5 L) (D5 L) h9,news:=[.arr e L],wr:=[(t,.dead)]} im (loc.set (D5 aH) ⟨li.eK,li.sh,e,D5 L,li.sz⟩) w':=by
 have JO:(pT.arr e rows).cu=YB:=tC fk;have Mk:=pY.free t li _ I dh JO hf;have O4:=pY.mmE;exact {
  kx:= .refl _,fA:=Loc.Ey _ O4
  bZ:=λb o hb=>by
   have D:=pY.bZ b o hb
   grind
  fG:=λ_ _ h=> .inl h,os:=ho,tape:=ht,output:=hp
  size:=by rw[hh];simp
  YA:=λt' k hm hs=>by
   grind
  frame:=λb _ hb=>by simp_all
  wr:=λt' k li hm sH=>by
   obtain⟨rfl,rfl⟩:=by simpa using hm
   trivial
  pU:=λt' l h=>by
   unfold Loc.set at h
   grind
  news:=JJ λj k hj=>by
   cases j with
   |zero=>simp at hj;subst hj;refine⟨_,Loc.ij _ _ _,⟨rfl,rfl,λ_=>⟨fin,el,by grind,yB,yM,hr⟩⟩,λ_=>⟨Mk,.inr ⟨t,li,_,Su.2 rfl,I,dh,JO,rfl⟩⟩⟩
   |succ j=>simp at hj
  distinct:=λi j ki kj li lj D S _ _ _ _ _=>by
   grind}
theorem aeO{t e:Nat}{L:J Row}{fin:Array Value}{el:TypeId}(pY:SR im loc aH fz w)
 (hh:w'.heap=w.heap.push (.cells fin el (0,0))) (ho:w'.os=w.os) (ht:Tape w w') (hp:w'.output=w.output)
 (yM:(D5 L)*e<=fin.size) (hr:cw (λk=>fin[k]?) 0 e L):
 Aw im loc aH w {v:= .own (D5 aH) e 0 (D5 L) (D5 L) h9,news:=[.arr e L],wr:=[(t,.dead)]} im (loc.set (D5 aH) ⟨w.heap.size,0,e,D5 L,fin.size⟩) w':=by
 have O4:=pY.mmE;have old: ∀b,b<w.heap.size->w'.heap[b]? =w.heap[b]?:=λb hb=>by grind
 have iY:=λb o h=>(SH.1 (pY.bZ b o h)).1
 exact {
  kx:= .refl _,fA:=Loc.Ey _ O4
  bZ:=λb o hb=>by rw[old b (iY b o hb)];exact pY.bZ b o hb
  fG:=λ_ _ h=> .inl h,os:=ho,tape:=ht,output:=hp
  size:=by rw[hh];simp
  YA:=λt' k hm hs=>by
   obtain⟨rfl,rfl⟩:=by simpa using hm
   cases hs
  frame:=λb hb _=>old b hb
  wr:=λt' k li hm sH=>by
   obtain⟨rfl,rfl⟩:=by simpa using hm
   trivial
  pU:=λt' l h=>by
   unfold Loc.set at h
   grind
  news:=JJ λj k hj=>by
   cases j with
   |zero=>
    simp at hj;subst hj;refine⟨_,Loc.ij _ _ _,⟨rfl,rfl,λ_=>⟨fin,el,by rw[hh];simp,rfl,by simpa using yM,hr⟩⟩,λ_=>⟨?_,.inl (Y _)⟩⟩;cases N:im w.heap.size with
    |none=>rfl
    |some o=>grind
   |succ j=>simp at hj
  distinct:=λi j ki kj li lj D S _ _ _ _ _=>by
   grind}
theorem Ext{aT:Nat}: ∀{rows:J Row} (_: ∀r∈rows,D5 r=aT) (i:Nat),(rows.take i).flatMap bw=(rows.flatMap bw).take (i*aT)
 | [],_,i=>by simp
 |r::rs,h,0=>by simp
 |r::rs,h,i+1=>by
  have hr:(bw r).length=aT:=by grind[qh]
  have e1:(bw r).take ((i+1)*aT)=bw r:=YH (by grind);rw[List.take_succ_cons,Mg,Ext (λx X=>h x (by simp[X])) i,Mg,List.take_append,e1,hr,show(i+1)*aT-aT=i*aT by grind]
theorem iha{aT:Nat}: ∀{rows:J Row} (_: ∀r∈rows,D5 r=aT) (i:Nat),(rows.drop i).flatMap bw=(rows.flatMap bw).drop (i*aT)
 | [],_,i=>by simp
 |r::rs,h,0=>by simp
 |r::rs,h,i+1=>by
  have hr:(bw r).length=aT:=by grind[qh]
  have e1:(bw r).drop ((i+1)*aT)=[]:=al (by grind);rw[List.drop_succ_cons,iha (λx X=>h x (by simp[X])) i,Mg,List.drop_append,e1,hr,show(i+1)*aT-aT=i*aT by grind,List.nil_append]
theorem afe{α:Type}{o k:Nat}{cs vs l:J α}(I:o+(D5 cs+D5 vs)<=D5 l)(hk:k<=D5 cs)(yL: ∀j v,j<k->cs[j]? =hi v->l[o+j]? =hi v):
 ∀j v,(cs.take k++vs++cs.drop k)[j]? =hi v->(uA (o+k) vs (uA (o+k+D5 vs) (cs.drop k) l))[o+j]? =hi v:=by
 intro j v h;have hd:(cs.drop k).length=D5 cs-k:=List.length_drop;have ht:(cs.take k).length=k:=by grind
 have l1:o+k+D5 vs+(cs.drop k).length<=(D5 l):=by rw[hd];omega
 rw[kX _ _ _ (by grind[dV])];rcases KJ j k with D|D
 ·rw[EQ (by omega),kX _ _ _ l1,EQ (by omega)]
  grind
 rw[Ml,Pc (by omega),ht]at h
 rcases KJ (j-k) (D5 vs)with S|S
 ·grind
 rw[Pc S]at h
 have:=(Md.1 h).1;rw[EQ (by omega),kX _ _ _ l1,Do ⟨by omega,by omega⟩,<-h]
 congr 1;omega
theorem abk{α:Type}{k:Nat}{cs vs l:J α}(I:(D5 cs)+D5 vs<=D5 l)(hk:k<=D5 cs)(yL: ∀(j:Nat) (v:α),j<k->cs[j]? =hi v->l[j]? =hi v):
 ∀(j:Nat) (v:α),(cs.take k++vs++cs.drop k)[j]? =hi v->(uA (k+D5 vs) (cs.drop k) (uA k vs l))[j]? =hi v:=by
 intro j v h;have ht:(cs.take k).length=k:=by grind
 have l1:k+D5 vs<=(D5 l):=by omega
 rw[kX _ _ _ (by grind[dV])];rcases KJ j k with D|D
 ·rw[EQ (by omega),kX _ _ _ l1,EQ (by omega)]
  grind
 rw[Ml,Pc (by omega),ht]at h
 rcases KJ _ (D5 vs)with S|S
 ·rw[PP S]at h
  rw[EQ (by omega),kX _ _ _ l1,Do ⟨by omega,by omega⟩,<-h]
 grind
theorem SR.kne(h:SR im loc aH fz w){t:Nat}(hf:has fz t=h9){r:v7}(hw:r.wr=[(t,.dead)]):nM im loc aH w r where
 bZ:=h.bZ
 tok:=λt _ li I=>h.eK t li I
 free:=λt' k hm li k' I hk hs=>by
  obtain rfl:t'=t:=by grind
  exact h.free t' li k' I hk hs hf
 fresh:=λj hj=>by
  cases I:loc _ with
  |none=>rfl
  |some li=>obtain⟨k,hk,_⟩:=h.eK _ _ I;grind
 mE:=λt u li lj k k' _ _=>h.mE t u li lj k k'
structure ihb(P:Program)(f:FuncId)(e:Nat)(tS:TypeId):Prop where
 ends: ∀(uM:Option Addr) (n c vb vZ vc:Nat) (w w':World) (v':Value),n<=c->(Builtin.append_ #[tS,tS] tS #[.slice uM n c,.slice (hi ⟨vb,vZ,h2⟩) 1 vc]).run P w= .ok v' w'->
  Calls P f #[.slice uM n c,.int .i64 n,.slice (hi ⟨vb,vZ,h2⟩) 1 vc] w λe W=>e= .returned v'/\W=w'
 room: ∀(b off n c i vb vZ vc:Nat) (cs vs:List Value) (arr av:Array Value) (el ev:TypeId) (w:World),i<n->n+1<=c->n<=1048576->vb≠b->w.heap[b]? =hi (.cells arr el (0,0))->w.heap[vb]? =hi (.cells av ev (0,0))->
  off+(n+1)*e<=arr.size->D5 cs=n*e->D5 vs=e->(∀(j:Nat) (v:Value),cs[j]? =hi v->arr[off+j]? =hi v)->(∀(j:Nat) (v:Value),vs[j]? =hi v->av[vZ+j]? =hi v)->(∀v∈cs,v.oneCell'=YB)->(∀v∈vs,v.oneCell'=YB)->
  ∃fin:List Value,D5 fin=arr.size/\(∀(j:Nat) (v:Value),(cs.take (i*e)++vs++cs.drop (i*e))[j]? =hi v->fin[off+j]? =hi v)/\
  Calls P f #[.slice (hi ⟨b,off,h2⟩) n c,.int .i64 i,.slice (hi ⟨vb,vZ,h2⟩) 1 vc] w λx w'=>
   x= .returned (.slice (hi ⟨b,off,h2⟩) (n+1) c)/\w'.heap=w.heap.setIfInBounds b (.cells fin.toArray el (0,0))/\w'.os=w.os/\Tape w w'/\w'.output=w.output
 full: ∀(b off n i vb vZ vc:Nat) (cs vs:List Value) (w:World),i<n->n<=1048576->D5 cs=n*e->D5 vs=e->
  (∀(j:Nat) (v:Value),cs[j]? =hi v->w.cell? ⟨b,off+j,h2⟩=hi v)->(∀(j:Nat) (v:Value),vs[j]? =hi v->w.cell? ⟨vb,vZ+j,h2⟩=hi v)->(∀v∈cs,v.oneCell'=YB)->(∀v∈vs,v.oneCell'=YB)->
  ∃(G:Nat) (fin:List Value) (el:TypeId),n+1<=G/\D5 fin=G*e/\(∀(j:Nat) (v:Value),(cs.take (i*e)++vs++cs.drop (i*e))[j]? =hi v->fin[j]? =hi v)/\
  Calls P f #[.slice (hi ⟨b,off,h2⟩) n n,.int .i64 i,.slice (hi ⟨vb,vZ,h2⟩) 1 vc] w λx w'=>
   x= .returned (.slice (hi ⟨w.heap.size,0,h2⟩) (n+1) G)/\w'.heap=w.heap.push (.cells fin.toArray el (0,0))/\w'.os=w.os/\Tape w w'/\w'.output=w.output
theorem Ij.ins{f:FuncId}{e:Nat}{tS hq':TypeId}{fn:Func}{c:Code}{i0:TypeInfo}{z:Value}(hf:P.funcs[f]? =hi fn)(yE:(fn.name== "runtime.NumGoroutine")=h9)(hb:fn.body=hi c)
 (ht:P.underlying tS=hi (.slice hq')) (N:P.info? hq'=hi i0) (yB:i0.size=e) (hz:i0.zero=hi z) (SC:z.cells.size=e) (YE:i0.bytes<=1048576) (he0:0<e) (H:ihb P f e tS):Ij P f (QC e):=by
 refine⟨fn,c,hf,yE,hb,?_⟩;intro args aH fz v B7 QS hp im loc w us pY FO;unfold QC at hp;split at hp
 case h_2=>cases hp
 rename_i t e1 off len cap ex i u e2 amH Sr Wn ND;split at hp
 case h_2=>cases hp
 rename_i e3 rows e4 new dh ZU;split at hp
 case isFalse=>cases hp
 rename_i hc;simp only[NE,g',YI,decide_eq_true_eq,SM]at hc;obtain⟨⟨⟨⟨⟨⟨⟨⟨⟨⟨⟨q1,q2⟩,rfl⟩,rfl⟩,fJ⟩,rfl⟩,QG⟩,Z1⟩,Vi⟩,Sf⟩,hil⟩,mP⟩:=hc;have q1:=q1.symm;subst q1;have q2:=q2.symm;subst q2;have mP:len+1<=1048576:=mP;injection hp with hp;simp only[Mi]at hp;obtain⟨rfl,rfl,rfl⟩:=hp;obtain⟨k,rfl⟩: ∃k:Nat,i=(k:Int):=⟨i.toNat,by omega⟩;simp only[Int.toNat_natCast]at hil ⊢;obtain⟨x0,Y4,rfl,Q2,FO⟩: ∃x0 Y4,us=x0::Y4/\VR im loc (.own t e 0 len cap ex) x0/\gW im loc [.int .i64 (k:Int),.own u e 0 1 Wn ND] Y4:=by cases FO with|cons _ a _ b D S=>grind
 obtain⟨x1,q6,rfl,Pq,FO⟩: ∃x1 q6,Y4=x1::q6/\VR im loc (.int .i64 (k:Int)) x1/\gW im loc [.own u e 0 1 Wn ND] q6:=by cases FO with|cons _ a _ b D S=>grind
 obtain⟨x2,q7,rfl,Vp,FO⟩: ∃x2 q7,q6=x2::q7/\VR im loc (.own u e 0 1 Wn ND) x2/\gW im loc [] q7:=by cases FO with|cons _ a _ b D S=>grind
 obtain rfl:q7=[]:=by cases FO;rfl
 have Pq:=Pq.jT;subst Pq;obtain⟨li,a,eL,rfl,I,he,JK,Ui,W8,_,Lu⟩:=Q2.kW;obtain⟨lj,a2,R4,rfl,SA,D7,aAy,aCg,aCh,_,aAz⟩:=Vp.kW;have YU:t<(D5 aH):=(Md.1 dh).1;obtain⟨k1,lL,Az⟩:=pY.eK t li I;rw[dh]at lL;injection lL with lL;subst lL;obtain⟨k2,KP,asY⟩:=pY.eK u lj SA;rw[ZU]at KP;injection KP with KP;subst KP;obtain⟨b1,b2,b3⟩:=Az;obtain⟨d1,d2,d3⟩:=asY;have UI:new≠[]:=by grind
 obtain⟨av,ev,Xf,wy,hv3,Qt⟩:=d3 UI;have e34:e=e3:=by rw[<-b1,he]
 subst e34;have e44:e=e4:=by rw[<-d1,D7]
 subst e44;obtain rfl:a2=hi ⟨lj.eK,lj.sh,h2⟩:=by
  grind
 have QH:=Qt.uK;have Mw:=Qt.plain;have SF:=eS QH;rw[QG]at SF;refine .inr ⟨lQ hf yE hb,?_⟩;rcases KJ k len with hk|hk
 ·
  have xJ:rows≠[]:=by grind
  obtain⟨arr,el,GB,UY,Sz,dU⟩:=b3 xJ;obtain⟨Nl,rfl,yM⟩:li.n≠0/\a=hi ⟨li.eK,li.sh,h2⟩/\li.sh+eL*e<=li.sz:=by
   grind
  have Xh:=dU.uK;have Tp:=dU.plain;have S0:=eS Xh;rw[<-fJ]at S0;obtain⟨L,hL⟩: ∃L,L=rows.take k++new++rows.drop k:=⟨_,rfl⟩;have P4:(D5 L)=len+1:=by grind
  have hLf:L.flatMap bw=(rows.flatMap bw).take (k*e)++new.flatMap bw++(rows.flatMap bw).drop (k*e):=by
   grind[Ext,iha]
  have hLr: ∀r∈L,D5 r=e:=by
   grind
  have hLp: ∀r∈L,∀c∈r,c.plain=YB:=by
   grind
  rw[<-hL,<-P4];have yL: ∀j v,(rows.flatMap bw)[j]? =hi v->arr[li.sh+j]? =hi v:=λj v hj=>dU.flat j v hj
  have QM: ∀j v,(new.flatMap bw)[j]? =hi v->av[lj.sh+j]? =hi v:=λj v hj=>Qt.flat j v hj
  have OK:(len+1)*e<=eL*e\/eL=len:=by
   grind[KJ,D8]
  rcases OK with Ay|Xn
  ·have anu:len+1<=eL:=Nat.le_of_mul_le_mul_right Ay he0
   have fk:lj.eK≠li.eK:=λh=>by have:=pY.mE u t lj li _ _ SA I ZU dh (tC UI) (tC xJ) h;rw[this]at Z1;simp at Z1
   obtain⟨fin,f1,f2,f3⟩:=H.room li.eK li.sh len eL k lj.eK lj.sh R4 _ _ arr av el ev w hk anu (by omega) fk GB Xf (by omega) S0 (by omega) yL QM (uL Tp) (uL Mw);refine f3.mono λx w' ⟨X,hh,ho,XK,Ng⟩=>⟨_,X,im,loc.set (D5 aH) ⟨li.eK,li.sh,e,D5 L,li.sz⟩,?_⟩
   have hE:=e10 pY I dh xJ Vi GB hh ho XK Ng (by simp[f1,UY]) (by rw[P4];omega) (cw.Hg hLr hLp λj v hj=>by rw[hLf]at hj;simpa using f2 j v hj);refine FX pY hE rfl rfl YU ?_;rw[<-P4];exact .own _ _ 0 _ _ h9 ⟨li.eK,li.sh,e,D5 L,li.sz⟩ _ eL (Loc.ij _ _ _) rfl (by show 0+D5 L<=D5 L;omega) (Y _) (by omega) (λh=>by cases h) (.inr ⟨by show(D5 L)≠0;omega,by simp,by show li.sh+(0+eL)*e<=li.sz;rw[Nat.zero_add];exact yM⟩)
  subst Xn
  obtain⟨G,fin,el',g1,g2,g3,g4⟩:=H.full li.eK li.sh eL k lj.eK lj.sh R4 _ _ w hk (by omega) S0 (by omega) (λj v hj=>by simp only[Sy,GB];exact yL j v hj) (λj v hj=>by simp only[Sy,Xf];exact QM j v hj) (uL Tp) (uL Mw);have hg:(eL+1)*e<=G*e:=D8 _ g1;refine g4.mono λx w' ⟨X,hh,ho,XK,Ng⟩=>⟨_,X,im,loc.set (D5 aH) ⟨w.heap.size,0,e,D5 L,fin.toArray.size⟩,?_⟩
  have hE:=aeO (t:=t) pY hh ho XK Ng (by rw[P4];simp[g2];omega) (cw.Hg hLr hLp λj v hj=>by rw[hLf]at hj;simpa using g3 j v hj);refine FX pY hE rfl rfl YU ?_;rw[<-P4];exact .own _ _ 0 _ _ h9 ⟨w.heap.size,0,e,D5 L,fin.toArray.size⟩ _ G (Loc.ij _ _ _) rfl (by show 0+D5 L<=D5 L;omega) (Y _) (by omega) (λh=>by cases h) (.inr ⟨by show(D5 L)≠0;omega,by simp,by show 0+(0+G)*e<=fin.toArray.size;simp[g2]⟩)
 ·
  obtain rfl:k=len:=by omega
  have asZ:rows.take k++new++rows.drop k=rows++new:=by rw[YH (by omega),al (by omega),YF]
  rw[asZ];have as0:VR im loc (.own t e 0 k k h9) (.slice a k eL):= .own t e 0 k k h9 li a eL I he (by omega) (Y _) (by omega) (by simp) Lu;have KM:rowsOf aH e (.own u e 0 1 Wn ND)=hi new:=by
   have:(new.drop 0).take 1=new:=by rw[vk,YH (by omega)]
   show(if If e e=YB then(match aH[u]? with|some (.arr _ rows)=>hi ((rows.drop 0).take 1)|_=>h2)else h2)=_;rw[Do (Nat.beq_refl e),ZU];exact congrArg hi this
  have UH:mN aH fz e (.own t e 0 k k h9) (.own u e 0 1 Wn ND)=hi {v:= .own (D5 aH) e 0 (k+1) (k+1) h9,news:=[.arr e (rows++new)],wr:=[(t,.dead)],rd:=[u]}:=by
   have D:Ii (k+1) k=h9:=by
    cases h:Ii (k+1) k with
    |false=>rfl
    |true=>have:=Nat.le_of_ble_eq_true h;omega
   have S:Ii (k+1) gX=YB:=by simpa[gX]using mP
   have h3:(rows.drop 0).take k=rows:=by rw[vk,YH (by omega)]
   unfold mN;rw[KM];cases new with
   |nil=>exact absurd rfl UI
   |cons r rs=>have h0:(r::rs).length=1:=QG;simp only[h0,dh,D,S,h3,Vi,nK];simp
  obtain⟨v',w',bK,dG,wc,hE⟩:=abB ht ht N yB hz SC YE as0 Vp UH (pY.kne Vi rfl);refine(H.ends a k eL lj.eK lj.sh R4 w w' v' (by omega) dG).mono λx W ⟨X,hW⟩=>⟨v',X,im,bK,?_⟩
  subst hW;exact FX pY hE rfl rfl YU wc
end
end Go.Vm
/- slices.Concat of two slices that nobody writes to: the table's entry. -/
namespace Go.Vm
def abn (P : Program) (f : FuncId) : Prop :=
  ∀ (vb c : Nat) (a1 a2 : O Addr) (c1 c2 : Nat) (OU OV : J Value) (av : Array Value) (ev : TypeId) (w : World), w.heap[vb]? = hi (.cells av ev (0, 0)) -> av[0]? = hi (.slice a1 (D5 OU) c1) -> av[1]? = hi (.slice a2 (D5 OV) c2) -> 1 <= (D5 OU) + (D5 OV) -> (D5 OU) + (D5 OV) <= 1048576 ->
    (∀ (j : Nat) (v : Value), OU[j]? = hi v -> ∃ b o, a1 = hi ⟨b, o, h2⟩ /\ w.cell? ⟨b, o + j, h2⟩ = hi v) -> (∀ (j : Nat) (v : Value), OV[j]? = hi v -> ∃ b o, a2 = hi ⟨b, o, h2⟩ /\ w.cell? ⟨b, o + j, h2⟩ = hi v) -> (∀ v ∈ OU, v.oneCell' = YB) -> (∀ v ∈ OV, v.oneCell' = YB) ->
    ∃ (G : Nat) (fin : J Value) (el : TypeId), (D5 OU) + (D5 OV) <= G /\ (D5 fin) = G /\ (∀ (j : Nat) (v : Value), (OU ++ OV)[j]? = hi v -> fin[j]? = hi v) /\
    Calls P f #[.slice (hi ⟨vb, 0, h2⟩) 2 c] w fun x w' => x = .returned (.slice (hi ⟨w.heap.size, 0, h2⟩) ((D5 OU) + (D5 OV)) G) /\ w'.heap = w.heap.push (.cells fin.toArray el (0, 0)) /\ w'.os = w.os /\ Tape w w' /\ w'.output = w.output
section
variable {P : Program} {im : Im} {loc : Loc} {w : World}
theorem zy{rows:J Row}(h:CQ rows=YB):(∀r∈rows,D5 r=1)/\ ∀r∈rows,∀c∈r,c.plain=YB:=by
 unfold CQ at h;rw[Sv]at h;constructor
 ·intro r hr
  have:=h r hr;simp[NE,g']at this;exact this.1
 grind
theorem op'{e:Nat}{cl:Bool}{rows:J Row}{u:Value}(h:VR im loc (.sl e cl rows) u)(D:CQ rows=YB)(he:(If e 1||rows.isEmpty)=YB)(bZ: ∀b o,im b=hi o->w.heap[b]? =hi o):
 ∃a c,u= .slice a (rows.flatMap bw).length c/\(rows.flatMap bw).length=D5 rows/\ ∀(j:Nat) (v:Value),(rows.flatMap bw)[j]? =hi v-> ∃b o,a=hi ⟨b,o,h2⟩/\w.cell? ⟨b,o+j,h2⟩=hi v:=by
 obtain⟨a,cap,rfl,_,_,qg⟩:=h.uI;obtain⟨l1,l2⟩:=zy D;have I:=eS l1;rw[Nat.mul_one]at I;refine⟨a,cap,by rw[I],I,λj v hj=>?_⟩;have fk:rows≠[]:=by grind
 obtain⟨b,o,rfl,dU⟩:=qg fk;exact⟨b,o,rfl,xI bZ (dU.flat j v hj)⟩
theorem Ij.cat{f:FuncId}{fn:Func}{c:Code}(hf:P.funcs[f]? =hi fn)(yE:(fn.name== "runtime.NumGoroutine")=h9)(hb:fn.body=hi c)(H:abn P f):Ij P f QA:=by
 refine⟨fn,c,hf,yE,hb,?_⟩;intro args aH fz v B7 QS hp im loc w us pY FO;unfold QA at hp;split at hp
 case h_2=>cases hp
 rename_i t e off len cap ex;split at hp
 case h_2=>cases hp
 rename_i e1 cl1 x e2 K6 y dh;split at hp
 case isFalse=>cases hp
 rename_i hc;simp only[NE,g',SM]at hc;obtain⟨⟨⟨⟨⟨⟨⟨⟨⟨rfl,rfl⟩,rfl⟩,Vi⟩,Pq⟩,XL⟩,SD⟩,mP⟩,S9⟩,D7⟩:=hc;have mP:(D5 x)+D5 y<=1048576:=mP;injection hp with hp;obtain⟨rfl,rfl,rfl⟩:=hp;obtain⟨x0,Y4,rfl,Q2,FO⟩: ∃x0 Y4,us=x0::Y4/\VR im loc (.own t 1 0 2 cap ex) x0/\gW im loc [] Y4:=by cases FO with|cons _ a _ b D S=>grind
 obtain rfl:Y4=[]:=by cases FO;rfl
 obtain⟨li,a,eL,rfl,I,he,JK,Ui,W8,_,Lu⟩:=Q2.kW;obtain⟨k1,lL,Az⟩:=pY.eK t li I;rw[dh]at lL;injection lL with lL;subst lL;obtain⟨_,_,b3,vs,ev,b4,b5,b6⟩:=Az;have YU:=(Md.1 dh).1;obtain⟨u1,Rt,rfl,v1,b6⟩: ∃u1 Rt,vs=u1::Rt/\VR im loc (.sl e1 cl1 x) u1/\gW im loc [.sl e2 K6 y] Rt:=by cases b6 with|cons _ a _ b D S=>grind
 obtain⟨u2,Ox,rfl,v2,b6⟩: ∃u2 Ox,Rt=u2::Ox/\VR im loc (.sl e2 K6 y) u2/\gW im loc [] Ox:=by cases b6 with|cons _ a _ b D S=>grind
 obtain rfl:a=hi ⟨li.eK,0,h2⟩:=by
  grind
 obtain⟨a1,d1,rfl,l1,r1⟩:=op' v1 Pq S9 pY.bZ;obtain⟨a2,d2,rfl,l2,r2⟩:=op' v2 XL D7 pY.bZ;obtain⟨G,fin,el,g1,g2,g3,g4⟩:=H li.eK eL a1 a2 d1 d2 (x.flatMap bw) (y.flatMap bw) _ ev w b4 rfl rfl (by omega) (by omega) r1 r2 (uL (zy Pq).2) (uL (zy XL).2);refine .inr ⟨lQ hf yE hb,?_⟩;have hL:(x++y).length=(x.flatMap bw).length+(y.flatMap bw).length:=by grind
 refine g4.mono λz w' ⟨hz,hh,ho,XK,Ng⟩=>⟨_,hz,im,loc.set (D5 aH) ⟨w.heap.size,0,1,(x++y).length,fin.toArray.size⟩,?_⟩
 have hE:=aeO (t:=t) (L:=x++y) (e:=1) pY hh ho XK Ng (by grind) (cw.Hg (λr hr=>by
  grind[zy]) (λr hr=>by
  grind[zy]) λj v hj=>by
  grind)
 refine FX pY hE rfl rfl YU ?_;rw[<-hL];exact .own _ _ 0 _ _ h9 ⟨w.heap.size,0,1,(x++y).length,fin.toArray.size⟩ _ G (Loc.ij _ _ _) rfl (by simp) (Y _) (by omega) (λh=>by cases h) (.inr ⟨by grind,by simp,by grind⟩)
end
end Go.Vm
/- A table of functions as a tree. -/
namespace Go.Vm
inductive TT where
 |nil
 |leaf(k:Nat)(e:nz)
 |node(m:Nat)(a b:TT)
def TT.get:TT->Nat->O nz
 | .nil,_=>h2
 | .leaf k e,f=>bif If f k then hi e else h2
 | .node m a b,f=>bif QK f m then a.get f else b.get f
def TT.IP(p:Nat->nz->Prop):TT->Prop
 | .nil=>True
 | .leaf k e=>p k e
 | .node _ a b=>a.IP p/\b.IP p
theorem TT.Ix{p:Nat->nz->Prop}: ∀{t:TT} {f:Nat} {e:nz},t.IP p->t.get f=hi e->p f e
 | .nil,f,e,_,h=>by cases h
 | .leaf k e',f,e,ha,h=>by
  simp[TT.get]at h;cases hk:If f k with
  |false=>grind
  |true=>
   rw[hk]at h;have:f=k:=by simpa using hk
   subst this;injection h with h;subst h;exact ha
 | .node m a b,f,e,ha,h=>by
  simp[TT.get]at h;cases hk:QK f m with
  |false=>rw[hk]at h;exact TT.Ix ha.2 h
  |true=>rw[hk]at h;exact TT.Ix ha.1 h
def yF(P:Program)(f:Nat):nz->Prop
 | .code x=>Iw P (λ_=>YB) x f=YB
 | .p7 k p=>k=h9/\QT P f p
 | .OG p=>Ij P f p
theorem TT.anw{P:Program}{t:TT}(h:t.IP (yF P)):S4 P (λ_=>YB) t.get:=λf x hf=>by have:=TT.Ix h hf;exact this
theorem TT.aff{P:Program}{t:TT}(h:t.IP (yF P)):FQ P t.get:=⟨λ_ _ _ hf=>TT.Ix h hf,λ_ _ hf=>TT.Ix h hf⟩
end Go.Vm
/- A table of functions, looked at all at once. -/
namespace Go.Vm
def TT.Hl(P:Program):TT->Bool
 | .leaf k (.code x)=>Iw P (λ_=>YB) x k
 | .node _ a b=>a.Hl P&&b.Hl P
 |_=>YB
def TT.ph:TT->J (Nat×nz)
 | .leaf _ (.code _)=>[]
 | .leaf k e=>[(k,e)]
 | .node _ a b=>a.ph++b.ph
 | .nil=>[]
def Hm(P:Program):J (Nat×nz)->Prop
 | []=>True
 |e::r=>yF P e.1 e.2/\Hm P r
theorem Hm.app{P:Program}{b:J (Nat×nz)}: ∀{a:J (Nat×nz)},Hm P (a++b)->Hm P a/\Hm P b
 | [],h=>⟨trivial,h⟩
 |_::_,h=>⟨⟨h.1,h.2.app.1⟩,h.2.app.2⟩
theorem TT.Vu{P:Program}: ∀{t:TT},t.Hl P=YB->Hm P t.ph->t.IP (yF P)
 | .nil,_,_=>trivial
 | .leaf _ (.code _),h,_=>h
 | .leaf _ (.p7 ..),_,h=>h.1
 | .leaf _ (.OG ..),_,h=>h.1
 | .node _ _ _,h,e=>have h:=Bool.and_eq_true_iff.mp h;⟨Vu h.1 e.app.1,Vu h.2 e.app.2⟩
end Go.Vm
/- The logical machine's code of a function, reckoned from the model's own (what it comes to is looked at by chkFunc; nothing is proved of it here). -/
namespace Go.Vm
structure Hint where
 md:FuncId->CM
 iH:List Nat
 as2:List (Nat×List (Nat×Nat)):=[]
 more:List (Nat×List (Nat×Option Nat)):=[]
 tb:Bool:=h9
section
variable (P : Program)
def Y5(t:TypeId):Nat:=match P.info? t with
 |some i=>i.size
 |none=>0
def Vv(t:TypeId):O Nat:=match P.underlying t with
 |some (.struct _)|some (.array _ _)=>hi (Y5 P t)
 |_=>h2
def Br:Nat->TypeId->J PV
 |0,_=>[]
 |n+1,t=>match P.underlying t with
  |some (.int k)=>[.int k 0]
  |some .bool=>[.bool h9]
  |some .string=>[.str .empty]
  |some (.slice e)=>[.sl (Y5 P e) YB []]
  |some (.struct fs)=>fs.toList.flatMap λf=>Br n f.type
  |some (.array m e)=>(GH m (Br n e)).flatten
  |some (.func ..)=>[.fC]
  |_=>[.undef]
def ahT(t:TypeId):PV:=match Br P 9 t with
 |x::_=>x
 | []=> .sl 0 YB []
def ahU(t:TypeId):PV:=match Vv P t with
 |some _=> .agg (Br P 9 t)
 |none=>ahT P t
def ahV(z:PV):Value->PV
 | .int k n=> .int k n
 | .bool b=> .bool b
 | .string s=> .str s
 | .slice .. =>z
 | .nilFunc=> .fC
 |_=> .undef
def ahW:J PV->J Value->J PV
 |z::zs,v::vs=>ahV z v::ahW zs vs
 |_,_=>[]
def as3(t:TypeId):Value->PV
 | .agg vs=> .agg (ahW (Br P 9 t) vs.toList)
 |v=>ahV (ahT P t) v
def yO(t:TypeId):Operand->jd
 | .tmp n=> .t n
 | .const v=> .c (as3 P t v)
 | .func f=> .c (.fY f [] [])
 | .global _=> .c .undef
def O8:J TypeId->J Operand->J jd
 |t::ts,o::os=>yO P t o::O8 ts os
 |_,_=>[]
def jW:Operand->jd
 | .tmp n=> .t n
 | .const (.int k n)=> .c (.int k n)
 | .const (.bool b)=> .c (.bool b)
 | .const (.string s)=> .c (.str s)
 | .func f=> .c (.fY f [] [])
 |_=> .c .undef
def GL(t:TypeId):TypeId:=match P.underlying t with
 |some (.slice e)=>e
 |some (.array _ e)=>e
 |_=>0
def abp(place:Nat->O (Nat×Nat))(ty:Nat->TypeId):J (Nat×Operand)->J (Nat×Nat×jd)
 | []=>[]
 |(i,o)::r=>match place i with
  |some (a,b)=>(a,b,yO P (ty i) o)::abp place ty r
  |none=>[]
def abq(t:TypeId)(i:Nat):TypeId:=match P.underlying t with
 |some (.struct fs)=>match fs[i]? with
  |some f=>f.type
  |none=>0
 |some (.array _ e)=>e
 |_=>0
def anx(t:TypeId)(i:Nat):Nat:=match P.underlying t with
 |some (.struct fs)=>match fs[i]? with
  |some f=>f.offset
  |none=>0
 |_=>0
def ahX:BinOp->Bool
 | .neq=>YB
 |_=>h9
def abr(b:Builtin)(args:J Operand)(ts:J TypeId):qd:=
 match b,args,ts with
 | .len,x::_,t::_=>match P.underlying t with
  |some (.slice _)|some (.map _ _)=> .len (yO P t x)
  |some (.array m _)=> .U7 m
  |some (.pointer e)=>match P.underlying e with
   |some (.array m _)=> .U7 m
   |_=> .bad
  |_=> .bad
 | .append,[x,y],[t,u]=>match P.underlying u with
  |some (.slice _)=> .append (Y5 P (GL P t)) (yO P t x) (yO P u y)
  |_=> .bad
 | .copy,[x,y],[t,u]=>match P.underlying u with
  |some (.slice _)=> .copy (Y5 P (GL P t)) (yO P t x) (yO P u y)
  |_=> .bad
 | .clear,[x],[t]=>match P.underlying t with
  |some (.slice e)=> .clear (Y5 P e) (Br P 9 e) (yO P t x)
  |_=> .bad
 | .min,x::xs,_=> .mm h9 (jW x) (xs.map jW)
 | .max,x::xs,_=> .mm YB (jW x) (xs.map jW)
 |_,_,_=> .bad
def cOp(tb:Bool)(md:FuncId->CM)(ty:TypeId):Op->qd
 | .move x| .assign x=> .SP (yO P ty x)
 | .pick c a b=> .pick (jW c) (yO P ty a) (yO P ty b)
 | .binOp op t x y _=>match P.underlying t with
  |some (.int _)=> .bin op (jW x) (jW y)
  |some .bool=> .Si (ahX op) (jW x) (jW y)
  |some (.struct _)|some (.array _ _)=> .MV (Y5 P t) (ahX op) (yO P t x) (yO P t y)
  |_=> .bad
 | .unOp op _ x=> .un op (jW x)
 | .convert _ t x=>match P.underlying t with
  |some (.int k)=> .conv k (jW x)
  |_=> .bad
 | .box t x=> .box (yO P t x)
 | .alloc t=> .alloc (Br P 9 t)
 | .build t ps=> .build (Br P 9 t) (abp P (placeOf P t) (abq P t) ps.toList)
 | .buildSlice t n ps=>match P.underlying (GL P t),n,ps.toList with
  |some (.slice _),2,[(0,a),(1,b)]=> .KG (yO P (GL P t) a) (yO P (GL P t) b)
  |_,_,_=> .Ia (Y5 P (GL P t)) n (Br P 9 (GL P t)) (ps.toList.map λp=>(p.1,yO P (GL P t) p.2))
 | .load t a=> .load (Vv P t) (jW a)
 | .store t a v=> .store (Y5 P t) (jW a) (yO P t v)
 | .nilCheck x=> .Sj (jW x)
 | .fieldAddr t a f=> .Sk (anx P t f) (jW a)
 | .field t a f=> .fD (Vv P (abq P t f)) (anx P t f) (jW a)
 | .indexAddr t a j=>match P.underlying t with
  |some (.slice e)=> .Sl (Y5 P e) (yO P t a) (jW j)
  |some (.array m e)=> .KH m (Y5 P e) (jW a) (jW j)
  |_=> .bad
 | .index t a j=>match P.underlying t with
  |some (.array m e)=> .idx m (Y5 P e) (Vv P e) (yO P t a) (jW j)
  |some .string=> .Sm (jW a) (jW j)
  |_=> .bad
 | .slice t a b c d=>match P.underlying t with
  |some (.slice e)=> .Yx (Y5 P e) (yO P t a) (b.map jW) (c.map jW) (d.map jW)
  |_=> .bad
 | .makeSlice t a b=> .mo (Y5 P (GL P t)) (Br P 9 (GL P t)) (jW a) (jW b)
 | .makeFunc (.func g) c d=> .km g (c.toList.map jW) (d.toList.map jW)
 | .makeMap t _=> .MW (bif tb then(match P.underlying t with
  |some (.map _ e)=>hi (ahU P e)
  |_=>h2)else h2)
 | .extract a j=> .ext j (jW a)
 | .lookup t a b ok=>match P.underlying t with
  |some (.map k e)=> .lookup (Vv P k) (ahU P e) ok (jW a) (yO P k b)
  |_=> .bad
 | .mapUpdate t a b c| .insert t a b c=>match P.underlying t with
  |some (.map k e)=> .Qx (Vv P k) (jW a) (yO P k b) (yO P e c)
  |_=> .bad
 | .call c=>match c.callee with
  | .builtin b=>abr P b c.args.toList c.argTypes.toList
  | .value (.func f)=> .call (md f) f (O8 P c.argTypes.toList c.args.toList)
  | .value x=> .D3 (jW x) (O8 P c.argTypes.toList c.args.toList)
  |_=> .bad
 |_=> .bad
def anz (tb:Bool) (md:FuncId->CM) (ops:Array Oper) (o:Oper):dD:=
 ⟨o.dst,cOp P tb md o.type o.op,match o.guard with
  |some (i,b)=>match ops[i]? with
   |some q=>match q.dst with
    |some d=>hi (d,b)
    |none=>h2
   |none=>h2
  |none=>h2⟩
def abt:J Nat->J Oper->J Nat
 |acc,[]=>acc
 |acc,o::os=>abt (acc++[(tD acc (D5 acc) o.after.toList).getD 0]) os
def bitsOf:Nat->Nat->Nat->J Nat
 |0,_,_=>[]
 |n+1,i,m=>bif If m 0 then []else bif If (Nat.mod m 2) 1 then i::bitsOf n (i+1) (Nat.div m 2)else bitsOf n (i+1) (Nat.div m 2)
def abu(l:J (Nat×Nat))(x:Nat):Nat×O Nat:=match l with
 | []=>(x,h2)
 |(t,k)::r=>bif If t x then(x,hi k)else abu r x
def Lr{α:Type}(n:Nat):J (Nat×J α)->J α
 | []=>[]
 |(m,l)::r=>bif If m n then l else Lr n r
def hd(l:J Nat):Nat:=match l with
 |x::_=>x
 | []=>0
structure CSt where
 ks:List Nat
 n:Nat
def MH(H:Hint):Code->CSt->pg×CSt
 | .region _ ops dr,s=>(.region (match dr with|true=>hi (abt [] ops.toList)|false=>h2) (ops.toList.map (anz P H.tb H.md ops)) (bitsOf 1000 0 (hd s.ks)),⟨s.ks.tail,s.n⟩)
 | .seq a b,s=>match MH H a s with
  |(x,s1)=>match MH H b s1 with
   |(y,s2)=>(.seq x y,s2)
 | .cond c a b,s=>match MH H a s with
  |(x,s1)=>match MH H b s1 with
   |(y,s2)=>(.cond (jW c) x y,s2)
 | .block id b,s=>match MH H b s with
  |(x,s1)=>(.block id x,s1)
 | .loop b,s=>match MH H b ⟨s.ks.tail,s.n+1⟩with
  |(x,s1)=>(.loop ((bitsOf 1000 0 (hd s.ks)).map (abu (Lr s.n H.as2))++Lr s.n H.more) x,s1)
 | .exit id,s=>(.exit id,s)
 | .ret,s=>(.ret,s)
 |_,s=>(.skip,s)
def as4:ResultVar->RV
 | .tmp t=> .tmp t
 | .cell t ty=> .cell t (Vv P ty)
def r7 (fn:Func) (H:Hint):ay:=
 ⟨fn.params.size+fn.nfree,match fn.body with
  |some c=>(MH P H c ⟨H.iH,0⟩).1
  |none=> .skip,fn.results.toList.map (as4 P)⟩
def as5(ow sh fp:J Nat)(f:FuncId):CM:=bif has ow f then .own else bif has sh f then .shr else bif has fp f then .fp else .Zh
end
end Go.Vm
/- A law's row from what the logical machine answers: the result is aeA, nothing that was there has turned. -/
namespace Go.Vm
open Go.ChangeShapes Go.WideShapes Go.ChangeAt Go.RowKit
section
variable {H : Type} {enc : TypeId × Value -> H} {P : Program}
theorem xs'(I:laidOutB P=YB){W W':World}(hb:Below W.heap.size W W'): ∀{ts:J TypeId} {vs:J Value} {ds:J (DataW H)} {ps:J MemPlace},(∀t∈ts,P.readableRec t=YB/\t<P.types.size)->
 DataW.TrodAll enc P W 0 (λ_=>YB) YB ts vs ds ps->(∀x∈ps,x.block<W.heap.size)->DataW.TrodAll enc P W' 0 (λb=>decide (b<W.heap.size)) YB ts vs ds ps
 | [],vs,ds,ps,_,h,_=>by obtain⟨rfl,rfl,rfl⟩:=trodAll_nil h;rfl
 |t::ts,vs,ds,ps,ht,h,iY=>by obtain⟨v,U1,d,GN,p,q,rfl,rfl,rfl,D,S⟩:=trodAll_cons h;obtain⟨h3,h4⟩:=ht t (by simp);exact trodAll_cons_mk (Below.trod I h3 h4 D hb λx X=>iY x (by simp[X])) (xs' I hb (λt' aw=>ht t' (by simp[aw])) S λx X=>iY x (by simp[X]))
theorem abw(I:laidOutB P=YB){f:Func}{s:ChangeSpec}{W W':World}{args:Array Value}{ds:J (DataW H)}{before:J MemPlace}{bt:TypeId}(anA:s.vars=[])(Iv:f.resultTypes= #[bt])(hbt:P.underlying bt=hi .bool)
 (hp: ∀t∈f.params.toList,P.readableRec t=YB/\t<P.types.size) (hW:DataW.Whole enc P f.params.toList s.vars h9 W args.toList ds [] before)
 (NZ:s.fn H (ds++[])={results:=[.lit (.bool YB)],args:=ds}) (hb:Below W.heap.size W W'):s.post enc P f h9 YB h9 h9 W args (.bool YB) W':=by
 have G7:=hW;obtain⟨p,q,hA,hV,rfl,Vi,OO⟩:=hW;have iY:=λx X=>by simpa using G7.lt x X
 refine⟨ds,[],p++q,[],p,[],G7,?_,?_,?_,hb.frame _,λh=>by cases h⟩
 ·rw[NZ,Iv]
  exact trodAll_mk1 (shut_bool hbt YB)
 ·grind[xs']
 rw[NZ,anA]
 rfl
end
def Q3(w:World):Im:=λb=>w.heap[b]?
theorem ln1{w:World}{b o:Nat}{v:Value}(h:w.cell? ⟨b,o,h2⟩=hi v):wm (Q3 w) b o=hi v:=by
 assumption
theorem ln2{P:Program}{W7:s9}{prims:FuncId->Bool}(hT:S4 P prims W7)(Ik:FQ P W7)(xK:P.follows .mixedOrders=YB){f:FuncId}{args:J PV}{s:dp}{z:J Nat}{n:Nat}{us:J Value}{w:World}
 (h:run W7 n (.func f args [] [])=hi (.func (.bool YB) s z)) (FO:gW (Q3 w) jy args us):Calls P f ⟨us⟩ w λe w'=>e= .returned (.bool YB)/\Below w.heap.size w w':=by
 refine(adi hT Ik xK h (λb o h=>h) FO).mono λe w' ⟨u,he,⟨fZ,bK,wc,_⟩,D,S,h3,h4,h5⟩=>?_
 obtain rfl:=wc.oc;exact⟨he,⟨D,S.eq,h3,h4,h5⟩⟩
end Go.Vm
/- Regions of one order, step by step, for contracts. -/
namespace Go.Vm
def abx:qd->Bool
 | .call .. | .D3 .. =>YB
 |_=>h9
variable {W7 : s9}
theorem afh{rec:Task->O Out}{e:Env}{aH:dp}{fz:J Nat}{op:qd}(h:abx op=h9):
 FJ W7 rec e aH fz op=(cd e aH fz op).map .loc:=by
 cases op<;>first|rfl|cases h
end Go.Vm
/- Plain terms for what a function computes: loops, elements of lists, numbers; and the machine's loop over a plain one. -/
namespace Go.Vm
inductive Step(σ ρ:Type) where
 |next(s:σ)
 |done(r:ρ)
section
variable {σ ρ : Type}
def tH(body:σ->O (Step σ ρ)):Nat->σ->O ρ
 |0,_=>h2
 |n+1,x=>match body x with
  |some (.next y)=>tH body n y
  |some (.done r)=>hi r
  |none=>h2
open Classical in
noncomputable def Vw(body:σ->O (Step σ ρ))(x:σ):O ρ:=
 if h: ∃n r,tH body n x=hi r then tH body h.choose x else h2
theorem Hn{body:σ->O (Step σ ρ)}: ∀{n:Nat} {x:σ} {r:ρ},tH body n x=hi r-> ∀k,tH body (n+k) x=hi r
 |0,x,r,h,_=>by cases h
 |n+1,x,r,h,k=>by
  rw[show n+1+k=(n+k)+1 by omega];simp[tH]at h ⊢;split at h
  ·exact Hn h k
  ·exact h
  cases h
theorem ok2{body:σ->O (Step σ ρ)}{n m:Nat}{x:σ}{r s:ρ}(h:tH body n x=hi r)(k:tH body m x=hi s):r=s:=by
 have D:=Hn h m;have S:=Hn k n
 grind
theorem hse{body:σ->O (Step σ ρ)}{x:σ}{r:ρ}:Vw body x=hi r↔ ∃n,tH body n x=hi r:=by
 unfold Vw;constructor
 ·intro h
  split at h
  ·exact⟨_,h⟩
  cases h
 rintro⟨n,hn⟩
 have hex: ∃n r,tH body n x=hi r:=⟨n,r,hn⟩
 grind[ok2]
end
noncomputable def Xq{σ ρ:Type}(b:O Nat)(body:σ->O (Step σ ρ))(x:σ):O ρ:=
 match b with
 |none=>Vw body x
 |some UV=>tH body UV x
theorem hhm{σ ρ:Type}{b:O Nat}{body:σ->O (Step σ ρ)}{x:σ}{r:ρ}(h:Xq b body x=hi r): ∃n,tH body n x=hi r:=by
 cases b with
 |none=>exact hse.1 h
 |some UV=>exact⟨_,h⟩
class LP where
 w:Option Nat
abbrev LP.of(n:Nat):LP:=⟨hi n⟩
noncomputable def au[LP]{σ ρ:Type}(body:σ->O (Step σ ρ))(x:σ):O ρ:=Xq LP.w body x
def k7[LP]:O Nat:=LP.w
theorem anB{α β:Type}{x:O α}{f:α->O β}{r:β}(h:x.bind f=hi r): ∃a,x=hi a/\f a=hi r:=by
 cases x with
 |none=>cases h
 |some a=>grind
def ahY{α ρ:Type}(x:O α)(f:α->O ρ):O ρ:=x.bind f
def ahZ{ρ:Type}(c:Bool)(a b:O ρ):O ρ:=cond c a b
theorem hnn{α ρ:Type}{x:O α}{f:α->O ρ}{y:ρ}(h:ahY x f=hi y): ∃a,x=hi a/\f a=hi y:=anB h
theorem agO{ρ:Type}{c:Bool}{a b:O ρ}{y:ρ}(h:ahZ c a b=hi y):(c=YB/\a=hi y)\/(c=h9/\b=hi y):=by
 cases c
 ·exact .inr ⟨rfl,h⟩
 exact .inl ⟨rfl,h⟩
def az{α:Type}(l:J α)(i:Int):O α:=
 match i with
 | .ofNat n=>l[n]?
 | .negSucc _=>h2
def bu{α:Type}(l:J α)(i:Int)(a:α):J α:=l.set i.toNat a
theorem tI{α:Type}{l:J α}{i:Int}{a:α}(h:az l i=hi a): ∃n:Nat,i=SL n/\l[n]? =hi a:=by
 unfold az at h;split at h
 ·grind
 cases h
@[simp] theorem Iy{α:Type}(l:J α)(i:Int)(a:α):(bu l i a).length=(D5 l):=by simp[bu]
def aQ{α:Type}(l:J α)(m:J α):O (J α):=if(D5 l)+D5 m<=1048576 then hi (l++m)else h2
def rF{α:Type}(n:Int)(z:α):O (J α):=if 0<=n/\n<=1048576 then hi (GH n.toNat z)else h2
def gQ{α:Type}(l:J α)(lo N:Int):O (J α):=if 0<=lo/\lo<=N/\N<=(D5 l)then hi ((l.drop lo.toNat).take (N.toNat-lo.toNat))else h2
def bL{α:Type}(l:J α):O (J α):=if(D5 l)<=1048576 then hi l else h2
def Y9{α:Type}(l m:J α):O (J α):=if 1<=D5 l+D5 m/\D5 l+D5 m<=1048576 then hi (l++m)else h2
def FY{α:Type}(l:J α)(i:Int)(m:J α):O (J α):=if 0<=i/\i.toNat<=D5 l/\D5 m=1/\D5 l+1<=1048576 then hi (l.take i.toNat++m++l.drop i.toNat)else h2
def KU{α:Type}(f:J α->O (J α))(l:J α):O (J α):=
 if(D5 l)<=1048576 then(match f l with
 |some m=>if(D5 m)=(D5 l)then hi m else h2
 |none=>h2)else h2
def FZ{α:Type}(f:J α->O (J α))(n:Nat)(l:J α):O (J α):=if n<=(D5 l)then(KU f (l.take n)).map (· ++l.drop n)else h2
def Vz(a:Int):J Int->J Int
 | []=>[a]
 |b::r=>bif Mr (a<=b)then a::b::r else b::Vz a r
def tK:J Int->J Int
 | []=>[]
 |a::r=>Vz a (tK r)
def Q4(l:J Int):O (J Int):=hi (tK l)
def uC(k:IntKind)(a b:Int):Int:=k.wrap (BitVec.ofInt k.bits a&&&BitVec.ofInt k.bits b).toNat
def bOr(k:IntKind)(a b:Int):Int:=k.wrap (BitVec.ofInt k.bits a|||BitVec.ofInt k.bits b).toNat
def as6(k:IntKind)(a b:Int):Int:=k.wrap (BitVec.ofInt k.bits a^^^BitVec.ofInt k.bits b).toNat
def afi(k:IntKind)(a b:Int):Int:=k.wrap (BitVec.ofInt k.bits a&&& ~~~ BitVec.ofInt k.bits b).toNat
def as7(k:IntKind)(a b:Int):Int:=k.wrap (a*2^(min b.toNat k.bits))
def lR(k:IntKind)(a b:Int):Int:=a.fdiv (2^(min b.toNat k.bits))
def ah0(s:ByteArray)(i:Int):O Int:=
 match i with
 | .ofNat n=>s[n]?.map λb=>(b.toNat:Int)
 | .negSucc _=>h2
def Lw(l:J (J Int))(k:J Int):Bool:=l.any λm=>k==m
def H2(l:J (J Int))(k:J Int):J (J Int):=bif Lw l k then l else l++[k]
def uO(a:J Int)(l:J (J Int)):Bool:=l.all λb=>If (D5 b) (D5 a)
def Ta(l:J (J Int))(k:J Int):O Bool:=bif uO k l then hi (Lw l k)else h2
def Tb(l:J (J Int))(k:J Int):O (J (J Int)):=bif uO k l then hi (H2 l k)else h2
def lr{α:Type}(z:α):J (Int×α)->Int->α
 | [],_=>z
 |p::r,k=>bif k==p.1 then p.2 else lr z r k
def nO{α:Type}:J (Int×α)->Int->α->J (Int×α)
 | [],k,a=>[(k,a)]
 |p::r,k,a=>bif k==p.1 then(k,a)::r else p::nO r k a
section
variable {W7 : s9}
end
end Go.Vm
/- A logical machine over typed values: it turns a function's code into a plain term. What it computes is tied to the logical machine in SvRun. -/
namespace Go.Vm
inductive PT where
 |i(k:IntKind)
 |b
@[reducible] def PT.T : PT -> Type
  | .i _ => Int
  | .b => Bool
@[reducible] def RT : J PT -> Type
  | [] => Unit
  | [p] => p.T
  | p :: q :: r => p.T × RT (q :: r)
inductive SV where
 |k8
 |undef
 |oI
 |fC
 |int(k:IntKind)(n:Int)
 |bool(b:Bool)
 |str(s:ByteArray)
 |agg(cs:List SV)
 |cT(cs:List SV)
 |sl(r:List PT)(l:List (RT r))
 |nil(e:Nat)(c:Bool)
 |own(t:Nat)(ex:Bool)
 |pre(t len cap:Nat)(ex:Bool)
 |part(t off len cap:Nat)(ex:Bool)
 |pa(t:Nat)(r:List PT)(i:Int)(a:RT r)(off:Nat)
 |pb(t:Nat)(i:Int)(off:Nat)
 |bp(t n off:Nat)
 |cj(cs:List SV)(off:Nat)
 |fY(f:FuncId)(a b:List SV)
 |mp(t:Nat)
inductive SB where
 |arr(r:List PT)(l:List (RT r))
 |box(cs:List SV)
 |set(l:List (List Int))
 |nq(p:PT)(l:List (RT [.i .i64,p]))
 |dead
abbrev SE:=J (Nat×SV)
structure wB where
 env:SE
 aH:List SB
 fz:List Nat
 kn:Nat
structure Rows where
 r:List PT
 l:List (RT r)
def PT.same:PT->PT->Bool
 | .i k,.i l=>iA k l
 | .b,.b=>YB
 |_,_=>h9
def Iz:J PT->J PT->Bool
 | [],[]=>YB
 |p::r,q::s=>p.same q&&Iz r s
 |_,_=>h9
theorem PT.afj: ∀{p q:PT},p.same q=YB->p=q
 | .i k,.i l,h=>by rw[hZ.1 h]
 | .b,.b,_=>rfl
 | .i _,.b,h=>by cases h
 | .b,.i _,h=>by cases h
theorem EM: ∀{r s:J PT},Iz r s=YB->r=s
 | [],[],_=>rfl
 |p::r,q::s,h=>by simp[Iz,]at h;rw[PT.afj h.1,EM h.2]
 | [],_::_,h=>by cases h
 |_::_,[],h=>by cases h
def zz(r q:J PT)(l:J (RT r)):O (J (RT q)):=if h:Iz r q=YB then hi (EM h▸l)else h2
def PT.pv:(p:PT)->p.T->PV
 | .i k,n=> .int k n
 | .b,x=> .bool x
def RT.pv:(r:J PT)->RT r->J PV
 | [],_=>[]
 | [p],a=>[p.pv a]
 |p::q::r,a=>p.pv a.1::RT.pv (q::r) a.2
def PT.sv:(p:PT)->p.T->SV
 | .i k,n=> .int k n
 | .b,x=> .bool x
def RT.sv:(r:J PT)->RT r->J SV
 | [],_=>[]
 | [p],a=>[p.sv a]
 |p::q::r,a=>p.sv a.1::RT.sv (q::r) a.2
def PT.of:(p:PT)->SV->O p.T
 | .i k,.int l n=>bif iA l k then hi n else h2
 | .b,.bool x=>hi x
 |_,_=>h2
def RT.of:(r:J PT)->J SV->O (RT r)
 | [],[]=>hi ()
 | [p],[v]=>p.of v
 |p::q::r,v::vs=>match p.of v,RT.of (q::r) vs with
  |some a,hi b=>hi (a,b)
  |_,_=>h2
 |_,_=>h2
def PT.zero:(p:PT)->p.T
 | .i _=>(0:Int)
 | .b=>h9
def RT.zero:(r:J PT)->RT r
 | []=>()
 | [p]=>p.zero
 |p::q::r=>(p.zero,RT.zero (q::r))
def bm:PV->O PT
 | .int k n=>match n with
  | .ofNat 0=>hi (.i k)
  |_=>h2
 | .bool b=>match b with
  |false=>hi .b
  |true=>h2
 |_=>h2
def MI:J PV->O (J PT)
 | []=>hi []
 |v::vs=>match bm v,MI vs with
  |some p,hi r=>hi (p::r)
  |_,_=>h2
def nth{α:Type}:J α->Nat->O α
 | [],_=>h2
 |x::_,0=>hi x
 |_::r,n+1=>nth r n
theorem cX{α:Type}: ∀(l:J α) (n:Nat),nth l n=l[n]?
 | [],n=>by simp[nth]
 |x::r,0=>by simp[nth]
 |x::r,n+1=>by simp[nth,cX r n]
def KV(t:Nat):SE->SV
 | []=> .undef
 |(s,v)::r=>bif If s t then v else KV t r
def Ho(t:Nat)(v:SV):SE->SE
 | []=>[]
 |(s,x)::r=>bif If s t then(s,v)::r else(s,x)::Ho t v r
mutual
def su:PV->SV
 | .undef=> .undef
 | .oI=> .oI
 | .fC=> .fC
 | .int k n=> .int k n
 | .bool b=> .bool b
 | .str s=> .str s
 | .agg cs=> .agg (KW cs)
 | .cT cs=> .cT (KW cs)
 | .sl e c rows=>match rows with
  | []=> .nil e c
  |_=> .k8
 | .fY f a b=> .fY f (KW a) (KW b)
 |_=> .k8
def KW:J PV->J SV
 | []=>[]
 |x::xs=>su x::KW xs
end
def cJ(e:SE):jd->SV
 | .t n=>KV n e
 | .c v=>su v
def og(e:SE):J jd->J SV
 | []=>[]
 |x::xs=>cJ e x::og e xs
def SV.yA:SV->Bool
 | .k8| .undef| .oI| .agg _| .cT _=>h9
 |_=>YB
def EN:J SV->Bool
 | []=>YB
 |x::xs=>x.yA&&EN xs
def SV.cells:SV->J SV
 | .agg cs=>cs
 |v=>[v]
def SV.stored(v:SV):O (J SV):=bif EN v.cells then hi v.cells else h2
def GO(agg:O Nat)(off:Nat)(cs:J SV):O SV:=
 match agg with
 |some s=>bif Ii (off+s) (D5 cs)then hi (.agg ((cs.drop off).take s))else h2
 |none=>nth cs off
def yP(off:Nat)(new old:J SV):J SV:=old.take off++new++old.drop (off+D5 new)
def GP(s:J SB):SV->O Rows
 | .sl r l=>hi ⟨r,l⟩
 | .own t _=>match nth s t with
  |some (.arr r l)=>hi ⟨r,l⟩
  |_=>h2
 | .pre t len _ _=>match nth s t with
  |some (.arr r l)=>hi ⟨r,l.take len⟩
  |_=>h2
 | .part t off len _ _=>match nth s t with
  |some (.arr r l)=>hi ⟨r,(l.drop off).take len⟩
  |_=>h2
 |_=>h2
def Lx:SV->J Nat
 | .own t _=>[t]
 | .pre t _ _ _=>[t]
 | .part t _ _ _ _=>[t]
 |_=>[]
structure jf where
 v:SV
 news:List SB:=[]
 wr:List (Nat×SB):=[]
 rd:List Nat:=[]
 fr:List Nat:=[]
def jS(R:Type):= ∀ρ:Type,(R->ρ)->O ρ
section
variable {R : Type}
def KX(b:R):jS R:=λ_ w=>hi (w b)
def aW:jS R:=λ_ _=>h2
def pZ{α:Type}(x:O α)(f:α->jS R):jS R:=λρ w=>ahY x λa=>f a ρ w
def jX(c:Bool)(a b:jS R):jS R:=λρ w=>ahZ c (a ρ w) (b ρ w)
def Wx(v:SV)(k:SV->jS R):jS R:=
 match v with
 | .k8=>k .k8
 | .undef=>k .undef
 | .oI=>k .oI
 | .fC=>k .fC
 | .int a b=>k (.int a b)
 | .bool a=>k (.bool a)
 | .str a=>k (.str a)
 | .agg a=>k (.agg a)
 | .cT a=>k (.cT a)
 | .sl a b=>k (.sl a b)
 | .nil a b=>k (.nil a b)
 | .own a b=>k (.own a b)
 | .pre a b c d=>k (.pre a b c d)
 | .part a b c d x=>k (.part a b c d x)
 | .pa a b c d e=>k (.pa a b c d e)
 | .pb a b c=>k (.pb a b c)
 | .bp a b c=>k (.bp a b c)
 | .cj a b=>k (.cj a b)
 | .fY a b c=>k (.fY a b c)
 | .mp a=>k (.mp a)
theorem Q5(v:SV)(k:SV->jS R):Wx v k=k v:=by cases v<;>rfl
def VA(op:BinOp)(k:IntKind)(a b:Int)(c:SV->jS R):jS R:=
 match op with
 | .add=>c (.int k (M k (a+b)))
 | .sub=>c (.int k (M k (a-b)))
 | .mul=>c (.int k (M k (a*b)))
 | .quo=>jX (b==0) aW (c (.int k (M k (Int.tdiv a b))))
 | .rem=>jX (b==0) aW (c (.int k (Int.tmod a b)))
 | .and=>c (.int k (uC k a b))
 | .or=>c (.int k (bOr k a b))
 | .xor=>c (.int k (as6 k a b))
 | .andNot=>c (.int k (afi k a b))
 | .eql=>c (.bool (a==b))
 | .neq=>c (.bool (a !=b))
 | .lss=>c (.bool (Mr (a<b)))
 | .leq=>c (.bool (Mr (a<=b)))
 | .gtr=>c (.bool (Mr (b<a)))
 | .geq=>c (.bool (Mr (b<=a)))
 | .shl| .shr=>aW
def Wy:J SV->J SV->O Bool
 | [],[]=>hi YB
 |x::xs,y::ys=>match x,y with
  | .int k a,.int l b=>bif iA k l then(match xs with
   | []=>(match ys with| []=>hi (a==b)|_=>h2)
   |_::_=>match Wy xs ys with
    |some r=>hi (a==b&&r)
    |none=>h2)else h2
  |_,_=>h2
 |_,_=>h2
def C0:J (Nat×Nat×SV)->J SV->O (J SV)
 | [],cs=>hi cs
 |(off,sz,v)::r,cs=>match v.stored with
  |some w=>bif If (D5 w) sz&&Ii (off+sz) (D5 cs)then C0 r (yP off w cs)else h2
  |none=>h2
def EO(e:SE):J (Nat×Nat×jd)->J (Nat×Nat×SV)
 | []=>[]
 |p::r=>(p.1,p.2.1,cJ e p.2.2)::EO e r
def Xr(r:J PT)(e:SE)(n:Nat):J (Nat×jd)->O (J (Nat×RT r))
 | []=>hi []
 |p::ps=>match RT.of r (cJ e p.2).cells,Xr r e n ps with
  |some a,hi l=>bif QK p.1 n then hi ((p.1,a)::l)else h2
  |_,_=>h2
def rowAt{α:Type}(i:Nat):α->J (Nat×α)->α
 |z,[]=>z
 |z,(j,a)::r=>rowAt i (bif If j i then a else z) r
def VB{α:Type}(f:Nat->α):Nat->Nat->J α
 |_,0=>[]
 |i,n+1=>f i::VB f (i+1) n
def JY(e:SE)(d:Int):O jd->O Int
 |none=>hi d
 |some x=>match cJ e x with
  | .int _ n=>hi n
  |_=>h2
def Uj(uE:Bool)(k:IntKind):Int->J SV->O SV
 |a,[]=>hi (.int k a)
 |a,x::r=>match x with
  | .int l b=>bif iA k l then Uj uE k (bif uE then(if b>a then b else a)else(if b<a then b else a)) r else h2
  |_=>h2
def Xs:J SV->O (J Int)
 | []=>hi []
 |x::xs=>match x,Xs xs with
  | .int .i64 n,hi l=>hi (n::l)
  |_,_=>h2
def Uk(n:O Nat)(v:SV):O (J Int):=
 match n,v with
 |none,.int .i64 a=>hi [a]
 |some n,.agg cs=>bif If (D5 cs) n&&!Nat.beq n 1 then Xs cs else h2
 |_,_=>h2
def MJ(n:Nat)(i:Int)(j:Nat)(f:Nat->jS R):jS R:=
 match n with
 |0=>aW
 |n+1=>jX (i==SL j) (f j) (MJ n i (j+1) f)
def qi{α:Type}(x:O α)(k:α->jS R):jS R:=
 match x with
 |some a=>k a
 |none=>aW
def VZ(k:jf->jS R)(v:SV):jS R:=k {v}
def ah1(s:J SB)(aT:Nat)(x:SV)(i:Int)(k:jf->jS R):jS R:=
 match x with
 | .sl r l=>bif If (D5 r) aT then pZ (az l i) λa=>k {v:= .cj (RT.sv r a) 0}else aW
 | .own t _=>match nth s t with
  |some (.arr r l)=>bif If (D5 r) aT then pZ (az l i) λa=>k {v:= .pa t r i a 0}else aW
  |_=>aW
 | .pre t len _ _=>match nth s t with
  |some (.arr r l)=>bif If (D5 r) aT then pZ (az (l.take len) i) λa=>k {v:= .pa t r i a 0}else aW
  |_=>aW
 | .part t off len _ _=>match nth s t with
  |some (.arr r l)=>bif If (D5 r) aT then pZ (az ((l.drop off).take len) i) λa=>k {v:= .pa t r (.ofNat (off+i.toNat)) a 0}else aW
  |_=>aW
 |_=>aW
def ah2(s:J SB)(agg:O Nat)(p:SV)(k:jf->jS R):jS R:=
 match p with
 | .bp t _ off=>match nth s t with
  |some (.box cs)=>qi (GO agg off cs) λv=>k {v,rd:=[t]}
  |_=>aW
 | .pa t r _ a off=>match nth s t with
  |some (.arr _ _)=>qi (GO agg off (RT.sv r a)) λv=>k {v,rd:=[t]}
  |_=>aW
 | .pb t i off=>match nth s t with
  |some (.arr r l)=>pZ (az l i) λa=>qi (GO agg off (RT.sv r a)) λv=>k {v,rd:=[t]}
  |_=>aW
 | .cj cs off=>qi (GO agg off cs) λv=>k {v}
 |_=>aW
def abz(s:J SB)(z:J Nat)(sz:Nat)(p v:SV)(k:jf->jS R):jS R:=
 match p with
 | .bp t _ off=>match nth s t with
  |some (.box cs)=>qi v.stored λw=>bif If (D5 w) sz&&Ii (off+sz) (D5 cs)&&!has z t then k {v:= .undef,wr:=[(t,.box (yP off w cs))]}else aW
  |_=>aW
 | .pa t r i a off=>match nth s t with
  |some (.arr q l)=>bif If (D5 v.cells) sz&&Ii (off+sz) (D5 r)&&!has z t then
   qi (RT.of q (yP off v.cells (RT.sv r a))) λb=>k {v:= .undef,wr:=[(t,.arr q (bu l i b))]}else aW
  |_=>aW
 | .pb t i off=>match nth s t with
  |some (.arr q l)=>bif If (D5 v.cells) sz&&Ii (off+sz) (D5 q)&&!has z t then
   (bif If sz (D5 q)then qi (RT.of q v.cells) λb=>k {v:= .undef,wr:=[(t,.arr q (bu l i b))]}
   else pZ (az l i) λa=>qi (RT.of q (yP off v.cells (RT.sv q a))) λb=>k {v:= .undef,wr:=[(t,.arr q (bu l i b))]})else aW
  |_=>aW
 |_=>aW
def Y'(e:SE)(t off len cap:Nat)(ex:Bool)(lo N mx:O jd)(k:jf->jS R):jS R:=
 qi (JY e 0 lo) λa=>qi (JY e (.ofNat len) N) λb=>match mx with
  |none=>jX (Mr (0<=a)&&Mr (a<=b)&&Mr (b<= .ofNat cap)) (k {v:= .part t (off+a.toNat) (b.toNat-a.toNat) (cap-a.toNat) ex}) aW
  |some m=>match cJ e m with
   | .int _ c=>jX (Mr (0<=a)&&Mr (a<=b)&&Mr (b<=c)&&Mr (c<= .ofNat cap)) (k {v:= .part t (off+a.toNat) (b.toNat-a.toNat) (c.toNat-a.toNat) YB}) aW
   |_=>aW
def anC(e:SE)(s:J SB)(aT:Nat)(x:SV)(lo N mx:O jd)(k:jf->jS R):jS R:=
 match x with
 | .sl r l=>match mx with
  |none=>bif If (D5 r) aT then qi (JY e 0 lo) λa=>qi (JY e (SL (D5 l)) N) λb=>pZ (gQ l a b) λm=>k {v:= .sl r m}else aW
  |some _=>aW
 | .own t ex=>match nth s t with
  |some (.arr r l)=>bif If (D5 r) aT then(match lo,N,mx with
   |none,h2,h2=>k {v:= .own t ex}
   |none,hi h,h2=>match cJ e h with
    | .int _ b=>pZ (gQ l 0 b) λ_=>k {v:= .pre t b.toNat (D5 l) ex}
    |_=>aW
   |lo,N,mx=>Y' e t 0 (D5 l) (D5 l) ex lo N mx k)else aW
  |_=>aW
 | .pre t len cap ex=>match nth s t with
  |some (.arr r _)=>bif If (D5 r) aT then(match lo,N,mx with
   |none,h2,h2=>jX (Ii len cap) (k {v:= .pre t len cap ex}) aW
   |none,hi h,h2=>match cJ e h with
    | .int _ b=>jX (Mr (0<=b)&&Mr (b<= .ofNat cap)) (k {v:= .pre t b.toNat cap ex}) aW
    |_=>aW
   |lo,N,mx=>Y' e t 0 len cap ex lo N mx k)else aW
  |_=>aW
 | .part t off len cap ex=>match nth s t with
  |some (.arr r _)=>bif If (D5 r) aT then Y' e t off len cap ex lo N mx k else aW
  |_=>aW
 |_=>aW
def iL{α:Type}(l:J α)(n:Nat)(m:J α):J α:=l.take n++m++l.drop (n+D5 m)
def SV.ajB:SV->Bool
 | .part .. =>YB
 |_=>h9
def hmc (s:J SB) (z:J Nat) (aT:Nat) (x y:SV) (k:jf->jS R):jS R:=
 match GP s y with
 |none=>aW
 |some ⟨q,m⟩=>bif If (D5 q) aT then (match x with
  | .nil _ c=>bif c then pZ (bL m) fun m'=>k {v:= .own (D5 s) h9,news:=[.arr q m'],rd:=Lx y} else aW
  | .own t ex=>match nth s t with
   |some (.arr r l)=>match zz q r m with
    |none=>aW
    |some m=>match ex with
     |true=>jX l.isEmpty (pZ (bL m) fun m'=>k {v:= .own (D5 s) h9,news:=[.arr r m'],rd:=t::Lx y})
      (jX m.isEmpty (k {v:= .own t YB,rd:=Lx y}) (pZ (aQ l m) fun l'=>k {v:= .own (D5 s) h9,news:=[.arr r l'],rd:=t::Lx y}))
     |false=>jX m.isEmpty (k {v:= .own t h9,rd:=Lx y})
      (bif has z t then aW else pZ (aQ l m) fun l'=>k {v:= .own (D5 s) h9,news:=[.arr r l'],wr:=[(t,.dead)],rd:=Lx y})
   |_=>aW
  | .pre t len cap ex=>match nth s t with
   |some (.arr r l)=>match zz q r m with
    |none=>aW
    |some m=>bif ex then aW else jX m.isEmpty (k {v:= .pre t len cap h9,rd:=Lx y})
     (jX (Ii (len+D5 m) cap) (jX (Ii (len+D5 m) (D5 l)&&!has z t) (k {v:= .pre t (len+D5 m) cap h9,wr:=[(t,.arr r (iL l len m))],rd:=Lx y}) aW)
      (bif has z t||y.ajB then aW else pZ (aQ (l.take len) m) fun l'=>jX (Ii len (D5 l)) (k {v:= .own (D5 s) h9,news:=[.arr r l'],wr:=[(t,.dead)],rd:=Lx y}) aW))
   |_=>aW
  |_=>aW) else aW
def abA(s:J SB)(z:J Nat)(aT:Nat)(zero:Row)(x:SV)(k:jf->jS R):jS R:=
 match x with
 | .part t off len _ _=>match nth s t with
  |some (.arr r l)=>match MI zero with
   |some q=>bif Iz q r&&If (D5 r) aT then jX (If len 0) (k {v:= .undef})
    (jX (Ii (off+len) (D5 l)&&!has z t) (k {v:= .undef,wr:=[(t,.arr r (iL l off (GH len (RT.zero r))))]}) aW)else aW
   |none=>aW
  |_=>aW
 |_=>aW
def afn(n:O Nat)(zero:PV)(ok:Bool)(t:Nat)(l:J (J Int))(q:SV)(k:jf->jS R):jS R:=
 match zero,ok with
 | .bool h9,h9=>qi (Uk n q) λa=>pZ (Ta l a) λb=>k {v:= .bool b,rd:=[t]}
 |_,_=>aW
def ajC(n:O Nat)(t:Nat)(l:J (J Int))(q x:SV)(k:jf->jS R):jS R:=
 match x with
 | .bool YB=>qi (Uk n q) λa=>pZ (Tb l a) λm=>k {v:= .undef,wr:=[(t,.set m)]}
 |_=>aW
def PT.get:(p:PT)->p.T->J (RT [.i .i64,p])->Int->p.T
 | .i _,z,l,k=>lr z l k
 | .b,z,l,k=>lr z l k
def PT.put:(p:PT)->J (RT [.i .i64,p])->Int->p.T->J (RT [.i .i64,p])
 | .i _,l,k,a=>nO l k a
 | .b,l,k,a=>nO l k a
def afo(n:O Nat)(zero:PV)(ok:Bool)(t:Nat)(p:PT)(l:J (RT [.i .i64,p]))(q:SV)(k:jf->jS R):jS R:=
 match n with
 |none=>match ok with
  |false=>match q with
   | .int .i64 a=>qi (p.of (su zero)) λz=>k {v:=p.sv (p.get z l a),rd:=[t]}
   |_=>aW
  |true=>aW
 |some _=>aW
def ajD(n:O Nat)(t:Nat)(p:PT)(l:J (RT [.i .i64,p]))(q x:SV)(k:jf->jS R):jS R:=
 match n with
 |none=>match q with
  | .int .i64 a=>qi (p.of x) λv=>k {v:= .undef,wr:=[(t,.nq p (p.put l a v))]}
  |_=>aW
 |some _=>aW
def MK(s:J SB)(z:J Nat)(t:Nat)(r:J PT)(l:J (RT r))(off len:Nat)(y:SV)(k:jf->jS R):jS R:=
 match GP s y with
 |none=>aW
 |some ⟨q,m⟩=>match zz q r m with
  |none=>aW
  |some m=>jX (m.take len).isEmpty (k {v:= .int .i64 0,rd:=Lx y})
   (jX (Ii (off+(m.take len).length) (D5 l)&&!has z t) (k {v:= .int .i64 (.ofNat (m.take len).length),wr:=[(t,.arr r (iL l off (m.take len)))],rd:=Lx y}) aW)
def ah3(s:J SB)(z:J Nat)(aT:Nat)(x y:SV)(k:jf->jS R):jS R:=
 match x with
 | .own t _=>match nth s t with
  |some (.arr r l)=>bif If (D5 r) aT then MK s z t r l 0 (D5 l) y k else aW
  |_=>aW
 | .pre t len _ _=>match nth s t with
  |some (.arr r l)=>bif If (D5 r) aT then MK s z t r l 0 len y k else aW
  |_=>aW
 | .part t off len _ _=>match nth s t with
  |some (.arr r l)=>bif If (D5 r) aT then MK s z t r l off len y k else aW
  |_=>aW
 |_=>aW
def uD(e:SE)(s:J SB)(z:J Nat)(op:qd)(k:jf->jS R):jS R:=
 match op with
 | .SP x=>k {v:=cJ e x}
 | .pick c a b=>match cJ e c with
  | .bool c=>jX c (k {v:=cJ e a}) (k {v:=cJ e b})
  |_=>aW
 | .bin op x y=>match cJ e x with
  | .int ka a=>match cJ e y with
   | .int kb b=>match op with
    | .shl=>jX (Mr (b<0)) aW (k {v:= .int ka (as7 ka a b)})
    | .shr=>jX (Mr (b<0)) aW (k {v:= .int ka (lR ka a b)})
    |op=>bif iA ka kb then VA op ka a b (VZ k)else aW
   |_=>aW
  |_=>aW
 | .Si neg x y=>match cJ e x with
  | .bool a=>match cJ e y with
   | .bool b=>k {v:= .bool (bif neg then !(a==b)else a==b)}
   |_=>aW
  |_=>aW
 | .MV n neg x y=>match cJ e x with
  | .agg xs=>match cJ e y with
   | .agg ys=>bif If (D5 xs) n&&If (D5 ys) n then qi (Wy xs ys) λb=>k {v:= .bool (bif neg then !b else b)}else aW
   |_=>aW
  |_=>aW
 | .un op x=>match op with
  | .neg=>match cJ e x with
   | .int a n=>k {v:= .int a (M a (0-n))}
   |_=>aW
  | .not=>match cJ e x with
   | .bool b=>k {v:= .bool !b}
   |_=>aW
  |_=>aW
 | .conv a x=>match cJ e x with
  | .int _ n=>k {v:= .int a (M a n)}
  |_=>aW
 | .len x=>match cJ e x with
  | .nil _ _=>k {v:= .int .i64 0}
  | .pre _ len _ _=>k {v:= .int .i64 (.ofNat len)}
  | .part _ _ len _ _=>k {v:= .int .i64 (.ofNat len)}
  |v=>qi (GP s v) λc=>k {v:= .int .i64 (.ofNat (D5 c.l))}
 | .U7 n=>k {v:= .int .i64 (.ofNat n)}
 | .box x=>qi (cJ e x).stored λcs=>k {v:= .bp (D5 s) (D5 cs) 0,news:=[.box cs]}
 | .alloc cells=>k {v:= .bp (D5 s) (D5 cells) 0,news:=[.box (KW cells)]}
 | .build zero parts=>qi (C0 (EO e parts) (KW zero)) λcs=>k {v:= .agg cs}
 | .Ia aT n zero parts=>qi (MI zero) λr=>bif If (D5 r) aT then qi (Xr r e n parts) λps=>
  k {v:= .own (D5 s) YB,news:=[.arr r (VB (λi=>rowAt i (RT.zero r) ps) 0 n)]}else aW
 | .KG x y=>match cJ e x with
  | .sl r l=>match cJ e y with
   | .sl q m=>k {v:= .part (D5 s) 0 2 2 YB,news:=[.box [.sl r l,.sl q m]]}
   |_=>aW
  |_=>aW
 | .load agg p=>ah2 s agg (cJ e p) k
 | .store sz p v=>abz s z sz (cJ e p) (cJ e v) k
 | .Sj x=>match cJ e x with
  | .pa t r i a o=>k {v:= .pa t r i a o}
  | .pb t i o=>k {v:= .pb t i o}
  | .bp t n o=>k {v:= .bp t n o}
  | .cj c o=>k {v:= .cj c o}
  | .fY f a b=>k {v:= .fY f a b}
  |_=>aW
 | .Sk off p=>match cJ e p with
  | .pa t r i a o=>k {v:= .pa t r i a (o+off)}
  | .pb t i o=>k {v:= .pb t i (o+off)}
  | .bp t n o=>k {v:= .bp t n (o+off)}
  | .cj c o=>k {v:= .cj c (o+off)}
  |_=>aW
 | .fD agg off x=>match cJ e x with
  | .agg cs=>qi (GO agg off cs) (VZ k)
  |_=>aW
 | .Sl aT x i=>match cJ e i with
  | .int _ n=>ah1 s aT (cJ e x) n k
  |_=>aW
 | .KH n aT p i=>match cJ e i with
  | .int _ j=>match cJ e p with
   | .bp t m o=>MJ n j 0 λj=>k {v:= .bp t m (o+j*aT)}
   | .cj c o=>MJ n j 0 λj=>k {v:= .cj c (o+j*aT)}
   | .pb t r o=>MJ n j 0 λj=>k {v:= .pb t r (o+j*aT)}
   | .pa t r i a o=>MJ n j 0 λj=>k {v:= .pa t r i a (o+j*aT)}
   |_=>aW
  |_=>aW
 | .idx n aT agg x i=>match cJ e i with
  | .int _ j=>match cJ e x with
   | .agg cs=>MJ n j 0 λj=>qi (GO agg (j*aT) cs) (VZ k)
   |_=>aW
  |_=>aW
 | .Sm x i=>match cJ e i with
  | .int _ j=>match cJ e x with
   | .str t=>pZ (ah0 t j) λb=>k {v:= .int .u8 b}
   |_=>aW
  |_=>aW
 | .Yx aT x lo N mx=>anC e s aT (cJ e x) lo N mx k
 | .clear aT zero x=>abA s z aT zero (cJ e x) k
 | .copy aT x y=>ah3 s z aT (cJ e x) (cJ e y) k
 | .mo aT zero l c=>match cJ e l with
  | .int _ n=>match cJ e c with
   | .int _ m=>jX (n==m) (qi (MI zero) λr=>bif If (D5 r) aT then pZ (rF n (RT.zero r)) λx=>k {v:= .own (D5 s) YB,news:=[.arr r x]}else aW) aW
   |_=>aW
  |_=>aW
 | .km fn a b=>k {v:= .fY fn (og e a) (og e b)}
 | .MW z=>match z with
  |none=>k {v:= .mp (D5 s),news:=[.set []]}
  |some z=>qi (bm z) λp=>k {v:= .mp (D5 s),news:=[.nq p []]}
 | .lookup n zero ok m q=>match cJ e m with
  | .mp t=>match nth s t with
   |some (.set l)=>afn n zero ok t l (cJ e q) k
   |some (.nq p l)=>afo n zero ok t p l (cJ e q) k
   |_=>aW
  |_=>aW
 | .Qx n m q x=>match cJ e m with
  | .mp t=>match nth s t with
   |some (.set l)=>bif has z t then aW else ajC n t l (cJ e q) (cJ e x) k
   |some (.nq p l)=>bif has z t then aW else ajD n t p l (cJ e q) (cJ e x) k
   |_=>aW
  |_=>aW
 | .ext i x=>match cJ e x with
  | .cT vs=>qi (nth vs i) (VZ k)
  |_=>aW
 | .append aT x y=>hmc s z aT (cJ e x) (cJ e y) k
 | .mm uE x xs=>match cJ e x with
  | .int a n=>qi (Uj uE a n (og e xs)) (VZ k)
  |_=>aW
 |_=>aW
end
mutual
def Px(s:J SB)(bx:Nat->O (J SV)):SV->O SV
 | .int k n=>hi (.int k n)
 | .bool b=>hi (.bool b)
 | .str x=>hi (.str x)
 | .fC=>hi .fC
 | .agg cs=>match zA s bx cs with|some l=>hi (.agg l)|none=>h2
 | .cT cs=>match zA s bx cs with|some l=>hi (.cT l)|none=>h2
 | .sl r l=>hi (.sl r l)
 | .nil e _=>hi (.nil e h9)
 | .own t _=>match nth s t with
  |some (.arr r l)=>hi (.sl r l)
  |_=>h2
 | .pre t len _ _=>match nth s t with
  |some (.arr r l)=>hi (.sl r (l.take len))
  |_=>h2
 | .part t off len _ _=>match nth s t with
  |some (.arr r l)=>hi (.sl r ((l.drop off).take len))
  |_=>h2
 | .pa t r _ a off=>match nth s t with
  |some (.arr _ _)=>hi (.cj (RT.sv r a) off)
  |_=>h2
 | .bp t _ off=>match nth s t with
  |some (.box _)=>match bx t with|some l=>hi (.cj l off)|none=>h2
  |_=>h2
 | .cj cs off=>match zA s bx cs with|some l=>hi (.cj l off)|none=>h2
 | .fY f a b=>match zA s bx a,zA s bx b with
  |some x,hi y=>hi (.fY f x y)
  |_,_=>h2
 |_=>h2
def zA(s:J SB)(bx:Nat->O (J SV)):J SV->O (J SV)
 | []=>hi []
 |x::xs=>match Px s bx x,zA s bx xs with
  |some y,hi ys=>hi (y::ys)
  |_,_=>h2
end
def VD(s:J SB)(bx:Nat->O (J SV)):J SV->Bool
 | []=>YB
 |x::xs=>match x with
  | .mp _=>VD s bx xs
  |x=>match Px s bx x with
   |some _=>VD s bx xs
   |none=>h9
def pz(s:J SB):Nat->Nat->O (J SV)
 |0,_=>h2
 |n+1,t=>match nth s t with
  |some (.box cs)=>zA s (pz s n) cs
  |_=>h2
mutual
def Xu(bx:Nat->J Nat):SV->J Nat
 | .agg cs=>yQ bx cs
 | .cT cs=>yQ bx cs
 | .own t _=>[t]
 | .pre t _ _ _=>[t]
 | .part t _ _ _ _=>[t]
 | .pa t _ _ _ _=>t::bx t
 | .pb t _ _=>t::bx t
 | .bp t _ _=>t::bx t
 | .cj cs _=>yQ bx cs
 | .mp t=>[t]
 | .fY _ a b=>yQ bx a++yQ bx b
 |_=>[]
def yQ(bx:Nat->J Nat):J SV->J Nat
 | []=>[]
 |x::xs=>Xu bx x++yQ bx xs
end
def Ek(s:J SB):Nat->Nat->J Nat
 |0,_=>[]
 |n+1,t=>match nth s t with
  |some (.box cs)=>yQ (Ek s n) cs
  |_=>[]
mutual
def SV.sure:SV->Bool
 | .k8=>h9
 | .agg cs=>rG cs
 | .cT cs=>rG cs
 | .cj cs _=>rG cs
 | .fY _ a b=>rG a&&rG b
 |_=>YB
def rG:J SV->Bool
 | []=>YB
 |x::xs=>x.sure&&rG xs
end
mutual
def Hq:SV->Bool
 | .int _ _| .bool _| .str _=>YB
 | .agg cs=>yR cs
 | .cT cs=>yR cs
 |_=>h9
def yR:J SV->Bool
 | []=>YB
 |x::xs=>Hq x&&yR xs
end
mutual
def Xm(s:J SB):SV->O SV
 | .int k n=>hi (.int k n)
 | .bool b=>hi (.bool b)
 | .str x=>hi (.str x)
 | .agg cs=>match VE s cs with|some l=>hi (.agg l)|none=>h2
 | .cT cs=>match VE s cs with|some l=>hi (.cT l)|none=>h2
 | .sl r l=>hi (.sl r l)
 | .nil e _=>hi (.nil e h9)
 | .own t _=>match nth s t with
  |some (.arr r l)=>hi (.sl r l)
  |_=>h2
 | .pre t len _ _=>match nth s t with
  |some (.arr r l)=>hi (.sl r (l.take len))
  |_=>h2
 | .part t off len _ _=>match nth s t with
  |some (.arr r l)=>hi (.sl r ((l.drop off).take len))
  |_=>h2
 |_=>h2
def VE(s:J SB):J SV->O (J SV)
 | []=>hi []
 |x::xs=>match Xm s x,VE s xs with
  |some y,hi ys=>hi (y::ys)
  |_,_=>h2
end
mutual
def Za(s:J SB)(z:J Nat):J Nat->SV->O (SV×J Nat)
 |seen,.int k n=>hi (.int k n,seen)
 |seen,.bool b=>hi (.bool b,seen)
 |seen,.agg cs=>match Tc s z seen cs with|some p=>hi (.agg p.1,p.2)|none=>h2
 |seen,.cT cs=>match Tc s z seen cs with|some p=>hi (.cT p.1,p.2)|none=>h2
 |seen,.nil e c=>bif c then hi (.nil e h9,seen)else h2
 |seen,.own t _=>match nth s t with
  |some (.arr r l)=>bif has seen t||has z t then h2 else hi (.sl r l,t::seen)
  |_=>h2
 |_,_=>h2
def Tc(s:J SB)(z:J Nat):J Nat->J SV->O (J SV×J Nat)
 |seen,[]=>hi ([],seen)
 |seen,x::xs=>match Za s z seen x with
  |some p=>match Tc s z p.2 xs with
   |some q=>hi (p.1::q.1,q.2)
   |none=>h2
  |none=>h2
end
mutual
def EP:Nat->SV->SV×J SB
 |nx,.sl r l=>(.own nx h9,[.arr r l])
 |nx,.nil e _=>(.own nx h9,[.arr (GH e (.i .i64)) []])
 |nx,.agg cs=>(.agg (Bs nx cs).1,(Bs nx cs).2)
 |nx,.cT cs=>(.cT (Bs nx cs).1,(Bs nx cs).2)
 |_,v=>(v,[])
def Bs:Nat->J SV->J SV×J SB
 |_,[]=>([],[])
 |nx,x::xs=>((EP nx x).1::(Bs (nx+(EP nx x).2.length) xs).1,(EP nx x).2++(Bs (nx+(EP nx x).2.length) xs).2)
end
def Q6:SB->J Nat
 | .box cs=>yQ BU cs
 |_=>[]
def F0:SB->Bool
 | .box cs=>rG cs
 |_=>YB
def ML(s:J SB):Nat->J Nat->J Nat->O (J Nat)
 |_,[],seen=>hi seen
 |0,_::_,_=>h2
 |n+1,t::ts,seen=>
  bif has seen t then ML s n ts seen
  else match nth s t with
   |some b=>bif F0 b then ML s n (Q6 b++ts) (seen++[t])else h2
   |none=>h2
mutual
def xM(m:J Nat):SV->O SV
 | .agg cs=>match AE m cs with|some l=>hi (.agg l)|none=>h2
 | .cT cs=>match AE m cs with|some l=>hi (.cT l)|none=>h2
 | .own t ex=>match idxOf t m with|some u=>hi (.own u ex)|none=>h2
 | .pre t len cap ex=>match idxOf t m with|some u=>hi (.pre u len cap ex)|none=>h2
 | .part t off len cap ex=>match idxOf t m with|some u=>hi (.part u off len cap ex)|none=>h2
 | .pa t _ i _ off=>match idxOf t m with|some u=>hi (.pb u i off)|none=>h2
 | .pb t i off=>match idxOf t m with|some u=>hi (.pb u i off)|none=>h2
 | .bp t n off=>match idxOf t m with|some u=>hi (.bp u n off)|none=>h2
 | .cj cs off=>match AE m cs with|some l=>hi (.cj l off)|none=>h2
 | .mp t=>match idxOf t m with|some u=>hi (.mp u)|none=>h2
 | .fY f a b=>match AE m a,AE m b with
  |some x,hi y=>hi (.fY f x y)
  |_,_=>h2
 | .k8=>h2
 |v=>hi v
def AE(m:J Nat):J SV->O (J SV)
 | []=>hi []
 |x::xs=>match xM m x,AE m xs with
  |some y,hi ys=>hi (y::ys)
  |_,_=>h2
end
def VF(m:J Nat):SB->O SB
 | .box cs=>match AE m cs with|some l=>hi (.box l)|none=>h2
 |b=>hi b
def OW(s:J SB)(m:J Nat):J Nat->O (J SB)
 | []=>hi []
 |t::ts=>match nth s t with
  |some b=>match VF m b,OW s m ts with
   |some b',hi r=>hi (b'::r)
   |_,_=>h2
  |none=>h2
def rowOf(rk:J (Nat×J PT))(aT:Nat):J PT:=
 match rk with
 | []=>GH aT (.i .i64)
 |(n,r)::q=>bif If n aT&&If (D5 r) aT then r else rowOf q aT
def Q7:O Nat->SV->SV
 |some _,.own t _=> .own t h9
 |some _,.pre t l c _=> .pre t l c h9
 |some _,.part t o l c _=> .part t o l c h9
 |_,v=>v
def ES(rk:J (Nat×J PT))(e:SE)(m:J Nat):Nat->J (Nat×O Nat)->O (SE×J SB)
 |_,[]=>hi ([],[])
 |nx,(s,k)::r=>
  match k,KV s e with
  |some aT,.nil _ YB=>match ES rk e m (nx+1) r with
   |some p=>hi ((s,.own nx h9)::p.1,.arr (rowOf rk aT) []::p.2)
   |none=>h2
  |_,v=>match xM m v,ES rk e m nx r with
   |some v',hi p=>hi ((s,Q7 k v')::p.1,p.2)
   |_,_=>h2
def MM(rk:J (Nat×J PT))(st:wB)(t c aT:Nat):wB:=
 match nth st.aH t with
 |some (.box cs)=>match nth cs c with
  |some (.nil _ YB)=>{st with aH:=st.aH.set t (.box (cs.set c (.own (D5 st.aH) h9)))++[.arr (rowOf rk aT) []]}
  |_=>st
 |_=>st
def TS:SV->O Nat
 | .bp t _ 0=>hi t
 |_=>h2
def X1:SV->O Nat
 | .fY _ _ (x::_)=>TS x
 |x=>TS x
def wC(rk:J (Nat×J PT)):J (Nat×O Nat)->wB->wB
 | [],st=>st
 |(s,k)::r,st=>match k with
  |some n=>bif Ii 1000 n then(match X1 (KV s st.env)with
   |some t=>wC rk r (MM rk st t (n / 1000-1) (n%1000))
   |none=>wC rk r st)else wC rk r st
  |none=>wC rk r st
def Py(s:J SB)(v:SV):SV:=
 match v with
 | .own t ex=>match nth s t with
  |some (.arr _ l)=> .pre t (D5 l) (D5 l) ex
  |_=>v
 |_=>v
def Xv(s:J SB)(c:Nat):SE->SE
 | []=>[]
 |(t,v)::r=>bif If t c then(t,Py s v)::r else(t,v)::Xv s c r
def IA:J (Nat×O Nat)->wB->wB
 | [],st=>st
 |(t,_)::r,st=>bif Ii 1000000 t then IA r {st with env:=Xv st.aH (t-1000000) st.env}else IA r st
def IB(e:SE):J (Nat×O Nat)->Bool
 | []=>YB
 |(s,_)::r=>(KV s e).sure&&IB e r
def MN(e:SE):J (Nat×O Nat)->J Nat
 | []=>[]
 |(s,_)::r=>Xu BU (KV s e)++MN e r
def VG:J SB->Nat->J Nat
 |b::r,n+1=>Q6 b++VG r n
 |_,_=>[]
def MO:J SB->Nat->Bool
 |b::r,n+1=>F0 b&&MO r n
 |_,_=>YB
def MP(rk:J (Nat×J PT))(live:J (Nat×O Nat))(st:wB):O wB:=
 bif IB st.env live&&MO st.aH st.kn then
  match ML st.aH 4096 (VG st.aH st.kn++MN st.env live) (BV st.kn)with
  |none=>h2
  |some m=>match OW st.aH m m,ES rk st.env m (D5 m) live with
   |some s1,hi (e1,s2)=>hi (IA live (wC rk live {env:=e1,aH:=s1++s2,fz:=Et st.fz 0 m,kn:=st.kn}))
   |_,_=>h2
 else h2
def MQ(rk:J (Nat×J PT))(live:J (Nat×O Nat))(st:wB):O wB:=
 match MP rk live st with
 |some s=>bif live.any λp=>p.2.isSome then MP rk live s else hi s
 |none=>h2
inductive AK where
 |i
 |b
 |n
 |l(r:List PT)
 |s
@[reducible] def AK.T : AK -> Type
  | .i => Int
  | .b => Bool
  | .n => Nat
  | .l r => J (RT r)
  | .s => J (J Int)
@[reducible] def lS : J AK -> Type
  | [] => Unit
  | [a] => a.T
  | a :: q :: r => a.T × lS (q :: r)
inductive Ep where
 |i(n:Int)
 |b(x:Bool)
 |n(x:Nat)
 |l(r:List PT)(x:List (RT r))
 |s(x:List (List Int))
def Ep.k:Ep->AK
 | .i _=> .i
 | .b _=> .b
 | .n _=> .n
 | .l r _=> .l r
 | .s _=> .s
def AK.at:(a:AK)->a.T->Ep
 | .i,x=> .i x
 | .b,x=> .b x
 | .n,x=> .n x
 | .l r,x=> .l r x
 | .s,x=> .s x
def AK.of:(a:AK)->Ep->O a.T
 | .i,.i x=>hi x
 | .b,.b x=>hi x
 | .n,.n x=>hi x
 | .l r,.l q x=>zz q r x
 | .s,.s x=>hi x
 |_,_=>h2
def rH:(ks:J AK)->lS ks->J Ep
 | [],_=>[]
 | [a],x=>[a.at x]
 |a::q::r,x=>a.at x.1::rH (q::r) x.2
def qj:(ks:J AK)->J Ep->O (lS ks)
 | [],[]=>hi ()
 | [a],[x]=>a.of x
 |a::q::r,x::xs=>match a.of x,qj (q::r) xs with
  |some y,hi ys=>hi (y,ys)
  |_,_=>h2
 |_,_=>h2
mutual
def JZ:SV->J Ep
 | .int _ n=>[.i n]
 | .bool b=>[.b b]
 | .agg cs=>J0 cs
 | .cT cs=>J0 cs
 | .sl r l=>[.l r l]
 | .pre _ len cap _=>[.n len,.n cap]
 | .part _ off len cap _=>[.n off,.n len,.n cap]
 | .pb _ i _=>[.i i]
 | .cj cs _=>J0 cs
 | .fY _ a b=>J0 a++J0 b
 |_=>[]
def J0:J SV->J Ep
 | []=>[]
 |x::xs=>JZ x++J0 xs
end
def Wo:SB->J Ep
 | .arr r l=>[.l r l]
 | .box cs=>J0 cs
 | .set l=>[.s l]
 | .nq p l=>[.l [.i .i64,p] l]
 | .dead=>[]
def Q8:J SB->J Ep
 | []=>[]
 |b::r=>Wo b++Q8 r
def Zb:SE->J Ep
 | []=>[]
 |(_,v)::r=>JZ v++Zb r
def uP(st:wB):J Ep:=Zb st.env++Q8 st.aH
mutual
def D':SV->SV->Bool
 | .undef,.undef=>YB
 | .oI,.oI=>YB
 | .fC,.fC=>YB
 | .int k _,.int l _=>iA k l
 | .bool _,.bool _=>YB
 | .agg a,.agg b=>ET a b
 | .cT a,.cT b=>ET a b
 | .sl r _,.sl q _=>Iz r q
 | .nil e c,.nil f d=>If e f&&c==d
 | .own t x,.own u y=>If t u&&x==y
 | .pre t _ _ x,.pre u _ _ y=>If t u&&x==y
 | .part t _ _ _ x,.part u _ _ _ y=>If t u&&x==y
 | .pb t _ o,.pb u _ p=>If t u&&If o p
 | .bp t n o,.bp u m p=>If t u&&If n m&&If o p
 | .cj a o,.cj b p=>ET a b&&If o p
 | .fY f a b,.fY g c d=>If f g&&ET a c&&ET b d
 | .mp t,.mp u=>If t u
 | .k8,.k8=>YB
 |_,_=>h9
def ET:J SV->J SV->Bool
 | [],[]=>YB
 |x::xs,y::ys=>D' x y&&ET xs ys
 |_,_=>h9
end
def ah4:SB->SB->Bool
 | .arr r _,.arr q _=>Iz r q
 | .box a,.box b=>ET a b
 | .set _,.set _=>YB
 | .nq p _,.nq q _=>p.same q
 | .dead,.dead=>YB
 |_,_=>h9
def MR:J SB->J SB->Bool
 | [],[]=>YB
 |x::xs,y::ys=>ah4 x y&&MR xs ys
 |_,_=>h9
def Xw:SE->SE->Bool
 | [],[]=>YB
 |(t,x)::xs,(u,y)::ys=>If t u&&D' x y&&Xw xs ys
 |_,_=>h9
def Xx:J Nat->J Nat->Bool
 | [],[]=>YB
 |x::xs,y::ys=>If x y&&Xx xs ys
 |_,_=>h9
def Hr(a b:wB):Bool:=Xw a.env b.env&&MR a.aH b.aH&&Xx a.fz b.fz&&If a.kn b.kn
mutual
def Bt:SV->J Ep->SV×J Ep
 | .int k _,.i n::q=>(.int k n,q)
 | .bool _,.b x::q=>(.bool x,q)
 | .agg cs,q=>(.agg (yS cs q).1,(yS cs q).2)
 | .cT cs,q=>(.cT (yS cs q).1,(yS cs q).2)
 | .sl _ _,.l r l::q=>(.sl r l,q)
 | .pre t _ _ x,.n len:: .n cap::q=>(.pre t len cap x,q)
 | .part t _ _ _ x,.n off:: .n len:: .n cap::q=>(.part t off len cap x,q)
 | .pb t _ o,.i i::q=>(.pb t i o,q)
 | .cj cs o,q=>(.cj (yS cs q).1 o,(yS cs q).2)
 | .fY f a b,q=>(.fY f (yS a q).1 (yS b (yS a q).2).1,(yS b (yS a q).2).2)
 |v,q=>(v,q)
def yS:J SV->J Ep->J SV×J Ep
 | [],q=>([],q)
 |x::xs,q=>((Bt x q).1::(yS xs (Bt x q).2).1,(yS xs (Bt x q).2).2)
end
def VH:SB->J Ep->SB×J Ep
 | .arr _ _,.l r l::q=>(.arr r l,q)
 | .box cs,q=>(.box (yS cs q).1,(yS cs q).2)
 | .set _,.s l::q=>(.set l,q)
 | .nq _ _,.l [.i .i64,p] l::q=>(.nq p l,q)
 |b,q=>(b,q)
def Hs:J SB->J Ep->J SB×J Ep
 | [],q=>([],q)
 |b::r,q=>((VH b q).1::(Hs r (VH b q).2).1,(Hs r (VH b q).2).2)
def Td:SE->J Ep->SE×J Ep
 | [],q=>([],q)
 |(t,v)::r,q=>((t,(Bt v q).1)::(Td r (Bt v q).2).1,(Td r (Bt v q).2).2)
def Cf(st:wB)(q:J Ep):wB:={st with env:=(Td st.env q).1,aH:=(Hs st.aH (Td st.env q).2).1}
def NF:J Ep->J AK
 | []=>[]
 |a::r=>a.k::NF r
def ptK{β:Type 1}(p:PT)(c:PT->β):β:=
 match p with
 | .i k=>c (.i k)
 | .b=>c .b
def rK{β:Type 1}:J PT->(J PT->β)->β
 | [],c=>c []
 |p::r,c=>ptK p λp=>rK r λr=>c (p::r)
def Xt{β:Type 1}:J AK->(J AK->β)->β
 | [],c=>c []
 | .i::r,c=>Xt r λr=>c (.i::r)
 | .b::r,c=>Xt r λr=>c (.b::r)
 | .n::r,c=>Xt r λr=>c (.n::r)
 | .l q::r,c=>rK q λq=>Xt r λr=>c (.l q::r)
 | .s::r,c=>Xt r λr=>c (.s::r)
mutual
def zB:SV->O PV
 | .int k n=>hi (.int k n)
 | .bool b=>hi (.bool b)
 | .str x=>hi (.str x)
 | .fC=>hi .fC
 | .agg cs=>match yG cs with|some l=>hi (.agg l)|none=>h2
 | .cT cs=>match yG cs with|some l=>hi (.cT l)|none=>h2
 | .sl r l=>hi (.sl (D5 r) h9 (l.map (RT.pv r)))
 | .nil e c=>hi (.sl e c [])
 | .cj cs off=>match yG cs with|some l=>hi (.cj l off)|none=>h2
 | .fY f a b=>match yG a,yG b with
  |some x,hi y=>hi (.fY f x y)
  |_,_=>h2
 |_=>h2
def yG:J SV->O (J PV)
 | []=>hi []
 |x::xs=>match zB x,yG xs with
  |some y,hi ys=>hi (y::ys)
  |_,_=>h2
end
structure bM(α:Type) where
 enc:α->List SV
 dec:List SV->Option (α×List SV)
 law: ∀{vs:List SV} {a:α} {rest:List SV} {ps:List PV},dec vs=hi (a,rest)->yG vs=hi ps-> ∃p q,ps=p++q/\yG (enc a)=hi p/\yG rest=hi q
structure Arg(α:Type) where
 enc:α->SV
 dec:SV->Option α
 law: ∀{v:SV} {a:α} {p:PV},dec v=hi a->zB v=hi p->zB (enc a)=hi p
structure bY(α:Type) where
 enc:α->List SV
 dec:List SV->Option α
 law: ∀{vs:List SV} {a:α} {ps:List PV},dec vs=hi a->yG vs=hi ps->yG (enc a)=hi ps
inductive Kd where
 |pure
 |eT
 |own
structure JB where
 {α β:Type}
 args:bY α
 res:Arg β
 fn:α->Option β
 kd:Kd
 ow:Bool
structure eZ where
 ka:List AK
 ta:List SV
 tb:List SB
 ko:List AK
 tv:SV
 to:List SB
 fn:lS ka->Option (lS ko)
def IC:(p:PT)->PV->O p.T
 | .i k,.int l n=>bif iA l k then hi n else h2
 | .b,.bool x=>hi x
 |_,_=>h2
def OX:(r:J PT)->J PV->O (RT r)
 | [],[]=>hi ()
 | [p],[v]=>IC p v
 |p::q::r,v::vs=>match IC p v,OX (q::r) vs with
  |some a,hi b=>hi (a,b)
  |_,_=>h2
 |_,_=>h2
def KY(r:J PT):J (J PV)->O (J (RT r))
 | []=>hi []
 |x::xs=>match OX r x,KY r xs with
  |some a,hi l=>hi (a::l)
  |_,_=>h2
structure Tt where
 r:List PT
 g:Option FuncId
 fn:List (RT r)->Option (List (RT r))
def VI:Tt:=⟨[.i .i64],h2,Q4⟩
def Li:O FuncId->J PV->Bool
 |none,[]=>YB
 |some g,[.fY h [] []]=>If h g
 |_,_=>h9
def Q9(q:Tt)(args:J PV)(aH:dp)(fz:J Nat):O (PV×dp×J Nat):=
 match args with
 | .own t e off len _ _::r=>match aH[t]? with
  |some (.arr e1 rows)=>if If e (D5 q.r)&&If off 0&&Ii len (D5 rows)&&Ii len gX&&!has fz t&&Li q.g r then
   (match KY q.r (rows.take len)with
   |some l=>match q.fn l with
    |some m=>if If (D5 m) (D5 l)then hi (.cT [],aH.set t (.arr e1 (m.map (RT.pv q.r)++rows.drop len)),fz)else h2
    |none=>h2
   |none=>h2)else h2
  |_=>h2
 |_=>h2
inductive Cd where
 |code(x:ay)
 |ins(aT:Nat)
 |TA(q:Tt)
 |cat
instance:Coe ay Cd:=⟨.code⟩
def Cd.N0:Cd->nz
 | .code x=> .code x
 | .ins n=> .OG (QC n)
 | .TA q=> .OG (Q9 q)
 | .cat=> .OG QA
structure Ctx where
 lp:Option Nat
 zv:FuncId->List JB
 Lj:FuncId->List eZ
 code:FuncId->Option Cd
 rk:List (Nat×List PT)
 hrl:Bool
inductive V' where
 |loc(r:jf)
 |shr(v:SV)(s:List SB)(z:List Nat)
def SV.ajF:SV->Bool
 | .own .. | .pre .. | .part .. | .pa .. | .pb .. | .bp .. | .mp .. =>YB
 |_=>h9
def Ht:J SV->Bool
 | []=>h9
 |x::xs=>x.ajF||Ht xs
mutual
def YX(ts:J Nat):SV->SV
 | .pa t r i a off=>bif has ts t then .pb t i off else .pa t r i a off
 | .agg cs=> .agg (SZ ts cs)
 | .cT cs=> .cT (SZ ts cs)
 | .cj cs off=> .cj (SZ ts cs) off
 | .fY f a b=> .fY f (SZ ts a) (SZ ts b)
 |v=>v
def SZ(ts:J Nat):J SV->J SV
 | []=>[]
 |x::xs=>YX ts x::SZ ts xs
end
def H0(ts:J Nat):SE->SE
 | []=>[]
 |(t,v)::r=>(t,YX ts v)::H0 ts r
def jn(ts:J Nat):SB->SB
 | .box cs=> .box (SZ ts cs)
 |b=>b
def Ly(ts:J Nat):J SB->J SB
 | []=>[]
 |b::r=>jn ts b::Ly ts r
def NG:J SB->Nat->SB->J SB
 | [],_,_=>[]
 |_::r,0,b=>b::r
 |x::r,n+1,b=>x::NG r n b
def zC:J (Nat×SB)->J SB->J SB
 | [],s=>s
 |(t,b)::r,s=>zC r (NG s t b)
def ID:J (Nat×SB)->J Nat
 | []=>[]
 |(t,_)::r=>t::ID r
def Q'(d:O Nat)(v:SV)(e:SE):SE:=
 match d with
 |some t=>(t,v)::e
 |none=>e
def Nh:J SB->J SB->J SB
 | [],l=>l
 |b::r,l=>b::Nh r l
def jf.next(d:O Nat)(st:wB)(r:jf):wB:=
 match r.wr with
 | []=>{env:=Q' d r.v st.env,aH:=Nh st.aH r.news,fz:=r.fr++st.fz,kn:=st.kn}
 |w=>{env:=Q' d r.v (H0 (ID w) st.env),aH:=Nh (Ly (ID w) (zC w st.aH)) r.news,fz:=r.fr++st.fz,kn:=st.kn}
def jf.ok(z:J Nat)(r:jf):Bool:=(ID r.wr).all λt=>!has z t
def jf.tr(nx:Nat)(r:jf):Tr:=
 ⟨r.rd++r.fr,ID r.wr,!r.news.isEmpty,h9,(r.rd++r.fr).all (QK · nx)&&(ID r.wr).all (QK · nx),nx,nx+D5 r.news⟩
def R1:Tr:=⟨[],[],YB,YB,YB,0,0⟩
def yT{R:Type}:J SB->J SB->jS R->jS R
 | [],_,k=>k
 |x::xs,y::ys,k=>match x with
  | .arr r l=>match y with
   | .arr q m=>bif Iz r q then jX (D5 m==D5 l) (yT xs ys k) aW else aW
   | .dead=>yT xs ys k
   |_=>aW
  | .dead=>match y with
   | .dead=>yT xs ys k
   |_=>aW
  | .box _=>match y with
   | .box _=>yT xs ys k
   | .dead=>yT xs ys k
   |_=>aW
  |_=>yT xs ys k
 |_,_,_=>aW
abbrev PB:=FuncId->J SV->J SB->J Nat-> ∀R:Type,(SV->J SB->J Nat->jS R)->jS R
section
variable {R : Type}
def anD(_:FuncId)(_:J SV):jS R:=aW
def as8(_:FuncId)(_:J SV)(_:J SB):jS R:=aW
def VJ(f:FuncId)(m:Bool)(s:J SB)(tk:J Nat)(vs:J SV)(k:V'->jS R):J JB->jS R
 | []=>anD f vs
 |c::r=>match c.args.dec vs with
  |some a=>bif m==c.ow then pZ (c.fn a) λb=>match c.kd with
   | .pure=>k (.loc {v:=c.res.enc b,rd:=tk})
   | .eT=>k (.loc {v:=c.res.enc b,rd:=tk,fr:=tk})
   | .own=>k (.loc {v:=(EP (D5 s) (c.res.enc b)).1,news:=(EP (D5 s) (c.res.enc b)).2,rd:=tk})else VJ f m s tk vs k r
  |none=>VJ f m s tk vs k r
mutual
def Te(g:Nat->Nat):SV->SV
 | .agg cs=> .agg (KZ g cs)
 | .cT cs=> .cT (KZ g cs)
 | .own t ex=> .own (g t) ex
 | .pre t len cap ex=> .pre (g t) len cap ex
 | .part t off len cap ex=> .part (g t) off len cap ex
 | .pa t _ i _ off=> .pb (g t) i off
 | .pb t i off=> .pb (g t) i off
 | .bp t n off=> .bp (g t) n off
 | .cj cs off=> .cj (KZ g cs) off
 | .mp t=> .mp (g t)
 | .fY f a b=> .fY f (KZ g a) (KZ g b)
 |v=>v
def KZ(g:Nat->Nat):J SV->J SV
 | []=>[]
 |x::xs=>Te g x::KZ g xs
end
def Hb(g:Nat->Nat):SB->SB
 | .box cs=> .box (KZ g cs)
 |b=>b
def GQ(g:Nat->Nat):J Nat->J SB->J (Nat×SB)
 |t::r,b::s=>(t,Hb g b)::GQ g r s
 |_,_=>[]
def ah6(k:Nat)(v:SV)(s:J SB):Bool:=(Xu BU v++s.flatMap Q6).all λt=>QK t k
def uV (f : FuncId) (n : Nat) (tk : J Nat) (vs : J SV) (s0 : J SB) (k : V' -> jS R) : J eZ -> jS R
  | [] => as8 f vs s0
  | c :: r => bif ET c.ta vs && MR c.tb s0 then (match qj c.ka (J0 vs ++ Q8 s0) with
      | some a => pZ (c.fn a) fun b =>
          k (.loc { v := Te (oT tk n) (Bt c.tv (rH c.ko b)).1, wr := GQ (oT tk n) tk (Hs c.to (Bt c.tv (rH c.ko b)).2).1 })
      | none => uV f n tk vs s0 k r) else uV f n tk vs s0 k r
def Pz(cx:Ctx)(inl:PB)(e:SE)(s:J SB)(z:J Nat)(op:qd)(k:V'->jS R):jS R:=
 match op with
 | .call m f args=>match m with
  | .Zh=>match zA s (pz s deep) (og e args)with
   |some vs=>VJ f h9 s (yQ (Ek s deep) (og e args)) vs k (cx.zv f)
   |none=>aW
  | .own=>match zA s (pz s deep) (og e args)with
   |some vs=>VJ f YB s (yQ (Ek s deep) (og e args)) vs k (cx.zv f)
   |none=>aW
  | .shr=>inl f (og e args) s z R λv s' z'=>k (.shr v s' z')
  | .fp=>match VD s (pz s deep) (og e args)with
   |false=>aW
   |true=>let tk:=xG (yQ (Ek s deep) (og e args))
    bif tk.all (λt=>!has z t)then(match AE tk (og e args),OW s tk tk with
     |some vs,hi s0=>uV f (D5 s) tk vs s0 k (cx.Lj f)
     |_,_=>aW)else aW
 | .D3 x args=>match cJ e x with
  | .fY f a b=>bif Ht (og e args++b)then inl f (a++og e args++b) s z R λv s' z'=>k (.shr v s' z')
   else match zA s (pz s deep) (a++og e args++b)with
   |some vs=>VJ f h9 s (yQ (Ek s deep) (a++og e args++b)) vs k (cx.zv f)
   |none=>aW
  |_=>aW
 |op=>uD e s z op λr=>k (.loc r)
def Mt(d:O Nat)(st:wB)(tr:J Tr)(k:wB->J Tr->jS R)(x:V'):jS R:=
 match x with
 | .loc r=>bif r.ok st.fz then Wx r.v λv=>k ({r with v}.next d st) (r.tr (D5 st.aH)::tr)else aW
 | .shr v s z=>Wx v λv=>yT st.aH s (bif st.fz.all (has z)then k {env:=Q' d v (H0 (BV (D5 st.aH)) st.env),aH:=s,fz:=z,kn:=st.kn} (R1::tr)else aW)
def wD(cx:Ctx)(inl:PB):J dD->wB->J Tr->(wB->J Tr->jS R)->jS R
 | [],st,tr,k=>k st tr
 |o::r,st,tr,k=>
  let run:=λst:wB=>match o.op with
   | .pick (.t c) a b=>match KV c st.env with
    | .bool x=>jX x (Mt o.dst {st with env:=Ho c (.bool YB) st.env} tr (wD cx inl r · · k) (.loc {v:=cJ st.env a}))
     (Mt o.dst {st with env:=Ho c (.bool h9) st.env} tr (wD cx inl r · · k) (.loc {v:=cJ st.env b}))
    |_=>aW
   |op=>Pz cx inl st.env st.aH st.fz op (Mt o.dst st tr (wD cx inl r · · k))
  let skip:=λst:wB=>wD cx inl r {st with env:=Q' o.dst .oI st.env} (Tr.idle::tr) k
  match o.guard with
  |none=>run st
  |some (s,want)=>match KV s st.env with
   | .bool x=>bif want then jX x (run {st with env:=Ho s (.bool YB) st.env}) (skip {st with env:=Ho s (.bool h9) st.env})
    else jX x (skip {st with env:=Ho s (.bool YB) st.env}) (run {st with env:=Ho s (.bool h9) st.env})
   | .oI=>skip st
   |_=>aW
def Tf(e:SE):J Nat->(SE->jS R)->jS R
 | [],k=>k []
 |s::r,k=>Wx (KV s e) λv=>Tf e r λe'=>k ((s,v)::e')
def jnV:SV->SV->SV
 | .undef,_=> .k8
 |_,v=>v
def PL(o:SE):SE->SE
 | []=>[]
 |(t,v)::r=>(t,jnV (KV t o) v)::PL o r
def jnL(o:SE):J Nat->SE
 | []=>[]
 |t::r=>(t,jnV (KV t o) (KV t o))::jnL o r
def Zc(o:SE)(iH:J Nat)(st:wB):wB:={st with env:=jnL o iH}
def guards:J dD->Nat
 | []=>0
 |o::r=>match o.guard with
  |none=>guards r
  |some _=>guards r+1
def jnC:pg->Bool
 | .seq (.region _ ops _) (.cond _ _ _)=>Ii 8 (guards ops)
 |_=>h9
def TB:pg->J Nat
 | .seq (.region _ _ iH) _=>iH
 |_=>[]
noncomputable def EU (cx:Ctx) (inl:PB):(c:pg)->(R:Type)->wB->(mM->wB->jS R)->jS R
 | .skip,_,st,k=>k .normal st
 | .region d ops iH,_,st,k=>wD cx inl ops st [] fun rT tr=>
  let fin:=Tf rT.env iH fun e=>k .normal {rT with env:=e}
  match d with
  |none=>fin
  |some bf=>match yJ 0 (tr.reverse.zip bf) with
   |true=>fin
   |false=>aW
 | .seq a b,R,st,k=>match cx.hrl&&jnC a with
  |false=>EU cx inl a R st fun e rT=>match e with
   | .normal=>EU cx inl b R rT k
   |e=>k e rT
  |true=>Xt (NF (uP (Zc st.env (TB a) st))) fun ks=>match qj ks (uP (Zc st.env (TB a) st)) with
   |none=>aW
   |some y0=>fun ρ w=>Xq cx.lp (fun y:Bool×lS ks=>jX y.1
    (EU cx inl a (Step (Bool×lS ks) ρ) st fun e Ap=>match e with
     | .normal=>bif Hr (Zc st.env (TB a) st) {Ap with env:=PL st.env Ap.env} then (match qj ks (uP {Ap with env:=PL st.env Ap.env}) with
      |some y'=>KX (.next (h9,y'))
      |none=>aW) else aW
     |e=>fun Er w'=>k e Ap Er fun r=>w' (.done (w r)))
    (fun Er w'=>EU cx inl b R (Cf (Zc st.env (TB a) st) (rH ks y.2)) k Er fun r=>w' (.done (w r))) (Step (Bool×lS ks) ρ) fun z=>z) (YB,y0)
 | .cond c a b,R,st,k=>match cJ st.env c with
  | .bool x=>jX x (EU cx inl a R st k) (EU cx inl b R st k)
  |_=>aW
 | .block id b,R,st,k=>EU cx inl b R st fun e rT=>match e with
  | .exit j=>bif If j id then k .normal rT else k (.exit j) rT
  |e=>k e rT
 | .loop live b,_,st,k=>match MQ cx.rk live st with
  |none=>aW
  |some uz=>Xt (NF (uP uz)) fun ks=>match qj ks (uP uz) with
   |none=>aW
   |some y0=>fun ρ w=>Xq cx.lp (fun y:lS ks=>EU cx inl b (Step (lS ks) ρ) (Cf uz (rH ks y)) (fun e Ap=>match e with
    | .normal=>match MQ cx.rk live Ap with
     |some VK=>bif Hr uz VK then (match qj ks (uP VK) with
      |some y'=>KX (.next y')
      |none=>aW) else aW
     |none=>aW
    |e=>fun Er w'=>k e Ap Er fun r=>w' (.done (w r))) (Step (lS ks) ρ) fun z=>z) y0
 | .exit id,_,st,k=>k (.exit id) st
 | .ret,_,st,k=>k .ret st
def VL(st:wB):RV->O SV
 | .tmp t=>hi (KV t st.env)
 | .cell t agg=>match KV t st.env with
  | .bp t _ off=>match nth st.aH t with
   |some (.box cs)=>GO agg off cs
   |_=>h2
  | .cj cs off=>GO agg off cs
  |_=>h2
def F1(st:wB):J RV->O (J SV)
 | []=>hi []
 |r::rs=>match VL st r,F1 st rs with
  |some v,hi vs=>hi (v::vs)
  |_,_=>h2
def J1:J SV->SV
 | [v]=>v
 |vs=> .cT vs
def VM:Nat->J SV->SE
 |_,[]=>[]
 |i,v::r=>(i,v)::VM (i+1) r
noncomputable def Xy(cx:Ctx)(inl:PB)(x:ay)(R:Type)(args:J SV)(s:J SB)(z:J Nat)(k:SV->J SB->J Nat->jS R):jS R:=
 bif If (D5 args) x.Sn then EU cx inl x.code R {env:=VM 0 args,aH:=s,fz:=z,kn:=D5 s} λe st=>match e with
  | .exit _=>aW
  |_=>match F1 st x.res with
   |some vs=>k (J1 vs) st.aH st.fz
   |none=>aW
 else aW
def jf.tL(s:J SB)(r:jf):J SB:=
 match r.wr with
 | []=>Nh s r.news
 |w=>Nh (Ly (ID w) (zC w s)) r.news
def K0:O FuncId->J SV->Bool
 |none,[]=>YB
 |some g,[.fY h [] []]=>If h g
 |_,_=>h9
structure anE where
 t:Nat
 r:List PT
 l:List (RT r)
 i:Int
 m:List (RT r)
def Uo(aT:Nat)(args:J SV)(s:J SB)(z:J Nat):O anE:=
 match args with
 | [.own t _,.int .i64 i,.own u _]=>match nth s t with
  |some (.arr r l)=>match nth s u with
   |some (.arr q m)=>match zz q r m with
    |some m=>bif If (D5 r) aT&&!Nat.beq t u&&!has z t then hi ⟨t,r,l,i,m⟩else h2
    |none=>h2
   |_=>h2
  |_=>h2
 |_=>h2
def Oy(aT:Nat)(args:J SV)(s:J SB)(z:J Nat)(k:SV->J SB->J Nat->jS R):jS R:=
 match Uo aT args s z with
 |some a=>pZ (FY a.l a.i a.m) λl'=>k (.own (D5 s) h9) (jf.tL s {v:= .own (D5 s) h9,news:=[.arr a.r l'],wr:=[(a.t,.dead)]}) z
 |none=>aW
structure anF where
 t:Nat
 r:List PT
 l:List (RT r)
 m:List (RT r)
def RD(args:J SV)(s:J SB)(z:J Nat):O anF:=
 match args with
 | [.part t off len _ _]=>match nth s t with
  |some (.box [.sl r l,.sl q m])=>match zz q r m with
   |some m=>bif If (D5 r) 1&&If off 0&&If len 2&&!has z t then hi ⟨t,r,l,m⟩else h2
   |none=>h2
  |_=>h2
 |_=>h2
def UJ(args:J SV)(s:J SB)(z:J Nat)(k:SV->J SB->J Nat->jS R):jS R:=
 match RD args s z with
 |some a=>pZ (Y9 a.l a.m) λl'=>k (.own (D5 s) h9) (jf.tL s {v:= .own (D5 s) h9,news:=[.arr a.r l'],wr:=[(a.t,.dead)]}) z
 |none=>aW
def N4(r:J PT)(g:O FuncId)(args:J SV)(s:J SB)(z:J Nat):O (Nat×O Nat×J (RT r)):=
 match args with
 | .own t _::a=>match nth s t with
  |some (.arr q l)=>match zz q r l with
   |some l=>bif !has z t&&K0 g a then hi (t,h2,l)else h2
   |none=>h2
  |_=>h2
 | .pre t len _ _::a=>match nth s t with
  |some (.arr q l)=>match zz q r l with
   |some l=>bif !has z t&&K0 g a then hi (t,hi len,l)else h2
   |none=>h2
  |_=>h2
 |_=>h2
def UK(q:Tt)(args:J SV)(s:J SB)(z:J Nat)(k:SV->J SB->J Nat->jS R):jS R:=
 match N4 q.r q.g args s z with
 |some (t,h2,l)=>pZ (KU q.fn l) λm=>k (.cT []) (jf.tL s {v:= .cT [],wr:=[(t,.arr q.r m)]}) z
 |some (t,hi len,l)=>pZ (FZ q.fn len l) λm=>k (.cT []) (jf.tL s {v:= .cT [],wr:=[(t,.arr q.r m)]}) z
 |none=>aW
noncomputable def Wp(cx:Ctx):Nat->PB
 |0=>λ_ _ _ _ _ _=>aW
 |n+1=>λf args s z R k=>match cx.code f with
  |some (.code x)=>Xy cx (Wp cx n) x R args s z k
  |some (.ins e)=>Oy e args s z k
  |some (.TA q)=>UK q args s z k
  |some .cat=>UJ args s z k
  |none=>aW
def Oz(kd:Kd){β:Type}(res:Arg β)(v:SV)(s:J SB)(z:J Nat):jS β:=
 match kd with
 | .pure=>bif Hq v then qi (res.dec v) KX else aW
 | .eT=>bif Hq v then aW else qi (Xm s v) λu=>qi (res.dec u) KX
 | .own=>qi (Za s z [] v) λu=>qi (res.dec u.1) KX
noncomputable def Xz(cx:Ctx)(x:ay){α β:Type}(args:bY α)(res:Arg β)(kd:Kd)(a:α):O β:=
 Xy cx (Wp cx 8) x β (args.enc a) [] [] (Oz kd res) β λb=>b
def MS:J SB->Bool
 | []=>YB
 |b::r=>F0 b&&MS r
def K1{R:Type}:J SB->J SB->jS R->jS R
 | [],[],k=>k
 |x::xs,y::ys,k=>match x with
  | .arr r l=>match y with
   | .arr q m=>bif Iz r q then jX (D5 m==D5 l) (K1 xs ys k) aW else aW
   |_=>aW
  | .dead=>match y with
   | .dead=>K1 xs ys k
   |_=>aW
  | .box _=>match y with
   | .box _=>K1 xs ys k
   |_=>aW
  | .set _=>match y with
   | .set _=>K1 xs ys k
   |_=>aW
  | .nq _ _=>match y with
   | .nq _ _=>K1 xs ys k
   |_=>aW
 |_,_,_=>aW
noncomputable def as9(wd:Bool)(cx:Ctx)(x:ay)(ka:J AK)(ta:J SV)(tb:J SB)(ko:J AK)(tv:SV)(to:J SB)(a:lS ka):O (lS ko):=
 Xy cx (Wp cx 8) x (lS ko) (yS ta (rH ka a)).1 (Hs tb (yS ta (rH ka a)).2).1 [] (λv s z=>match z with
  | []=>let u:=bif wd then Py s v else v
   let s1:=s.take (D5 tb)
   bif D' tv u&&MR to s1&&ah6 (D5 tb) u s1&&u.sure&&MS s1 then K1 (Hs tb (yS ta (rH ka a)).2).1 s1 (qi (qj ko (JZ u++Q8 s1)) KX)else aW
  |_=>aW) (lS ko) λb=>b
end
end Go.Vm
/- The types of arguments and results, as cells. -/
namespace Go.Vm
theorem wE{r q:J PT}{l:J _}{m:J _}(h:zz r q l=hi m): ∃e:r=q,m=e▸l:=by
 unfold zz at h
 grind
theorem IE{r q:J PT}{l:J _}{m:J _}(h:zz r q l=hi m):r=q/\m.map (RT.pv q)=l.map (RT.pv r)/\D5 m=(D5 l):=by
 grind[wE]
theorem gA{x:SV}{xs:J SV}{ps:J PV}:yG (x::xs)=hi ps↔ ∃p qs,ps=p::qs/\zB x=hi p/\yG xs=hi qs:=by
 simp[yG]
 grind
theorem Hu: ∀{xs ys:J SV} {p q:J PV},yG xs=hi p->yG ys=hi q->yG (xs++ys)=hi (p++q)
 | [],ys,p,q,h,k=>by simp[yG,]at h;subst h;exact k
 |x::xs,ys,p,q,h,k=>by obtain⟨a,as,rfl,D,S⟩:=gA.1 h;exact gA.2 ⟨a,as++q,rfl,D,Hu S k⟩
theorem PT.xg: ∀{p:PT} {v:SV} {a:p.T},p.of v=hi a->v=p.sv a
 | .i k,.int l n,a,h=>by
  simp[PT.of]at h;cases hk:iA l k with
  |false=>grind
  |true=>rw[hk]at h;injection h with h;subst h;rw[hZ.1 hk];rfl
 | .b,.bool x,a,h=>by injection h with h;subst h;rfl
 | .i k,.bool _,a,h=>by cases h
 | .b,.int _ _,a,h=>by cases h
 | .i _,.k8,a,h| .i _,.undef,a,h| .i _,.oI,a,h| .i _,.fC,a,h| .i _,.str _,a,h| .i _,.agg _,a,h| .i _,.cT _,a,h| .i _,.sl _ _,a,h| .i _,.nil _ _,a,h| .i _,.own _ _,a,h| .i _,.pre _ _ _ _,a,h| .i _,.part _ _ _ _ _,a,h| .i _,.pa _ _ _ _ _,a,h| .i _,.pb _ _ _,a,h| .i _,.bp _ _ _,a,h| .i _,.cj _ _,a,h| .i _,.fY _ _ _,a,h| .i _,.mp _,a,h=>by cases h
 | .b,.k8,a,h| .b,.undef,a,h| .b,.oI,a,h| .b,.fC,a,h| .b,.str _,a,h| .b,.agg _,a,h| .b,.cT _,a,h| .b,.sl _ _,a,h| .b,.nil _ _,a,h| .b,.own _ _,a,h| .b,.pre _ _ _ _,a,h| .b,.part _ _ _ _ _,a,h| .b,.pa _ _ _ _ _,a,h| .b,.pb _ _ _,a,h| .b,.bp _ _ _,a,h| .b,.cj _ _,a,h| .b,.fY _ _ _,a,h| .b,.mp _,a,h=>by cases h
theorem RT.xg: ∀{r:J PT} {vs:J SV} {a:RT r},RT.of r vs=hi a->vs=RT.sv r a
 | [],[],a,_=>rfl
 | [p],[v],a,h=>by have:=PT.xg h;rw[this];rfl
 |p::q::r,v::vs,a,h=>by
  simp[RT.of]at h;split at h
  ·rename_i x y D S
   injection h with h;subst h;rw[PT.xg D,RT.xg S];rfl
  cases h
 | [],_::_,a,h=>by simp[RT.of]at h
 | [p],[],a,h=>by simp[RT.of]at h
 | [p],_::_::_,a,h=>by simp[RT.of]at h
 |_::_::_,[],a,h=>by simp[RT.of]at h
theorem PT.PA(p:PT)(a:p.T):zB (p.sv a)=hi (p.pv a):=by cases p<;>rfl
theorem RT.PA: ∀(r:J PT) (a:RT r),yG (RT.sv r a)=hi (RT.pv r a)
 | [],_=>rfl
 | [p],a=>gA.2 ⟨_,_,rfl,PT.PA p a,rfl⟩
 |p::q::r,a=>gA.2 ⟨_,_,rfl,PT.PA p a.1,RT.PA _ a.2⟩
theorem RT.EV: ∀(r:J PT) (a:RT r),(RT.pv r a).length=D5 r
 | [],_=>rfl
 | [p],a=>rfl
 |p::q::r,a=>by simp[RT.pv,RT.EV _ a.2]
theorem RT.Ra: ∀(r:J PT) (a:RT r),(RT.sv r a).length=D5 r
 | [],_=>rfl
 | [p],a=>rfl
 |p::q::r,a=>by simp[RT.sv,RT.Ra _ a.2]
theorem hvv: ∀(n:Nat) {vs:J SV} {ps:J PV},yG vs=hi ps-> ∃p q,ps=p++q/\yG (vs.take n)=hi p/\yG (vs.drop n)=hi q
 |0,vs,ps,h=>⟨[],ps,rfl,by simp[yG],by simpa using h⟩
 |n+1,[],ps,h=>⟨[],ps,rfl,by simp[yG],by simpa using h⟩
 |n+1,v::vs,ps,h=>by obtain⟨p,qs,rfl,D,S⟩:=gA.1 h;obtain⟨a,b,rfl,h3,h4⟩:=hvv n S;exact⟨p::a,b,rfl,by exact gA.2 ⟨p,a,rfl,D,h3⟩,by simpa using h4⟩
def bM.int(k:IntKind):bM Int where
 enc n:=[.int k n]
 dec vs:=match vs with
  | .int l n::r=>bif iA l k then hi (n,r)else h2
  |_=>h2
 law:=λ{vs a rest ps} h hp=>by
  split at h
  ·rename_i l n r
   cases hk:iA l k with
   |false=>rw[hk]at h;cases h
   |true=>rw[hk]at h;simp only[ww,Sw,Mi]at h;obtain⟨rfl,rfl⟩:=h;obtain⟨p,qs,rfl,D,S⟩:=gA.1 hp;rw[hZ.1 hk]at D;exact⟨[p],qs,rfl,gA.2 ⟨p,[],rfl,D,rfl⟩,S⟩
  cases h
def bM.bool:bM Bool where
 enc n:=[.bool n]
 dec vs:=match vs with
  | .bool n::r=>hi (n,r)
  |_=>h2
 law:=λ{vs a rest ps} h hp=>by
  split at h
  ·simp only[Sw,Mi]at h
   obtain⟨rfl,rfl⟩:=h;obtain⟨p,qs,rfl,D,S⟩:=gA.1 hp;exact⟨[p],qs,rfl,gA.2 ⟨p,[],rfl,D,rfl⟩,S⟩
  cases h
def XA(r:J PT):SV->O (J (RT r))
 | .sl q l=>zz q r l
 | .nil e c=>bif If e (D5 r)&&!c then hi []else h2
 |_=>h2
theorem hxs{r:J PT}{v:SV}{l:J _}{p:PV}(h:XA r v=hi l)(hp:zB v=hi p):zB (.sl r l)=hi p:=by
 cases v with
 |sl q m=>obtain⟨rfl,S,_⟩:=IE h;rw[<-hp];simp[zB,S]
 |nil e c=>
  simp[XA]at h;cases hc:(If e (D5 r)&&!c)with
  |false=>grind
  |true=>rw[hc]at h;injection h with h;subst h;simp[]at hc;obtain⟨rfl,rfl⟩:=hc;rw[<-hp];rfl
 |_=>cases h
def bM.sl(r:J PT):bM (J (RT r)) where
 enc l:=[.sl r l]
 dec vs:=match vs with
  |v::rest=>match XA r v with
   |some l=>hi (l,rest)
   |none=>h2
  | []=>h2
 law:=λ{vs a rest ps} h hp=>by
  split at h
  ·split at h
   ·rename_i v r' x l I
    simp only[Sw,Mi]at h;obtain⟨rfl,rfl⟩:=h;obtain⟨p,qs,rfl,D,S⟩:=gA.1 hp;exact⟨[p],qs,rfl,gA.2 ⟨p,[],rfl,hxs I D,rfl⟩,S⟩
   cases h
  cases h
def bM.row(r:J PT):bM (RT r) where
 enc:=RT.sv r
 dec vs:=match RT.of r (vs.take (D5 r))with
  |some a=>hi (a,vs.drop (D5 r))
  |none=>h2
 law:=λ{vs a rest ps} h hp=>by
  split at h
  ·rename_i x X
   simp only[Sw,Mi]at h;obtain⟨rfl,rfl⟩:=h;obtain⟨p,q,rfl,D,S⟩:=hvv (D5 r) hp;rw[RT.xg X]at D;exact⟨p,q,rfl,D,S⟩
  cases h
def bM.prod{α β:Type}(A:bM α)(B:bM β):bM (α×β) where
 enc p:=A.enc p.1++B.enc p.2
 dec vs:=match A.dec vs with
  |some p=>match B.dec p.2 with
   |some q=>hi ((p.1,q.1),q.2)
   |none=>h2
  |none=>h2
 law:=λ{vs a rest ps} h hp=>by
  split at h
  ·rename_i p hA
   split at h
   ·rename_i q hB
    simp only[Sw,Mi]at h;obtain⟨rfl,rfl⟩:=h;obtain⟨p1,p2,rfl,D,S⟩:=A.law (a:=p.1) (rest:=p.2) hA hp;obtain⟨q1,q2,rfl,h3,h4⟩:=B.law (a:=q.1) (rest:=q.2) hB S;exact⟨p1++q1,q2,by simp,Hu D h3,h4⟩
   cases h
  cases h
def bM.K2{α β:Type}(A:bM α)(f:α->β)(g:β->α)(h: ∀a,g (f a)=a):bM β where
 enc b:=A.enc (g b)
 dec vs:=match A.dec vs with
  |some p=>hi (f p.1,p.2)
  |none=>h2
 law:=λ{vs a rest ps} hd hp=>by
  split at hd
  ·rename_i p hA
   simp only[Sw,Mi]at hd;obtain⟨rfl,rfl⟩:=hd;rw[h];exact A.law hA hp
  cases hd
def Arg.int(k:IntKind):Arg Int where
 enc n:= .int k n
 dec v:=match v with
  | .int l n=>bif iA l k then hi n else h2
  |_=>h2
 law:=λ{v a p} h hp=>by
  split at h
  ·rename_i l n
   cases hk:iA l k with
   |false=>rw[hk]at h;cases h
   |true=>rw[hk]at h;injection h with h;subst h;rw[hZ.1 hk]at hp;exact hp
  cases h
def Arg.bool:Arg Bool where
 enc n:= .bool n
 dec v:=match v with
  | .bool n=>hi n
  |_=>h2
 law:=λ{v a p} h hp=>by
  split at h
  ·injection h with h;subst h;exact hp
  cases h
def Arg.sl(r:J PT):Arg (J (RT r)) where
 enc l:= .sl r l
 dec:=XA r
 law:=hxs
def Arg.agg{α:Type}(A:bM α):Arg α where
 enc a:= .agg (A.enc a)
 dec v:=match v with
  | .agg cs=>match A.dec cs with
   |some p=>match p.2 with
    | []=>hi p.1
    |_=>h2
   |none=>h2
  |_=>h2
 law:=λ{v a p} h hp=>by
  split at h
  ·rename_i cs
   split at h
   ·rename_i q hA
    obtain⟨x,rest⟩:=q;dsimp only at h;cases rest with
    |cons _ _=>cases h
    |nil=>
     injection h with h;subst h;simp only[zB]at hp;cases hc:yG cs with
     |none=>rw[hc]at hp;cases hp
     |some l=>rw[hc]at hp;injection hp with hp;subst hp;obtain⟨p1,p2,rfl,D,S⟩:=A.law hA hc;simp only[yG,Sw]at S;subst S;simp only[zB,D,YF]
   cases h
  cases h
def Arg.ref{α:Type}(A:bM α):Arg α where
 enc a:= .cj (A.enc a) 0
 dec v:=match v with
  | .cj cs 0=>match A.dec cs with
   |some p=>match p.2 with
    | []=>hi p.1
    |_=>h2
   |none=>h2
  |_=>h2
 law:=λ{v a p} h hp=>by
  split at h
  ·rename_i cs
   split at h
   ·rename_i q hA
    obtain⟨x,rest⟩:=q;dsimp only at h;cases rest with
    |cons _ _=>cases h
    |nil=>
     injection h with h;subst h;simp only[zB]at hp;cases hc:yG cs with
     |none=>rw[hc]at hp;cases hp
     |some l=>rw[hc]at hp;injection hp with hp;subst hp;obtain⟨p1,p2,rfl,D,S⟩:=A.law hA hc;simp only[yG,Sw]at S;subst S;simp only[zB,D,YF]
   cases h
  cases h
def bY.nil:bY Unit where
 enc _:=[]
 dec vs:=match vs with
  | []=>hi ()
  |_=>h2
 law:=λ{vs a ps} h hp=>by
  split at h
  ·exact hp
  cases h
def bY.one{α:Type}(A:Arg α):bY α where
 enc a:=[A.enc a]
 dec vs:=match vs with
  | [v]=>A.dec v
  |_=>h2
 law:=λ{vs a ps} h hp=>by
  split at h
  ·obtain⟨p,qs,rfl,D,S⟩:=gA.1 hp
   exact gA.2 ⟨p,qs,rfl,A.law h D,S⟩
  cases h
def bY.cons{α β:Type}(A:Arg α)(B:bY β):bY (α×β) where
 enc a:=A.enc a.1::B.enc a.2
 dec vs:=match vs with
  |v::r=>match A.dec v with
   |some x=>match B.dec r with
    |some y=>hi (x,y)
    |none=>h2
   |none=>h2
  | []=>h2
 law:=λ{vs a ps} h hp=>by
  split at h
  ·split at h
   ·rename_i x X
    split at h
    ·rename_i y hy
     injection h with h;subst h;obtain⟨p,qs,rfl,D,S⟩:=gA.1 hp;exact gA.2 ⟨p,qs,rfl,A.law X D,B.law hy S⟩
    cases h
   cases h
  cases h
def Arg.cT{α:Type}(A:bY α):Arg α where
 enc a:= .cT (A.enc a)
 dec v:=match v with
  | .cT vs=>A.dec vs
  |_=>h2
 law:=λ{v a p} h hp=>by
  split at h
  ·rename_i vs
   simp only[zB]at hp;cases hc:yG vs with
   |none=>rw[hc]at hp;cases hp
   |some l=>rw[hc]at hp;injection hp with hp;subst hp;simp only[zB,A.law h hc]
  cases h
def Arg.fY{α:Type}(f:FuncId)(A:bY α):Arg α where
 enc a:= .fY f [] (A.enc a)
 dec v:=match v with
  | .fY g [] b=>bif If g f then A.dec b else h2
  |_=>h2
 law:=λ{v a p} h hp=>by
  split at h
  ·rename_i g b
   cases hg:If g f with
   |false=>rw[hg]at h;cases h
   |true=>
    rw[hg]at h;have:=Nat.eq_of_beq_eq_true hg;subst this;simp only[zB,yG]at hp ⊢;cases hc:yG b with
    |none=>rw[hc]at hp;cases hp
    |some l=>rw[hc]at hp;rw[A.law h hc];exact hp
  cases h
def JB.rows{α:Type}(A:Arg α)(q r:J PT)(g:α->J (RT q))(fn:J (RT q)->O (J (RT r))):JB:=⟨.one A,.sl r,λa=>fn (g a),.own,h9⟩
def JB.clone(r:J PT):JB:=⟨.one (.sl r),.sl r,bL,.own,h9⟩
def wF(a b c:Int):O (Int×Int):=bif Mr (0<=a)&&Mr (0<=b)&&Mr (0<=c)&&Mr (c<=1)then hi ((a+b+c)%18446744073709551616,(a+b+c) / 18446744073709551616)else h2
def JB.XB:JB:=⟨.cons (.int .u64) (.cons (.int .u64) (.one (.int .u64))),.cT (.cons (.int .u64) (.one (.int .u64))),λa=>wF a.1 a.2.1 a.2.2,.pure,h9⟩
def Tg:J (Nat×JB)->FuncId->J JB
 | [],_=>[]
 |(g,c)::r,f=>bif If g f then c::Tg r f else Tg r f
def Th:J (Nat×eZ)->FuncId->J eZ
 | [],_=>[]
 |(g,c)::r,f=>bif If g f then c::Th r f else Th r f
def Rb:J (Nat×Cd)->FuncId->O Cd
 | [],_=>h2
 |(g,c)::r,f=>bif If g f then hi c else Rb r f
def xN(lp:O Nat)(c:J (Nat×JB))(p:J (Nat×eZ))(x:J (Nat×Cd))(rk:J (Nat×J PT)):Ctx:=⟨lp,Tg c,Th p,Rb x,rk,h9⟩
end Go.Vm
/- What a typed value says of a value of the logical machine. -/
namespace Go.Vm
def OwnAt(s:J SB)(t e n:Nat):Prop:=(∃r l,s[t]? =hi (.arr r l)/\e=D5 r/\n=D5 l)\/s[t]? =hi .dead
def GR(s:J SB)(t e:Nat):Prop:=(∃r l,s[t]? =hi (.arr r l)/\e=D5 r)\/s[t]? =hi .dead\/(∃cs,s[t]? =hi (.box cs)/\e=1)
def H5(s:J SB)(t:Nat)(r:J PT)(i:Int)(a:RT r):Prop:=(∃l,s[t]? =hi (.arr r l)/\az l i=hi a)\/s[t]? =hi .dead
def OA(s:J SB)(t:Nat)(i:Int):Prop:=(∃r l,s[t]? =hi (.arr r l)/\(az l i).isSome=YB)\/s[t]? =hi .dead
mutual
def R(s:J SB):SV->PV->Prop
 | .k8,_=>True
 | .undef,v=>v= .undef
 | .oI,v=>v= .oI
 | .fC,v=>v= .fC
 | .int k n,v=>v= .int k n
 | .bool b,v=>v= .bool b
 | .str x,v=>v= .str x
 | .agg cs,v=> ∃ps,v= .agg ps/\RL s cs ps
 | .cT cs,v=> ∃ps,v= .cT ps/\RL s cs ps
 | .sl r l,v=>v= .sl (D5 r) h9 (l.map (RT.pv r))
 | .nil e c,v=>v= .sl e c []
 | .own t ex,v=> ∃e n,v= .own t e 0 n n ex/\OwnAt s t e n
 | .pre t len cap ex,v=> ∃e,v= .own t e 0 len cap ex/\GR s t e
 | .part t off len cap ex,v=> ∃e,v= .own t e off len cap ex/\GR s t e
 | .pa t r i a off,v=>v= .ptr t (D5 r) i.toNat off/\H5 s t r i a
 | .pb t i off,v=> ∃e,v= .ptr t e i.toNat off/\OA s t i
 | .bp t n off,v=>v= .ptr t n 0 off
 | .cj cs off,v=> ∃ps,v= .cj ps off/\RL s cs ps
 | .fY f a b,v=> ∃pa pb,v= .fY f pa pb/\RL s a pa/\RL s b pb
 | .mp t,v=>v= .mp t
def RL(s:J SB):J SV->J PV->Prop
 | [],ps=>ps=[]
 |x::xs,ps=> ∃p q,ps=p::q/\R s x p/\RL s xs q
end
def Aq:J Int->PV
 | [a]=> .int .i64 a
 |l=> .agg (l.map (.int .i64))
def J2(k:J Int):PV×PV:=(Aq k,.bool YB)
def MT(p:PT)(a:RT [.i .i64,p]):PV×PV:=(.int .i64 a.1,p.pv a.2)
def RB(s:J SB):SB->pT->Prop
 | .arr r l,b=>b= .arr (D5 r) (l.map (RT.pv r))
 | .box cs,b=> ∃ps,b= .box ps/\RL s cs ps
 | .set l,b=>b= .map (l.map J2)
 | .nq p l,b=>b= .map (l.map (MT p))
 | .dead,b=>b= .dead
structure dj(s:List SB)(p:dp):Prop where
 len:(D5 p)=D5 s
 at_: ∀(t:Nat) (b:SB),s[t]? =hi b-> ∃q,p[t]? =hi q/\RB s b q
def fx(s:J SB):SE->Env->Prop
 | [],e=>e=[]
 |(t,v)::r,e=> ∃p q,e=(t,p)::q/\R s v p/\fx s r q
structure F2(st:wB)(p:St):Prop where
 env:fx st.aH st.env p.env
 aH:dj st.aH p.aH
 fz:p.fz=st.fz
 kn:p.kn=st.kn
theorem rL: ∀(s l:J SB),Nh s l=s++l
 | [],_=>rfl
 |b::r,l=>by simp[Nh,rL r l]
theorem IF: ∀(s:J SB) (t:Nat) (b:SB),NG s t b=s.set t b
 | [],_,_=>by simp[NG]
 |_::_,0,_=>rfl
 |x::r,n+1,b=>by simp[NG,IF r n b]
theorem RL.nil{s:J SB}:RL s [] []:=rfl
theorem RL.cons{s:J SB}{x:SV}{xs:J SV}{p:PV}{q:J PV}(h:R s x p)(k:RL s xs q):RL s (x::xs) (p::q):=⟨p,q,rfl,h,k⟩
theorem RL.cons_inv{s:J SB}{x:SV}{xs:J SV}{ps:J PV}(h:RL s (x::xs) ps): ∃p q,ps=p::q/\R s x p/\RL s xs q:=h
theorem RL.sG{s:J SB}: ∀{xs:J SV} {ps:J PV},RL s xs ps->D5 ps=D5 xs
 | [],ps,h=>by rw[h];rfl
 |x::xs,ps,h=>by obtain⟨p,q,rfl,_,S⟩:=h.cons_inv;simp[S.sG]
theorem RL.append{s:J SB}: ∀{xs:J SV} {ps:J PV},RL s xs ps-> ∀{ys:J SV} {qs:J PV},RL s ys qs->RL s (xs++ys) (ps++qs)
 | [],ps,h,_,_,k=>by rw[h];exact k
 |x::xs,ps,h,_,_,k=>by obtain⟨p,q,rfl,D,S⟩:=h.cons_inv;exact RL.cons D (S.append k)
theorem RL.take{s:J SB}: ∀{xs:J SV} {ps:J PV},RL s xs ps-> ∀n,RL s (xs.take n) (ps.take n)
 | [],ps,h,n=>by rw[h];simp;exact RL.nil
 |x::xs,ps,h,0=>by rfl
 |x::xs,ps,h,n+1=>by obtain⟨p,q,rfl,D,S⟩:=h.cons_inv;exact RL.cons D (S.take n)
theorem RL.drop{s:J SB}: ∀{xs:J SV} {ps:J PV},RL s xs ps-> ∀n,RL s (xs.drop n) (ps.drop n)
 | [],ps,h,n=>by rw[h];simp;exact RL.nil
 |x::xs,ps,h,0=>h
 |x::xs,ps,h,n+1=>by obtain⟨p,q,rfl,D,S⟩:=h.cons_inv;exact S.drop n
theorem RL.nth{s:J SB}: ∀{xs:J SV} {ps:J PV},RL s xs ps-> ∀{n:Nat} {v:SV},Vm.nth xs n=hi v-> ∃p,ps[n]? =hi p/\R s v p
 | [],_,_,_,_,e=>by cases e
 |x::xs,ps,h,0,v,e=>by obtain⟨p,q,rfl,D,_⟩:=h.cons_inv;injection e with e;grind
 |x::xs,ps,h,n+1,v,e=>by
  obtain⟨p,q,rfl,_,S⟩:=h.cons_inv;obtain⟨p',h3,h4⟩:=S.nth e
  grind
mutual
theorem VN(s:J SB): ∀v:PV,R s (su v) v
 | .undef=>rfl
 | .oI=>rfl
 | .fC=>rfl
 | .int _ _=>rfl
 | .bool _=>rfl
 | .str _=>rfl
 | .agg cs=>⟨cs,rfl,C1 s cs⟩
 | .cT cs=>⟨cs,rfl,C1 s cs⟩
 | .sl e c rows=>by
  cases rows with
  |nil=>exact rfl
  |cons _ _=>trivial
 | .fY f a b=>⟨a,b,rfl,C1 s a,C1 s b⟩
 | .own .. =>trivial
 | .ptr .. =>trivial
 | .cj .. =>trivial
 | .mp _=>trivial
theorem C1(s:J SB): ∀l:J PV,RL s (KW l) l
 | []=>rfl
 |x::xs=>RL.cons (VN s x) (C1 s xs)
end
theorem fx.lk{s:J SB}: ∀{e:SE} {p:Env},fx s e p-> ∀t,R s (KV t e) (Vm.lk t p)
 | [],p,h,t=>by rw[h];rfl
 |(u,v)::r,p,h,t=>by
  obtain⟨q,qs,rfl,D,S⟩:=h;simp only[KV,Vm.lk];cases hb:If u t with
  |true=>exact D
  |false=>exact fx.lk S t
theorem fx.Ho{s:J SB}: ∀{e:SE} {p:Env},fx s e p-> ∀{t:Nat} {v:SV},R s v (Vm.lk t p)->fx s (Vm.Ho t v e) p
 | [],p,h,t,v,_=>h
 |(u,x)::r,p,h,t,v,hv=>by
  obtain⟨q,qs,rfl,D,S⟩:=h;simp[Vm.Ho];simp only[Vm.lk]at hv;cases hb:If u t with
  |true=>rw[hb]at hv;exact⟨q,qs,rfl,hv,S⟩
  |false=>rw[hb]at hv;exact⟨q,qs,rfl,D,fx.Ho S hv⟩
theorem fb{s:J SB}{e:SE}{p:Env}(h:fx s e p): ∀x:jd,R s (cJ e x) (x.ev p)
 | .t n=>h.lk n
 | .c v=>VN s v
theorem F3{s:J SB}{e:SE}{p:Env}(h:fx s e p): ∀l:J jd,RL s (og e l) (U8 p l)
 | []=>rfl
 |x::xs=>RL.cons (fb h x) (F3 h xs)
def Fr(bad:J Nat)(s s':J SB):Prop:= ∀(t:Nat) (b:SB),s[t]? =hi b->match b with
 | .arr r l=>(∃l',s'[t]? =hi (.arr r l')/\D5 l'=D5 l/\(has bad t=h9->l'=l))\/s'[t]? =hi .dead
 | .dead=>s'[t]? =hi .dead
 | .box _=>(∃cs,s'[t]? =hi (.box cs))\/s'[t]? =hi .dead
 |_=>True
theorem Fr.refl(bad:J Nat)(s:J SB):Fr bad s s:=λt b h=>by
 grind
theorem Fr.app(bad:J Nat)(s l:J SB):Fr bad s (s++l):=λt b h=>by
 grind
theorem Fr.trans{bad:J Nat}{a b c:J SB}(h:Fr bad a b)(k:Fr bad b c):Fr bad a c:=λt x X=>by
 have D:=h t x X;cases x with
 |arr r l=>
  rcases D with⟨l',S,h3,h4⟩|S
  ·have k1:=k t _ S
   grind
  exact .inr (k t _ S)
 |dead=>exact k t _ D
 |box cs=>
  rcases D with⟨c2,S⟩|S
  ·exact k t _ S
  exact .inr (k t _ S)
 |_=>trivial
theorem hfz{α:Type}{l m:J α}{i:Int}(h:(az l i).isSome=YB)(I:(D5 m)=D5 l):(az m i).isSome=YB:=by
 cases i with
 |ofNat n=>
  simp[az]at h ⊢
  grind
 |negSucc n=>simp[az]at h
mutual
theorem R.fr{bad:J Nat}{s s':J SB}(hf:Fr bad s s'): ∀{v:SV} {p:PV},R s v p->R s' (YX bad v) p
 | .k8,_,_=>trivial
 | .undef,_,h=>h
 | .oI,_,h=>h
 | .fC,_,h=>h
 | .int _ _,_,h=>h
 | .bool _,_,h=>h
 | .str _,_,h=>h
 | .agg cs,_,h=>by obtain⟨ps,rfl,h⟩:=h;exact⟨ps,rfl,RL.fr hf h⟩
 | .cT cs,_,h=>by obtain⟨ps,rfl,h⟩:=h;exact⟨ps,rfl,RL.fr hf h⟩
 | .sl _ _,_,h=>h
 | .nil _ _,_,h=>h
 | .own t ex,_,h=>by
  obtain⟨e,n,rfl,h⟩:=h;refine⟨e,n,rfl,?_⟩;rcases h with⟨r,l,D,S,h3⟩|D
  ·rcases hf t _ D with⟨l',k1,k2,_⟩|k1
   ·exact .inl ⟨r,l',k1,S,by rw[h3,k2]⟩
   exact .inr k1
  exact .inr (hf t _ D)
 | .pre t len cap ex,_,h=>by
  obtain⟨e,rfl,h⟩:=h;refine⟨e,rfl,?_⟩;rcases h with⟨r,l,D,S⟩|D|⟨cs,D,S⟩
  ·rcases hf t _ D with⟨l',k1,_,_⟩|k1
   ·exact .inl ⟨r,l',k1,S⟩
   exact .inr (.inl k1)
  ·exact .inr (.inl (hf t _ D))
  rcases hf t _ D with⟨c2,k1⟩|k1
  ·exact .inr (.inr ⟨c2,k1,S⟩)
  exact .inr (.inl k1)
 | .part t off len cap ex,_,h=>by
  obtain⟨e,rfl,h⟩:=h;refine⟨e,rfl,?_⟩;rcases h with⟨r,l,D,S⟩|D|⟨cs,D,S⟩
  ·rcases hf t _ D with⟨l',k1,_,_⟩|k1
   ·exact .inl ⟨r,l',k1,S⟩
   exact .inr (.inl k1)
  ·exact .inr (.inl (hf t _ D))
  rcases hf t _ D with⟨c2,k1⟩|k1
  ·exact .inr (.inr ⟨c2,k1,S⟩)
  exact .inr (.inl k1)
 | .pa t r i a off,_,h=>by
  obtain⟨rfl,h⟩:=h;simp[YX];cases hb:has bad t with
  |true=>
   refine⟨_,rfl,?_⟩;rcases h with⟨l,D,S⟩|D
   ·rcases hf t _ D with⟨l',k1,k2,_⟩|k1
    ·exact .inl ⟨r,l',k1,hfz (by rw[S];rfl) k2⟩
    exact .inr k1
   exact .inr (hf t _ D)
  |false=>
   refine⟨rfl,?_⟩;rcases h with⟨l,D,S⟩|D
   ·rcases hf t _ D with⟨l',k1,_,k3⟩|k1
    ·exact .inl ⟨l',k1,by grind⟩
    exact .inr k1
   exact .inr (hf t _ D)
 | .pb t i off,_,h=>by
  obtain⟨e,rfl,h⟩:=h;refine⟨e,rfl,?_⟩;rcases h with⟨r,l,D,S⟩|D
  ·rcases hf t _ D with⟨l',k1,k2,_⟩|k1
   ·exact .inl ⟨r,l',k1,hfz S k2⟩
   exact .inr k1
  exact .inr (hf t _ D)
 | .bp _ _ _,_,h=>h
 | .cj cs off,_,h=>by obtain⟨ps,rfl,h⟩:=h;exact⟨ps,rfl,RL.fr hf h⟩
 | .fY f a b,_,h=>by obtain⟨pa,pb,rfl,D,S⟩:=h;exact⟨pa,pb,rfl,RL.fr hf D,RL.fr hf S⟩
 | .mp _,_,h=>h
theorem RL.fr{bad:J Nat}{s s':J SB}(hf:Fr bad s s'): ∀{v:J SV} {p:J PV},RL s v p->RL s' (SZ bad v) p
 | [],_,h=>h
 |x::xs,_,h=>by obtain⟨p,q,rfl,D,S⟩:=h.cons_inv;exact RL.cons (R.fr hf D) (RL.fr hf S)
end
mutual
theorem hcp: ∀v:SV,YX [] v=v
 | .k8| .undef| .oI| .fC| .int _ _| .bool _| .str _| .sl _ _| .nil _ _| .own _ _| .pre _ _ _ _| .part _ _ _ _ _| .pb _ _ _| .bp _ _ _| .mp _=>rfl
 | .agg cs=>by simp[YX,AF cs]
 | .cT cs=>by simp[YX,AF cs]
 | .cj cs _=>by simp[YX,AF cs]
 | .fY _ a b=>by simp[YX,AF a,AF b]
 | .pa t r i a off=>by simp[YX,has]
theorem AF: ∀v:J SV,SZ [] v=v
 | []=>rfl
 |x::xs=>by simp[SZ,hcp x,AF xs]
end
theorem R.ext{s s':J SB}(hf:Fr [] s s'){v:SV}{p:PV}(h:R s v p):R s' v p:=by
 have:=R.fr hf h
 rwa [hcp]at this
theorem RL.ext{s s':J SB}(hf:Fr [] s s'){v:J SV}{p:J PV}(h:RL s v p):RL s' v p:=by
 have:=RL.fr hf h
 rwa [AF]at this
theorem RB.fr{bad:J Nat}{s s':J SB}(hf:Fr bad s s'){b:SB}{p:pT}(h:RB s b p):RB s' (jn bad b) p:=by
 cases b with
 |box cs=>obtain⟨ps,rfl,h⟩:=h;exact⟨ps,rfl,RL.fr hf h⟩
 |_=>exact h
theorem RB.ext{s s':J SB}(hf:Fr [] s s'){b:SB}{p:pT}(h:RB s b p):RB s' b p:=by
 cases b with
 |box cs=>obtain⟨ps,rfl,h⟩:=h;exact⟨ps,rfl,RL.ext hf h⟩
 |_=>exact h
theorem fx.fr{bad:J Nat}{s s':J SB}(hf:Fr bad s s'): ∀{e:SE} {p:Env},fx s e p->fx s' (H0 bad e) p
 | [],_,h=>h
 |(t,v)::r,_,h=>by obtain⟨p,q,rfl,D,S⟩:=h;exact⟨p,q,rfl,R.fr hf D,fx.fr hf S⟩
theorem fx.ext{s s':J SB}(hf:Fr [] s s'): ∀{e:SE} {p:Env},fx s e p->fx s' e p
 | [],_,h=>h
 |(t,v)::r,_,h=>by obtain⟨p,q,rfl,D,S⟩:=h;exact⟨p,q,rfl,R.ext hf D,fx.ext hf S⟩
theorem dj.app{s:J SB}{p:dp}(h:dj s p){l:J SB}{q:dp}(I:(D5 q)=D5 l)(hb: ∀(j:Nat) (b:SB),l[j]? =hi b-> ∃x,q[j]? =hi x/\RB (s++l) b x):dj (s++l) (p++q) where
 len:=by simp[h.len,I]
 at_:=λt b ht=>by
  rcases KJ t (D5 s)with iY|Q0
  ·rw[PP iY]at ht
   obtain⟨x,D,S⟩:=h.at_ t b ht;exact⟨x,by grind,S.ext (Fr.app [] s l)⟩
  rw[Pc Q0]at ht
  obtain⟨x,D,S⟩:=hb _ b ht;exact⟨x,by rw[Pc (by rw[h.len];exact Q0),h.len];exact D,S⟩
theorem yU(ts:J Nat): ∀(s:J SB) (t:Nat),(Ly ts s)[t]? =(s[t]?).map (jn ts)
 | [],t=>by simp[Ly]
 |b::r,0=>by simp[Ly]
 |b::r,t+1=>by simp[Ly,yU ts r t]
theorem C2(ts:J Nat): ∀(s:J SB),(Ly ts s).length=D5 s
 | []=>rfl
 |b::r=>by simp[Ly,C2 ts r]
theorem Fr.dg{bad ts:J Nat}{s s':J SB}(h:Fr bad s s'):Fr bad s (Ly ts s'):=λt b hb=>by
 have D:=h t b hb;cases b with
 |arr r l=>
  rcases D with⟨l',S,h3,h4⟩|S
  ·exact .inl ⟨l',by rw[yU,S];rfl,h3,h4⟩
  exact .inr (by rw[yU,S];rfl)
 |dead=>rw[yU,D];rfl
 |box cs=>
  rcases D with⟨c2,S⟩|S
  ·exact .inl ⟨SZ ts c2,by rw[yU,S];rfl⟩
  exact .inr (by rw[yU,S];rfl)
 |_=>trivial
theorem PD{s:J SB}: ∀(r:J PT) (a:RT r),RL s (RT.sv r a) (RT.pv r a)
 | [],_=>rfl
 | [p],a=>by refine RL.cons ?_ RL.nil;cases p<;>rfl
 |p::q::r,a=>by refine RL.cons ?_ (PD (q::r) a.2);cases p<;>rfl
theorem F4{s:J SB}: ∀(r:J PT) (a:RT r) {ps:J PV},RL s (RT.sv r a) ps->ps=RT.pv r a
 | [],_,ps,h=>h
 | [p],a,ps,h=>by obtain⟨x,q,rfl,D,S⟩:=h.cons_inv;have Vq:=S;subst Vq;cases p<;>(have Pn:=D;rw[Pn];rfl)
 |p::q::r,a,ps,h=>by obtain⟨x,qs,rfl,D,S⟩:=h.cons_inv;rw[F4 _ a.2 S];cases p<;>(have Pn:=D;rw[Pn];rfl)
theorem RT.plain: ∀(r:J PT) (a:RT r),(RT.pv r a).all PV.plain=YB
 | [],_=>rfl
 | [p],a=>by cases p<;>rfl
 |p::q::r,a=>by have:=RT.plain _ a.2;cases p<;>(assumption)
theorem R.cells{s:J SB}{v:SV}{p:PV}(h:R s v p)(hj:v≠ .k8):RL s v.cells p.cells:=by
 cases v with
 |k8=>grind
 |agg cs=>obtain⟨ps,rfl,h⟩:=h;exact h
 |undef=>rw[h];exact RL.cons rfl RL.nil
 |oI=>rw[h];exact RL.cons rfl RL.nil
 |fC=>rw[h];exact RL.cons rfl RL.nil
 |int k n=>rw[h];exact RL.cons rfl RL.nil
 |bool b=>rw[h];exact RL.cons rfl RL.nil
 |str x=>rw[h];exact RL.cons rfl RL.nil
 |sl r l=>rw[h];exact RL.cons rfl RL.nil
 |nil e c=>rw[h];exact RL.cons rfl RL.nil
 |bp t n o=>rw[h];exact RL.cons rfl RL.nil
 |mp t=>rw[h];exact RL.cons rfl RL.nil
 |cT cs=>obtain⟨ps,rfl,h⟩:=h;exact RL.cons ⟨ps,rfl,h⟩ RL.nil
 |own t ex=>obtain⟨e,n,rfl,h⟩:=h;exact RL.cons ⟨e,n,rfl,h⟩ RL.nil
 |pre t a b c=>obtain⟨e,rfl,h⟩:=h;exact RL.cons ⟨e,rfl,h⟩ RL.nil
 |part t o a b c=>obtain⟨e,rfl,h⟩:=h;exact RL.cons ⟨e,rfl,h⟩ RL.nil
 |pa t r i a o=>obtain⟨rfl,h⟩:=h;exact RL.cons ⟨rfl,h⟩ RL.nil
 |pb t i o=>obtain⟨e,rfl,h⟩:=h;exact RL.cons ⟨e,rfl,h⟩ RL.nil
 |cj cs o=>obtain⟨ps,rfl,h⟩:=h;exact RL.cons ⟨ps,rfl,h⟩ RL.nil
 |fY f a b=>obtain⟨pa,pb,rfl,h⟩:=h;exact RL.cons ⟨pa,pb,rfl,h⟩ RL.nil
theorem R.yA{s:J SB}{v:SV}{p:PV}(h:R s v p)(ho:v.yA=YB):p.yA=YB:=by
 cases v with
 |k8|undef|oI|agg _|cT _=>cases ho
 |fC|int _ _|bool _|str _|sl _ _|nil _ _|bp _ _ _|mp _=>rw[h];rfl
 |own t ex=>obtain⟨e,n,rfl,h⟩:=h;rfl
 |pre t a b c=>obtain⟨e,rfl,h⟩:=h;rfl
 |part t o a b c=>obtain⟨e,rfl,h⟩:=h;rfl
 |pa t r i a o=>obtain⟨rfl,h⟩:=h;rfl
 |pb t i o=>obtain⟨e,rfl,h⟩:=h;rfl
 |cj cs o=>obtain⟨ps,rfl,h⟩:=h;rfl
 |fY f a b=>obtain⟨pa,pb,rfl,h⟩:=h;rfl
theorem RL.EN{s:J SB}: ∀{cs:J SV} {ps:J PV},RL s cs ps->Vm.EN cs=YB->ps.all PV.yA=YB
 | [],ps,h,_=>by rw[h];rfl
 |x::xs,ps,h,ho=>by obtain⟨p,q,rfl,D,S⟩:=h.cons_inv;simp[Vm.EN,]at ho;simp only[List.all_cons,NE];exact⟨D.yA ho.1,S.EN ho.2⟩
theorem R.stored{s:J SB}{v:SV}{p:PV}{w:J SV}(h:R s v p)(hs:v.stored=hi w): ∃q,p.stored=hi q/\RL s w q:=by
 unfold SV.stored at hs;cases ha:Vm.EN v.cells with
 |false=>grind
 |true=>
  rw[ha]at hs;injection hs with hs;subst hs;have hj:v≠ .k8:=by intro e;subst e;cases ha
  have hc:=h.cells hj;exact⟨p.cells,by unfold PV.stored;rw[Do (hc.EN ha)],hc⟩
theorem R.ofRow{s:J SB}{v:SV}{p:PV}{r:J PT}{a:RT r}(h:R s v p)(hr:RT.of r v.cells=hi a):p.di=hi (RT.pv r a)/\D5 v.cells=(D5 r):=by
 have hc:=RT.xg hr;have I:(D5 v.cells)=(D5 r):=by rw[hc,RT.Ra]
 refine⟨?_,I⟩;have hj:v≠ .k8:=by
  intro e;subst e;cases r with
  |nil=>simp[SV.cells,RT.of]at hr
  |cons p q=>cases q with
   |nil=>cases p<;>simp[SV.cells,RT.of,PT.of]at hr
   |cons _ _=>simp only[SV.cells,RT.of]at hr;grind
 have D:=h.cells hj;rw[hc]at D;have S:=F4 r a D;unfold PV.di;rw[S,Do (RT.plain r a)]
theorem AG{s:J SB}{agg:O Nat}{off:Nat}{cs:J SV}{ps:J PV}{v:SV}(h:RL s cs ps)(hp:GO agg off cs=hi v): ∃p,part agg off ps=hi p/\R s v p:=by
 cases agg with
 |none=>obtain⟨p,D,S⟩:=h.nth hp;exact⟨p,D,S⟩
 |some n=>
  simp[GO]at hp;cases hb:Ii (off+n) (D5 cs)with
  |false=>grind
  |true=>
   rw[hb]at hp;injection hp with hp;subst hp;have:off+n<=(D5 ps):=by rw[h.sG];simp_all
   exact⟨.agg _,by simp[part,Do this],_,rfl,(h.drop off).take n⟩
theorem F5{s:J SB}{off:Nat}{new old:J SV}{hfl po:J PV}(h:RL s new hfl)(k:RL s old po):RL s (yP off new old) (yh off hfl po):=by unfold yP yh;rw[h.sG];exact((k.take off).append h).append (k.drop _)
theorem hor{s:J SB}{ps:dp}{v:SV}{p:PV}{r:J PT}{l:J _}(hs:dj s ps)(h:R s v p)(hc:GP s v=hi ⟨r,l⟩):
 rowsOf ps (D5 r) p=hi (l.map (RT.pv r))/\nK p=Lx v:=by
 cases v with
 |sl q m=>
  have Lt:(⟨q,m⟩:Rows)=⟨r,l⟩:=by injection hc
  cases Lt;rw[h];refine⟨?_,rfl⟩;cases l with
  |nil=>rfl
  |cons a l=>simp[rowsOf]
 |own t ex=>
  simp[GP,cX]at hc;split at hc
  ·rename_i q m dh
   have Lt:(⟨q,m⟩:Rows)=⟨r,l⟩:=by injection hc
   cases Lt;obtain⟨e,n,rfl,dU⟩:=h;rcases dU with⟨q',m',D,rfl,rfl⟩|D
   ·rw[dh]at D
    injection D with D;cases D;obtain⟨b,S,h3⟩:=hs.at_ t _ dh;rw[h3]at S;refine⟨?_,rfl⟩;simp[rowsOf,S,];rw[YH (by simp)]
   grind
  cases hc
 |pre t len cap ex=>
  simp[GP,cX]at hc;split at hc
  ·rename_i q m dh
   have Lt:(⟨q,m.take len⟩:Rows)=⟨r,l⟩:=by injection hc
   cases Lt;obtain⟨e,rfl,dU⟩:=h;rcases dU with⟨q',m',D,rfl⟩|D|⟨_,D,_⟩
   ·rw[dh]at D
    injection D with D;cases D;obtain⟨b,S,h3⟩:=hs.at_ t _ dh;rw[h3]at S;refine⟨?_,rfl⟩;simp only[rowsOf,S];simp
   ·grind
   grind
  cases hc
 |part t off len cap ex=>
  simp[GP,cX]at hc;split at hc
  ·rename_i q m dh
   have Lt:(⟨q,(m.drop off).take len⟩:Rows)=⟨r,l⟩:=by injection hc
   cases Lt;obtain⟨e,rfl,dU⟩:=h;rcases dU with⟨q',m',D,rfl⟩|D|⟨_,D,_⟩
   ·rw[dh]at D
    injection D with D;cases D;obtain⟨b,S,h3⟩:=hs.at_ t _ dh;rw[h3]at S;refine⟨?_,rfl⟩;simp only[rowsOf,S];simp
   ·grind
   grind
  cases hc
 |_=>cases hc
end Go.Vm
/- Operation by operation: what the typed machine does, the logical machine does; the easy ones. -/
namespace Go.Vm
structure Good(s:List SB)(ps:dp)(sr:jf)(pr:v7):Prop where
 rd:pr.rd=sr.rd
 fr:pr.fr=sr.fr
 wr:pr.wr.map (·.1)=ID sr.wr
 nw:CP pr.wr=YB
 nl:(D5 pr.news)=D5 sr.news
 aH:dj (sr.tL s) (BW (mO pr.wr ps) pr.news)
 v:R (sr.tL s) sr.v pr.v
 Nr:Fr (ID sr.wr) s (sr.tL s)
section
variable {s : J SB} {ps : dp}
theorem Good.val(hS:dj s ps){v:SV}{p:PV}{rd fr:J Nat}(hv:R s v p):Good s ps {v,rd,fr} {v:=p,rd,fr} where
 rd:=rfl
 fr:=rfl
 wr:=rfl
 nw:=rfl
 nl:=rfl
 aH:=by simp[jf.tL,rL,];exact hS
 v:=by simp[jf.tL,rL,];exact hv
 Nr:=by simp[jf.tL,rL,];exact Fr.refl _ _
theorem Good.news(hS:dj s ps){v:SV}{p:PV}{l:J SB}{q:dp}{rd:J Nat}(I:(D5 q)=D5 l)(hb: ∀(j:Nat) (b:SB),l[j]? =hi b-> ∃x,q[j]? =hi x/\RB (s++l) b x)(hv:R (s++l) v p):
 Good s ps {v,news:=l,rd} {v:=p,news:=q,rd} where
 rd:=rfl
 fr:=rfl
 wr:=rfl
 nw:=rfl
 nl:=I
 aH:=by simp[jf.tL,rL,Au];exact hS.app I hb
 v:=by simp[jf.tL,rL];exact hv
 Nr:=by simp[jf.tL,rL];exact Fr.app _ _ _
theorem Good.new(hS:dj s ps){v:SV}{p:PV}{b:SB}{q:pT}{rd:J Nat}(hb:RB (s++[b]) b q)(hv:R (s++[b]) v p):Good s ps {v,news:=[b],rd} {v:=p,news:=[q],rd}:=
 Good.news hS rfl (λj x h=>by
  grind) hv
def XE(b0 b:SB):Prop:=
 match b0 with
 | .arr r l=>(∃l',b= .arr r l'/\D5 l'=D5 l)\/b= .dead
 | .dead=>b= .dead
 | .box _=>(∃cs,b= .box cs)\/b= .dead
 |_=>True
theorem Fr.set{t:Nat}{b0 b:SB}(h0:s[t]? =hi b0)(hk:XE b0 b):Fr [t] s (s.set t b):=λu x hu=>by
 by_cases MG:t=u
 ·subst MG
  rw[h0]at hu;injection hu with hu;subst hu;have iY:=(Md.1 h0).1;have hb:(s.set t b)[t]? =hi b:=by simp[iY]
  cases b0 with
  |arr r l=>
   rcases hk with⟨l',rfl,I⟩|rfl
   ·exact .inl ⟨l',hb,I,λh=>by simp[has]at h⟩
   exact .inr hb
  |dead=>rw[hk]at hb ⊢;exact hb
  |box cs=>
   rcases hk with⟨c2,rfl⟩|rfl
   ·grind
   exact .inr hb
  |_=>trivial
 grind
theorem dj.put(hS:dj s ps){t:Nat}{b0 b:SB}{q:pT}(h0:s[t]? =hi b0)(hk:XE b0 b)(hq:RB (Ly [t] (s.set t b)) (jn [t] b) q):dj (Ly [t] (s.set t b)) (ps.set t q) where
 len:=by simp[C2,hS.len]
 at_:=λu x hu=>by
  have iY:=(Md.1 h0).1;rw[yU]at hu
  by_cases MG:t=u
  ·subst MG
   have hb:(s.set t b)[t]? =hi b:=by simp[iY]
   rw[hb]at hu;simp at hu;subst hu;exact⟨q,by rw[SK];simp[hS.len,iY],hq⟩
  simp[MG,]at hu
  obtain⟨y,hy,rfl⟩:=hu;obtain⟨q',D,S⟩:=hS.at_ u y hy;exact⟨q',by grind,S.fr (Fr.dg (Fr.set h0 hk))⟩
theorem Good.put(hS:dj s ps){v:SV}{p:PV}{t:Nat}{b0 b:SB}{q:pT}{l:J SB}{ql:dp}{rd:J Nat}(h0:s[t]? =hi b0)(hk:XE b0 b)(hq:RB (Ly [t] (s.set t b)) (jn [t] b) q)
 (I:(D5 ql)=D5 l) (hb: ∀(j:Nat) (x:SB),l[j]? =hi x-> ∃y,ql[j]? =hi y/\RB (Ly [t] (s.set t b)++l) x y) (hv:R (Ly [t] (s.set t b)++l) v p):
 Good s ps {v,wr:=[(t,b)],news:=l,rd} {v:=p,wr:=[(t,q)],news:=ql,rd} where
 rd:=rfl
 fr:=rfl
 wr:=rfl
 nw:=rfl
 nl:=I
 aH:=by simp[jf.tL,rL,Au,zC,IF];exact(hS.put h0 hk hq).app I hb
 v:=by simp[jf.tL,rL,zC,IF];exact hv
 Nr:=by simp[jf.tL,rL,zC,IF];exact(Fr.dg (Fr.set h0 hk)).trans (Fr.app _ _ _)
theorem Good.NH(hS:dj s ps){t:Nat}{b0 b:SB}{q:pT}{rd:J Nat}(h0:s[t]? =hi b0)(hk:XE b0 b)(hq:RB (Ly [t] (s.set t b)) (jn [t] b) q):
 Good s ps {v:= .undef,wr:=[(t,b)],rd} {v:= .undef,wr:=[(t,q)],rd}:=
 Good.put hS h0 hk hq rfl (λj x h=>by simp at h) rfl
end
section
variable {R' ρ : Type} {w : R' -> ρ} {y : ρ}
theorem cq{α:Type}{x:O α}{k:α->jS R'}(h:qi x k ρ w=hi y): ∃a,x=hi a/\k a ρ w=hi y:=by
 cases x with
 |none=>cases h
 |some a=>exact⟨a,rfl,h⟩
theorem dw{α:Type}{x:O α}{k:α->jS R'}(h:pZ x k ρ w=hi y): ∃a,x=hi a/\k a ρ w=hi y:=hnn h
theorem ia{c:Bool}{a b:jS R'}(h:jX c a b ρ w=hi y):(c=YB/\a ρ w=hi y)\/(c=h9/\b ρ w=hi y):=agO h
theorem dy{c:Bool}{a:jS R'}(h:(bif c then a else aW) ρ w=hi y):c=YB/\a ρ w=hi y:=by
 cases c
 ·cases h
 grind
theorem zg{c:Bool}{a:jS R'}(h:(bif c then aW else a) ρ w=hi y):c=h9/\a ρ w=hi y:=by
 cases c
 ·grind
 cases h
theorem lT{c:Bool}{a:jS R'}(h:jX c a aW ρ w=hi y):c=YB/\a ρ w=hi y:=by
 rcases ia h with⟨D,S⟩|⟨_,S⟩
 ·grind
 cases S
theorem C3{c:Bool}{a:jS R'}(h:jX c aW a ρ w=hi y):c=h9/\a ρ w=hi y:=by
 rcases ia h with⟨_,S⟩|⟨D,S⟩
 ·cases S
 grind
end
def jY{R':Type}(s:J SB)(ps:dp)(po:O v7)(k:jf->jS R')(ρ:Type)(w:R'->ρ)(y:ρ):Prop:=
 ∃sr pr,po=hi pr/\Good s ps sr pr/\k sr ρ w=hi y
section
variable {R' ρ : Type} {w : R' -> ρ} {y : ρ} {s : J SB} {ps : dp} {e : SE} {pe : Env} {z : J Nat} {k : jf -> jS R'}
theorem jY.val(hS:dj s ps){po:O v7}{v:SV}{p:PV}(h:k {v} ρ w=hi y)(hp:po=hi {v:=p})(hv:R s v p):jY s ps po k ρ w y:=
 ⟨_,_,hp,Good.val hS hv,h⟩
theorem jY.rd(hS:dj s ps){po:O v7}{v:SV}{p:PV}{rd:J Nat}(h:k {v,rd} ρ w=hi y)(hp:po=hi {v:=p,rd})(hv:R s v p):jY s ps po k ρ w y:=
 ⟨_,_,hp,Good.val hS hv,h⟩
theorem sJ(hE:fx s e pe){x:jd}{a:IntKind}{n:Int}(h:cJ e x= .int a n):x.ev pe= .int a n:=by have:=fb hE x;rw[h]at this;exact this
theorem IG(hE:fx s e pe){x:jd}{b:Bool}(h:cJ e x= .bool b):x.ev pe= .bool b:=by have:=fb hE x;rw[h]at this;exact this
theorem Zd(hE:fx s e pe){x:jd}{v:SV}(h:cJ e x=v):R s v (x.ev pe):=by
 grind[fb]
theorem hln(k:IntKind):iA k k=YB:=by cases k<;>rfl
theorem rep(hS:dj s ps){op:BinOp}{a:IntKind}{m n:Int}(h:VA op a m n (VZ k) ρ w=hi y): ∃p,arith op a m n=hi p/\jY s ps (hi {v:=p}) k ρ w y:=by
 cases op with
 |quo=>
  obtain⟨D,S⟩:=C3 h;have hn:n≠0:=by grind
  exact⟨_,by simp[arith,EQ hn],jY.val hS S rfl rfl⟩
 |rem=>
  obtain⟨D,S⟩:=C3 h;have hn:n≠0:=by grind
  exact⟨_,by simp[arith,EQ hn],jY.val hS S rfl rfl⟩
 |shl=>cases h
 |shr=>cases h
 |_=>exact⟨_,rfl,jY.val hS h rfl rfl⟩
theorem afx(hE:fx s e pe)(hS:dj s ps){op:BinOp}{a b:jd}(h:uD e s z (.bin op a b) k ρ w=hi y):jY s ps (cd pe ps z (.bin op a b)) k ρ w y:=by
 simp[uD]at h;generalize ha:cJ e a=va at h;cases va with
 |int ka m=>
  generalize hb:cJ e b=vb at h;cases vb with
  |int kb n=>
   have D:=sJ hE ha;have S:=sJ hE hb;have key:(op≠ .shl)->(op≠ .shr)->(bif iA ka kb then VA op ka m n (VZ k)else aW) ρ w=hi y->jY s ps (cd pe ps z (.bin op a b)) k ρ w y:=by
    intro n1 n2 h;obtain⟨hk,h⟩:=dy h;obtain⟨p,hp,hs⟩:=rep hS h;have:cd pe ps z (.bin op a b)=hi {v:=p}:=by simp[cd,D,S];cases op<;>first|exact absurd rfl n1|exact absurd rfl n2|(simp only[Yy,hk,hp];rfl)
    grind
   cases op with
   |shl=>
    obtain⟨hc,h⟩:=C3 h;have Lt: ¬n<0:=by simpa using hc
    exact jY.val hS h (by simp[cd,D,S,Yy,JC,EQ Lt];rfl) rfl
   |shr=>
    obtain⟨hc,h⟩:=C3 h;have Lt: ¬n<0:=by simpa using hc
    exact jY.val hS h (by simp[cd,D,S,Yy,JC,EQ Lt];rfl) rfl
   |_=>grind
  |_=>cases h
 |_=>cases h
theorem abO(hE:fx s e pe)(hS:dj s ps){neg:Bool}{a b:jd}(h:uD e s z (.Si neg a b) k ρ w=hi y):jY s ps (cd pe ps z (.Si neg a b)) k ρ w y:=by
 simp[uD]at h;generalize ha:cJ e a=va at h;cases va with
 |bool x=>
  generalize hb:cJ e b=vb at h;cases vb with
  |bool x'=>refine jY.val hS h ?_ rfl;simp only[cd,IG hE ha,IG hE hb];simp
  |_=>cases h
 |_=>cases h
theorem abP: ∀{xs ys:J SV} {ps qs:J PV} {r:Bool},RL s xs ps->RL s ys qs->Wy xs ys=hi r->eu ps qs=hi r
 | [],[],ps,qs,r,D,S,h=>by rw[D,S];exact h
 |x::xs,b::ys,ps,qs,r,D,S,h=>by
  obtain⟨p,ps,rfl,a1,a2⟩:=D.cons_inv;obtain⟨q,qs,rfl,b1,b2⟩:=S.cons_inv;simp[Wy]at h;split at h
  ·rename_i ka m kb n
   have a1':=a1;have b1':=b1;subst a1' b1';cases hk:iA ka kb with
   |false=>grind
   |true=>
    rw[hk]at h;have hc:zo (.int ka m) (.int kb n)=hi (m==n):=by simp[zo,hk,]
    simp[eu,hc];cases xs with
    |nil=>
     cases ys with
     |nil=>simp[]at h;subst h;rw[a2,b2];cases m==n<;>rfl
     |cons _ _=>cases h
    |cons x2 xs2=>
     simp[]at h;split at h
     ·rename_i r' hr
      injection h with h;subst h;rw[abP a2 b2 hr]
      grind
     cases h
  cases h
 | [],_::_,ps,qs,r,D,S,h=>by cases h
 |_::_,[],ps,qs,r,D,S,h=>by cases h
theorem afy(hE:fx s e pe)(hS:dj s ps){n:Nat}{neg:Bool}{a b:jd}(h:uD e s z (.MV n neg a b) k ρ w=hi y):jY s ps (cd pe ps z (.MV n neg a b)) k ρ w y:=by
 simp[uD]at h;generalize ha:cJ e a=va at h;cases va with
 |agg xs=>
  generalize hb:cJ e b=vb at h;cases vb with
  |agg ys=>obtain⟨I,h⟩:=dy h;obtain⟨r,hr,h⟩:=cq h;obtain⟨p,hp,D⟩:=Zd hE ha;obtain⟨q,hq,S⟩:=Zd hE hb;refine jY.val hS h ?_ rfl;simp only[cd,hp,hq,D.sG,S.sG];rw[Do I,abP D S hr];simp
  |_=>cases h
 |_=>cases h
theorem ajM(hE:fx s e pe)(hS:dj s ps){op:UnOp}{a:jd}(h:uD e s z (.un op a) k ρ w=hi y):jY s ps (cd pe ps z (.un op a)) k ρ w y:=by
 simp only[uD]at h;cases op with
 |neg=>
  generalize ha:cJ e a=va at h;cases va with
  |int ka n=>exact jY.val hS h (by simp only[cd,sJ hE ha];rfl) rfl
  |_=>cases h
 |not=>
  generalize ha:cJ e a=va at h;cases va with
  |bool b=>exact jY.val hS h (by simp[cd,IG hE ha];rfl) rfl
  |_=>cases h
 |_=>cases h
theorem abQ(hE:fx s e pe)(hS:dj s ps){a:IntKind}{x:jd}(h:uD e s z (.conv a x) k ρ w=hi y):jY s ps (cd pe ps z (.conv a x)) k ρ w y:=by
 simp[uD]at h;generalize ha:cJ e x=va at h;cases va with
 |int ka n=>exact jY.val hS h (by simp[cd,sJ hE ha]) rfl
 |_=>cases h
theorem afz(hE:fx s e pe)(hS:dj s ps){x:jd}(h:uD e s z (.len x) k ρ w=hi y):jY s ps (cd pe ps z (.len x)) k ρ w y:=by
 simp[uD]at h;have X:=fb hE x;generalize cJ e x=v at h X;cases v with
 |nil e' c=>exact jY.val hS h (by simp only[cd,show x.ev pe= .sl e' c []from X];rfl) rfl
 |pre t len cap ex=>obtain⟨e',X,_⟩:=X;exact jY.val hS h (by simp[cd,X]) rfl
 |part t off len cap ex=>obtain⟨e',X,_⟩:=X;exact jY.val hS h (by simp[cd,X]) rfl
 |sl q m=>exact jY.val hS h (by simp[cd,show x.ev pe=_ from X,]) rfl
 |own t ex=>
  obtain⟨c,hc,h⟩:=cq h;simp[GP,cX]at hc;split at hc
  ·rename_i q m dh
   injection hc with hc;subst hc;obtain⟨e',n,X,dU⟩:=X;rcases dU with⟨q',m',D,rfl,rfl⟩|D
   ·rw[dh]at D;injection D with D;cases D
    exact jY.val hS h (by simp[cd,X]) rfl
   grind
  cases hc
 |_=>obtain⟨c,hc,h⟩:=cq h;cases hc
theorem hp1: ∀{l:J _} {pl:J _} {cs:J SV} {pc:J PV} {r:J SV},
 (D5 pl=D5 l/\ ∀(j:Nat) (a:Nat×Nat×SV),l[j]? =hi a-> ∃b,pl[j]? =hi (a.1,a.2.1,b)/\R s a.2.2 b)->RL s cs pc->C0 l cs=hi r-> ∃q,tf pl pc=hi q/\RL s r q
 | [],pl,cs,pc,r,I,hc,h=>by have:=List.length_eq_zero_iff.1 I.1;subst this;injection h with h;subst h;exact⟨pc,rfl,hc⟩
 |(off,sz,v)::l,pl,cs,pc,r,I,hc,h=>by
  cases pl with
  |nil=>simp at I
  |cons p pl=>
   obtain⟨b,D,S⟩:=I.2 0 _ rfl;simp at D;subst D;simp[C0]at h;split at h
   ·rename_i w hw
    obtain⟨q,hq,xv⟩:=S.stored hw;cases anG:(If (D5 w) sz&&Ii (off+sz) (D5 cs))with
    |false=>grind
    |true=>
     rw[anG]at h;obtain⟨q2,h3,h4⟩:=hp1 ⟨by simpa using I.1,λj a ha=>I.2 (j+1) a (by simpa using ha)⟩ (F5 xv hc) h;simp only[tf,hq,xv.sG,hc.sG]
     grind
   cases h
theorem hp2(hE:fx s e pe): ∀(l:J _),((l.map λp=>(p.1,p.2.1,p.2.2.ev pe)).length=(EO e l).length/\ ∀(j:Nat) (a:Nat×Nat×SV),(EO e l)[j]? =hi a-> ∃b,(l.map λp=>(p.1,p.2.1,p.2.2.ev pe))[j]? =hi (a.1,a.2.1,b)/\R s a.2.2 b)
 | []=>⟨rfl,λj a h=>by simp[EO]at h⟩
 |p::l=>by
  obtain⟨D,S⟩:=hp2 hE l;refine⟨by simp[EO]at D ⊢;omega,λj a h=>?_⟩;cases j with
  |zero=>simp[EO]at h;subst h;exact⟨_,rfl,fb hE _⟩
  |succ j=>simp[EO,]at h;grind
theorem b4'(hE:fx s e pe)(hS:dj s ps){zero:J PV}{parts:J _}(h:uD e s z (.build zero parts) k ρ w=hi y):jY s ps (cd pe ps z (.build zero parts)) k ρ w y:=by obtain⟨cs,hc,h⟩:=cq h;obtain⟨q,hq,hr⟩:=hp1 (hp2 hE parts) (C1 s zero) hc;exact jY.val hS h (by simp only[cd,hq];rfl) ⟨q,rfl,hr⟩
theorem afA(hE:fx s e pe)(hS:dj s ps){x:jd}(h:uD e s z (.box x) k ρ w=hi y):jY s ps (cd pe ps z (.box x)) k ρ w y:=by obtain⟨cs,hc,h⟩:=cq h;obtain⟨q,hq,hr⟩:=(fb hE x).stored hc;refine⟨_,_,?_,Good.new hS (b:= .box cs) (v:= .bp (D5 s) (D5 cs) 0) ⟨q,rfl,hr.ext (Fr.app _ _ _)⟩ rfl,h⟩;simp[cd,hq,hS.len,hr.sG]
theorem h64(hS:dj s ps){cells:J PV}(h:uD e s z (.alloc cells) k ρ w=hi y):jY s ps (cd pe ps z (.alloc cells)) k ρ w y:=by refine⟨_,_,?_,Good.new hS (b:= .box _) (v:= .bp (D5 s) (D5 cells) 0) ⟨cells,rfl,C1 _ _⟩ rfl,h⟩;simp[cd,hS.len]
theorem abR(hE:fx s e pe)(hS:dj s ps){x:jd}(h:uD e s z (.Sj x) k ρ w=hi y):jY s ps (cd pe ps z (.Sj x)) k ρ w y:=by
 simp[uD]at h;have X:=fb hE x;generalize cJ e x=v at h X;cases v with
 |pa t r i a o=>exact jY.val hS h (by simp[cd,X.1]) ⟨rfl,X.2⟩
 |pb t i o=>obtain⟨e',D,S⟩:=X;exact jY.val hS h (by simp[cd,D]) ⟨e',rfl,S⟩
 |bp t n o=>exact jY.val hS h (by simp[cd,show x.ev pe=_ from X]) rfl
 |cj c o=>obtain⟨q,D,S⟩:=X;exact jY.val hS h (by simp[cd,D]) ⟨q,rfl,S⟩
 |fY f a b=>obtain⟨pa,pb,D,S⟩:=X;exact jY.val hS h (by simp[cd,D]) ⟨pa,pb,rfl,S⟩
 |_=>cases h
theorem abS(hE:fx s e pe)(hS:dj s ps){off:Nat}{x:jd}(h:uD e s z (.Sk off x) k ρ w=hi y):jY s ps (cd pe ps z (.Sk off x)) k ρ w y:=by
 simp[uD]at h;have X:=fb hE x;generalize cJ e x=v at h X;cases v with
 |pa t r i a o=>exact jY.val hS h (by simp[cd,X.1]) ⟨rfl,X.2⟩
 |pb t i o=>obtain⟨e',D,S⟩:=X;exact jY.val hS h (by simp[cd,D]) ⟨e',rfl,S⟩
 |bp t n o=>exact jY.val hS h (by simp[cd,show x.ev pe=_ from X]) rfl
 |cj c o=>obtain⟨q,D,S⟩:=X;exact jY.val hS h (by simp[cd,D]) ⟨q,rfl,S⟩
 |_=>cases h
theorem afB(hE:fx s e pe)(hS:dj s ps){agg:O Nat}{off:Nat}{x:jd}(h:uD e s z (.fD agg off x) k ρ w=hi y):jY s ps (cd pe ps z (.fD agg off x)) k ρ w y:=by
 simp[uD]at h;generalize hv:cJ e x=v at h;cases v with
 |agg cs=>obtain⟨v,D,h⟩:=cq h;obtain⟨q,S,h3⟩:=Zd hE hv;obtain⟨p,h4,h5⟩:=AG h3 D;exact jY.val hS h (by simp only[cd,S,h4];rfl) h5
 |_=>cases h
theorem afC(hE:fx s e pe)(hS:dj s ps){i:Nat}{x:jd}(h:uD e s z (.ext i x) k ρ w=hi y):jY s ps (cd pe ps z (.ext i x)) k ρ w y:=by
 simp[uD]at h;generalize hv:cJ e x=v at h;cases v with
 |cT cs=>obtain⟨v,D,h⟩:=cq h;obtain⟨q,S,h3⟩:=Zd hE hv;obtain⟨p,h4,h5⟩:=h3.nth D;exact jY.val hS h (by simp only[cd,S,h4];rfl) h5
 |_=>cases h
theorem afD(hE:fx s e pe)(hS:dj s ps){f:FuncId}{a b:J jd}(h:uD e s z (.km f a b) k ρ w=hi y):jY s ps (cd pe ps z (.km f a b)) k ρ w y:=by exact jY.val hS h rfl ⟨_,_,rfl,F3 hE a,F3 hE b⟩
theorem afE(hS:dj s ps){m:O PV}(h:uD e s z (.MW m) k ρ w=hi y):jY s ps (cd pe ps z (.MW m)) k ρ w y:=by
 cases m with
 |none=>refine⟨_,_,?_,Good.new hS (b:= .set []) (v:= .mp (D5 s)) rfl rfl,h⟩;simp[cd,hS.len]
 |some m=>obtain⟨p,_,h⟩:=cq h;refine⟨_,_,?_,Good.new hS (b:= .nq p []) (v:= .mp (D5 s)) rfl rfl,h⟩;simp[cd,hS.len]
theorem ah8: ∀{l:J SV} {q:J PV} {m:Bool} {a:IntKind} {n:Int} {v:SV},RL s l q->Uj m a n l=hi v-> ∃p,To m a n q=hi p/\R s v p
 | [],q,m,a,n,v,I,h=>by rw[I];injection h with h;subst h;exact⟨_,rfl,rfl⟩
 |x::l,q,m,a,n,v,I,h=>by
  obtain⟨p,q,rfl,D,S⟩:=I.cons_inv;simp[Uj]at h;split at h
  ·rename_i b c
   have Pn:=D;subst Pn;cases hk:iA a b with
   |true=>
    rw[hk]at h;obtain⟨p,h3,h4⟩:=ah8 S h;refine⟨p,?_,h4⟩;simp[To,]
    grind
   |false=>grind
  cases h
theorem ajN(hE:fx s e pe)(hS:dj s ps){m:Bool}{x:jd}{xs:J jd}(h:uD e s z (.mm m x xs) k ρ w=hi y):jY s ps (cd pe ps z (.mm m x xs)) k ρ w y:=by
 simp[uD]at h;generalize hv:cJ e x=v at h;cases v with
 |int a n=>obtain⟨v,D,h⟩:=cq h;obtain⟨p,S,h3⟩:=ah8 (F3 hE xs) D;exact jY.val hS h (by simp only[cd,sJ hE hv,S];rfl) h3
 |_=>cases h
theorem abT(hE:fx s e pe)(hS:dj s ps){c a b:jd}(h:uD e s z (.pick c a b) k ρ w=hi y):jY s ps (cd pe ps z (.pick c a b)) k ρ w y:=by
 simp[uD]at h;generalize hv:cJ e c=v at h;cases v with
 |bool x=>
  rcases ia h with⟨rfl,h⟩|⟨rfl,h⟩
  ·exact jY.val hS h (by simp[cd,IG hE hv]) (fb hE a)
  exact jY.val hS h (by simp[cd,IG hE hv]) (fb hE b)
 |_=>cases h
end
end Go.Vm
