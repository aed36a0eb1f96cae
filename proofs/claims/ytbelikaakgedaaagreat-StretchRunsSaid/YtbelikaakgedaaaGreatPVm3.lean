/- The logical machine, part 3: SvOps2, SvOps3, SvOps4, SvNorm, SvCall, SvFp, SvRun, SvCon, SvLaw, SvLaw2, SvSort, SvSortI. -/
import Derived.Test.YtbelikaakgedaaaGreatPVm2
import Derived.Test.YtbelikaakgedaaaGreatPVm1
import Derived.Sort.Grow
open Nat renaming eq_of_beq_eq_true->If,ble->Pc,le_of_ble_eq_true->Sw,beq->Md,lt_or_ge->xc,blt->SL,beq_refl->Sy,min_eq_left->D5,le_refl->h9,eq_zero_or_pos->Tj,le_of_lt->Y2
open Bool renaming and_eq_true->IR,false_eq_true->Su,and_self->SN,and_true->Mr,true->YD,false->hl
open List renaming getElem?_take_of_lt->NE,getElem?_eq_some_iff->PP,getElem?_eq_getElem->Y,getElem?_set->KJ,getElem?_append_right->YG,replicate->Ii,getElem?_append_left->Mi,append_assoc->SG,all_eq_true->YH,length_cons->EE,take_of_length_le->SI,map_take->SH,drop_zero->Mp,mem_of_getElem?->YI,getElem?_eq_none_iff->QK,length_map->YJ,append_nil->Mq,mem_cons_self->SK,length_eq_zero_iff->Mg,mem_append_right->Sv,length_take->al,map_cons->KL,mem_cons_of_mem->YF,mem_append_left->Pg,getElem_of_mem->D8,mem_singleton->g',pairwise_cons->Ml,ext_getElem?->Vg,getElem?_map->SM,map_drop->vk,range->tA,mem_flatMap->Ze,map_append->Pu,all_map->hx,mem_map->YC,length->h1
open Int renaming eq_ofNat_of_zero_le->WF,ofNat->GH,le_trans->Vf
open Option renaming map_eq_some_iff->Xc,getD_none->OH,map_some->hi,getD_some->Zf,some->Ss,none->KN
open Option.some renaming inj->SJ
open Array renaming getElem?_eq_some_iff->Ih,getElem?_eq_getElem->KO,getElem?_modify->h2,getElem?_mapIdx->YB
open Go.World renaming cells?_some->Zg
open Prod.mk renaming injEq->Pv
open Decidable renaming decide->aa
/- Operation by operation, second part: elements, blocks, slices, sets. -/
namespace Go.Vm
section
variable {R' ρ : Type} {w : R' -> ρ} {y : ρ} {s : J SB} {ps : dp} {e : SE} {pe : Env} {z : J Nat} {k : jf -> jS R'}
theorem dj.arr(hS:dj s ps){t:Nat}{r:J PT}{l:J _}(h:s[t]? =Ss (.arr r l)):ps[t]? =Ss (.arr (h1 r) (l.map (RT.pv r))):=by obtain⟨q,D,S⟩:=hS.at_ t _ h;rw[S]at D;exact D
theorem dj.box(hS:dj s ps){t:Nat}{cs:J SV}(h:s[t]? =Ss (.box cs)): ∃q,ps[t]? =Ss (.box q)/\RL s cs q:=by
 obtain⟨q,D,q',rfl,S⟩:=hS.at_ t _ h
 grind
theorem dj.anH(hS:dj s ps){t:Nat}{l:J _}(h:s[t]? =Ss (.set l)):ps[t]? =Ss (.map (l.map J2)):=by obtain⟨q,D,S⟩:=hS.at_ t _ h;rw[S]at D;exact D
theorem dj.Wz(hS:dj s ps){t:Nat}{p:PT}{l:J _}(h:s[t]? =Ss (.nq p l)):ps[t]? =Ss (.map (l.map (MT p))):=by obtain⟨q,D,S⟩:=hS.at_ t _ h;rw[S]at D;exact D
theorem OwnAt.inv{t e n:Nat}{r:J PT}{l:J _}(h:OwnAt s t e n)(hs:s[t]? =Ss (.arr r l)):e=h1 r/\n=(h1 l):=by
 rcases h with⟨q,m,D,rfl,rfl⟩|D
 ·grind
 grind
theorem GR.inv{t e:Nat}{r:J PT}{l:J _}(h:GR s t e)(hs:s[t]? =Ss (.arr r l)):e=(h1 r):=by
 rcases h with⟨q,m,D,rfl⟩|D|⟨cs,D,_⟩
 ·grind
 ·grind
 grind
theorem H5.inv{t:Nat}{q r:J PT}{i:Int}{a:RT q}{l:J _}(h:H5 s t q i a)(hs:s[t]? =Ss (.arr r l)): ∃e:q=r,az l i=Ss (e▸a):=by
 rcases h with⟨m,D,S⟩|D
 ·grind
 grind
theorem OA.inv{t:Nat}{r:J PT}{i:Int}{l:J _}(h:OA s t i)(hs:s[t]? =Ss (.arr r l)):(az l i).isSome=YD:=by
 rcases h with⟨q,m,D,S⟩|D
 ·grind
 grind
theorem iT{α:Type}{l:J α}{n:Nat}{i:Int}{a:α}(h:az (l.take n) i=Ss a): ∃m:Nat,i=GH m/\m<n/\l[m]? =Ss a:=by
 grind[tI,al,NE]
theorem abU(hE:fx s e pe)(hS:dj s ps){aT:Nat}{x i:jd}(h:uD e s z (.Sl aT x i) k ρ w=Ss y):jY s ps (cd pe ps z (.Sl aT x i)) k ρ w y:=by
 simp[uD]at h;generalize N:cJ e i=vi at h;cases vi with
 |int ki n=>
  have N:=sJ hE N;have X:=fb hE x;unfold ah1 at h;generalize cJ e x=v at h X;cases v with
  |sl r l=>
   obtain⟨he,h⟩:=dy h;obtain⟨a,ha,hk⟩:=dw h;obtain⟨m,rfl,hm⟩:=tI ha;refine jY.val hS hk ?_ ⟨_,rfl,PD r a⟩;have hr:(l.map (RT.pv r))[m]? =Ss (RT.pv r a):=by simp[hm]
   simp[cd,N,nL,show x.ev pe=_ from X,hr,he,]
  |own t ex=>
   simp[cX]at h;generalize dh:s[t]? =b at h;cases b with
   |none=>cases h
   |some b=>
    cases b with
    |arr r l=>
     obtain⟨he,h⟩:=dy h;obtain⟨a,ha,hk⟩:=dw h;obtain⟨m,rfl,hm⟩:=tI ha;obtain⟨e',n',X,dU⟩:=X;obtain⟨rfl,rfl⟩:=dU.inv dh;have iY:=(PP.1 hm).1;have D:SL m (h1 l)=YD:=by simpa using iY
     refine jY.val hS hk ?_ ⟨rfl,.inl ⟨l,dh,ha⟩⟩;simp[cd,N,nL,X,D,he,]
    |_=>cases h
  |pre t len cap ex=>
   simp[cX]at h;generalize dh:s[t]? =b at h;cases b with
   |none=>cases h
   |some b=>
    cases b with
    |arr r l=>
     obtain⟨he,h⟩:=dy h;obtain⟨a,ha,hk⟩:=dw h;obtain⟨m,rfl,iY,hm⟩:=iT ha;obtain⟨e',X,dU⟩:=X;have:=dU.inv dh;subst this;have D:SL m len=YD:=by simpa using iY
     refine jY.val hS hk ?_ ⟨rfl,.inl ⟨l,dh,hm⟩⟩;simp[cd,N,nL,X,D,he,]
    |_=>cases h
  |part t off len cap ex=>
   simp only[cX]at h;generalize dh:s[t]? =b at h;cases b with
   |none=>cases h
   |some b=>
    cases b with
    |arr r l=>
     obtain⟨he,h⟩:=dy h;obtain⟨a,ha,hk⟩:=dw h;obtain⟨m,rfl,iY,hm⟩:=iT ha;rw[List.getElem?_drop]at hm;obtain⟨e',X,dU⟩:=X;have:=dU.inv dh;subst this;have D:SL m len=YD:=by simpa using iY
     refine jY.val hS (p:= .ptr t (h1 r) (off+m) 0) hk ?_ ⟨rfl,.inl ⟨l,dh,hm⟩⟩;simp[cd,N,nL,X,D,he,]
    |_=>cases h
  |_=>cases h
 |_=>cases h
theorem zD{n:Nat}{i:Int}{j:Nat}{f:Nat->jS R'}:MJ n i j f ρ w=Ss y-> ∃m,i=GH m/\j<=m/\m<j+n/\f m ρ w=Ss y:=by
 induction n generalizing j with
 |zero=>intro h;cases h
 |succ n ih=>
  intro h;rcases ia h with⟨D,S⟩|⟨_,S⟩
  ·grind
  grind
theorem se'(hE:fx s e pe)(hS:dj s ps){n aT:Nat}{p i:jd}(h:uD e s z (.KH n aT p i) k ρ w=Ss y):jY s ps (cd pe ps z (.KH n aT p i)) k ρ w y:=by
 simp[uD]at h;generalize N:cJ e i=vi at h;cases vi with
 |int ki j=>
  have N:=sJ hE N;have X:=fb hE p;generalize cJ e p=v at h X;cases v with
  |bp t m o=>
   obtain⟨j',rfl,_,S,h⟩:=zD h;have D:SL j' n=YD:=by simp;omega
   exact jY.val hS h (by simp[cd,N,nL,D,show p.ev pe=_ from X]) rfl
  |cj c o=>
   obtain⟨j',rfl,_,S,h⟩:=zD h;have D:SL j' n=YD:=by simp;omega
   obtain⟨q,hq,hr⟩:=X;exact jY.val hS h (by simp[cd,N,nL,D,hq]) ⟨q,rfl,hr⟩
  |pb t m o=>
   obtain⟨j',rfl,_,S,h⟩:=zD h;have D:SL j' n=YD:=by simp;omega
   obtain⟨e',he,hr⟩:=X;exact jY.val hS h (by simp[cd,N,nL,D,he]) ⟨e',rfl,hr⟩
  |pa t r i a o=>
   obtain⟨j',rfl,_,S,h⟩:=zD h;have D:SL j' n=YD:=by simp;omega
   exact jY.val hS h (by simp[cd,N,nL,D,X.1]) ⟨rfl,X.2⟩
  |_=>cases h
 |_=>cases h
theorem afG(hE:fx s e pe)(hS:dj s ps){n aT:Nat}{agg:O Nat}{x i:jd}(h:uD e s z (.idx n aT agg x i) k ρ w=Ss y):jY s ps (cd pe ps z (.idx n aT agg x i)) k ρ w y:=by
 simp[uD]at h;generalize N:cJ e i=vi at h;cases vi with
 |int ki j=>
  have N:=sJ hE N;generalize X:cJ e x=v at h;cases v with
  |agg cs=>
   obtain⟨j',rfl,_,S,h⟩:=zD h;have D:SL j' n=YD:=by simp;omega
   obtain⟨v,hv,h⟩:=cq h;obtain⟨q,hq,hr⟩:=Zd hE X;obtain⟨p,hp,hpr⟩:=AG hr hv;exact jY.val hS h (by simp only[cd,N,nL,D,hq,hp];rfl) hpr
  |_=>cases h
 |_=>cases h
theorem abV(hE:fx s e pe)(hS:dj s ps){x i:jd}(h:uD e s z (.Sm x i) k ρ w=Ss y):jY s ps (cd pe ps z (.Sm x i)) k ρ w y:=by
 simp[uD]at h;generalize N:cJ e i=vi at h;cases vi with
 |int ki j=>
  have N:=sJ hE N;generalize X:cJ e x=v at h;cases v with
  |str t=>
   obtain⟨b,hb,h⟩:=dw h;have X:=Zd hE X;cases j with
   |negSucc _=>cases hb
   |ofNat m=>simp[ah0,]at hb;obtain⟨c,hc,rfl⟩:=hb;exact jY.val hS h (by simp[cd,N,nL,show x.ev pe=_ from X,hc]) rfl
  |_=>cases h
 |_=>cases h
theorem abW(hE:fx s e pe)(hS:dj s ps){agg:O Nat}{p:jd}(h:uD e s z (.load agg p) k ρ w=Ss y):jY s ps (cd pe ps z (.load agg p)) k ρ w y:=by
 simp[uD]at h;have X:=fb hE p;unfold ah2 at h;generalize cJ e p=v at h X;cases v with
 |bp t n off=>
  simp[cX]at h;generalize dh:s[t]? =b at h;cases b with
  |none=>cases h
  |some b=>
   cases b with
   |box cs=>obtain⟨v,hv,h⟩:=cq h;obtain⟨q,D,S⟩:=hS.box dh;obtain⟨u,h3,h4⟩:=AG S hv;refine jY.rd hS h ?_ h4;show v8 ps agg _=_;rw[X];simp only[v8,D,h3];rfl
   |_=>cases h
 |pa t r i a off=>
  simp[cX]at h;generalize dh:s[t]? =b at h;cases b with
  |none=>cases h
  |some b=>
   cases b with
   |arr q l=>
    obtain⟨v,hv,hk⟩:=cq h;obtain⟨X,dU⟩:=X;obtain⟨rfl,hg⟩:=dU.inv dh;obtain⟨u,h3,h4⟩:=AG (PD r a) hv;obtain⟨m,rfl,hm⟩:=tI hg;refine jY.rd hS hk ?_ h4;show v8 ps agg _=_;rw[X];have Iq:(l.map (RT.pv r))[m]? =Ss (RT.pv r a):=by simp[hm]
    have e1:(GH m).toNat=m:=rfl;simp only[v8,hS.arr dh,e1,Iq,h3];rfl
   |_=>cases h
 |pb t i off=>
  simp[cX]at h;generalize dh:s[t]? =b at h;cases b with
  |none=>cases h
  |some b=>
   cases b with
   |arr r l=>
    obtain⟨a,ha,h⟩:=dw h;obtain⟨v,hv,hk⟩:=cq h;obtain⟨e',X,dU⟩:=X;obtain⟨u,h3,h4⟩:=AG (PD r a) hv;obtain⟨m,rfl,hm⟩:=tI ha;refine jY.rd hS hk ?_ h4;show v8 ps agg _=_;rw[X];have Iq:(l.map (RT.pv r))[m]? =Ss (RT.pv r a):=by simp[hm]
    have e1:(GH m).toNat=m:=rfl;simp only[v8,hS.arr dh,e1,Iq,h3];rfl
   |_=>cases h
 |cj cs off=>obtain⟨v,hv,h⟩:=cq h;obtain⟨q,hq,hr⟩:=X;obtain⟨u,h3,h4⟩:=AG hr hv;refine jY.val hS h ?_ h4;show v8 ps agg _=_;rw[hq];simp only[v8,h3];rfl
 |_=>cases h
theorem Rc(hS:dj s ps){t:Nat}{r:J PT}{l:J _}(dh:s[t]? =Ss (.arr r l)){i:Int}{b:RT r}{rd:J Nat}:
 Good s ps {v:= .undef,wr:=[(t,.arr r (bu l i b))],rd} {v:= .undef,wr:=[(t,.arr (h1 r) ((l.map (RT.pv r)).set i.toNat (RT.pv r b)))],rd}:=
 Good.NH hS dh (.inl ⟨_,rfl,by simp⟩) (by show _=_;simp[bu,])
theorem is'(hE:fx s e pe)(hS:dj s ps){sz:Nat}{p x:jd}(h:uD e s z (.store sz p x) k ρ w=Ss y):jY s ps (cd pe ps z (.store sz p x)) k ρ w y:=by
 simp[uD]at h;have X:=fb hE p;have hv:=fb hE x;unfold abz at h;generalize cJ e p=v at h X;generalize cJ e x=u at h hv;cases v with
 |bp t n off=>
  simp[cX]at h;generalize dh:s[t]? =b at h;cases b with
  |none=>cases h
  |some b=>
   cases b with
   |box cs=>
    obtain⟨w',hw,h⟩:=cq h;obtain⟨hc,h⟩:=dy h;obtain⟨q,D,S⟩:=hv.stored hw;obtain⟨b,h3,h4⟩:=hS.box dh;have Bm:=Fr.dg (ts:=[t]) (Fr.set (b:= .box (yP off w' cs)) dh (.inl ⟨_,rfl⟩));refine⟨_,_,?_,Good.NH hS dh (.inl ⟨_,rfl⟩) ⟨_,rfl,RL.fr Bm (F5 S h4)⟩,h⟩
    show zp ps z sz (x.ev pe) (p.ev pe)=_
    rw[X];simp[zp,h3,D,S.sG,h4.sG];simp_all
   |_=>cases h
 |pa t r i a off=>
  simp[cX]at h;generalize dh:s[t]? =b at h;cases b with
  |none=>cases h
  |some b=>
   cases b with
   |arr q l=>
    obtain⟨hc,h⟩:=dy h;obtain⟨a',OT,hk⟩:=cq h;obtain⟨X,dU⟩:=X;obtain⟨rfl,hg⟩:=dU.inv dh;obtain⟨m,rfl,hm⟩:=tI hg;refine⟨_,_,?_,Rc hS dh,hk⟩;show zp ps z sz (x.ev pe) (p.ev pe)=_;rw[X];have Iq:(l.map (RT.pv r))[m]? =Ss (RT.pv r a):=by simp[hm]
    have e1:(GH m).toNat=m:=rfl;simp only[IR,]at hc;obtain⟨⟨c1,c2⟩,c3⟩:=hc;have hj:u≠ .k8:=by
     intro e;subst e;have:=RT.xg OT;have hq:=congrArg (λl=>l[off]?) this;have rJ:=Sw c2;have yB:sz=1:=by have:=If c1;simpa[SV.cells]using this.symm
     have iY:off<(h1 r):=by omega
     have Pf:off<(RT.sv r a).length:=by rw[RT.Ra];exact iY
     simp[yP,SV.cells]at hq;simp[D5 (Y2 Pf),]at hq;have: ∀(r:J PT) (b:RT r) (n:Nat),(RT.sv r b)[n]?≠Ss .k8:=by
      intro r
      induction r with
      |nil=>intro b n h;simp[RT.sv]at h
      |cons p rest ih=>
       intro b n;cases rest with
       |nil=>cases n<;>cases p<;>simp[RT.sv,PT.sv]
       |cons p2 anI=>cases n with
        |zero=>cases p<;>simp[RT.sv,PT.sv]
        |succ n=>simpa[RT.sv]using ih b.2 n
     grind
    have VP:=hv.cells hj;have Ef:=RT.xg OT;have h5:RL s (RT.sv r a') (yh off (x.ev pe).cells (RT.pv r a)):=by
     grind[F5,PD]
    have h6:=F4 r a' h5;have VQ:(x.ev pe).di=Ss (x.ev pe).cells:=by
     unfold PV.di;rw[Do ?_];have yN:=RT.plain r a';rw[<-h6]at yN;unfold yh at yN
     grind
    simp only[zp,hS.arr dh,e1,Iq,VQ,VP.sG,RT.EV]
    grind
   |_=>cases h
 |pb t i off=>
  simp[cX]at h;generalize dh:s[t]? =b at h;cases b with
  |none=>cases h
  |some b=>
   cases b with
   |arr r l=>
    obtain⟨hc,h⟩:=dy h;obtain⟨e',X,dU⟩:=X;have FU:=dU.inv dh;rw[Option.isSome_iff_exists]at FU;obtain⟨a0,hg⟩:=FU;obtain⟨m,rfl,hm⟩:=tI hg;have Iq:(l.map (RT.pv r))[m]? =Ss (RT.pv r a0):=by simp[hm]
    have e1:(GH m).toNat=m:=rfl;simp only[IR,]at hc;obtain⟨⟨c1,c2⟩,c3⟩:=hc;cases yB:Md sz (h1 r)with
    |true=>
     rw[yB]at h;obtain⟨a',OT,hk⟩:=cq h;obtain⟨hp,I⟩:=hv.ofRow OT;have YM:=If yB;have JK:off=0:=by have:=Sw c2;omega
     subst JK;refine⟨_,_,?_,Rc hS dh,hk⟩;show zp ps z sz (x.ev pe) (p.ev pe)=_;rw[X];simp only[zp,hS.arr dh,e1,Iq,hp,RT.EV];rw[Do (by grind)];have:yh 0 (RT.pv r a') (RT.pv r a0)=RT.pv r a':=by
      unfold yh
      grind[RT.EV,List.drop_of_length_le]
     rw[this]
    |false=>
     rw[yB]at h;obtain⟨a,ha,h⟩:=dw h;obtain⟨a',OT,hk⟩:=cq h;rw[hg]at ha;injection ha with ha;subst ha;refine⟨_,_,?_,Rc hS dh,hk⟩;show zp ps z sz (x.ev pe) (p.ev pe)=_;rw[X];have hj:u≠ .k8:=by
      intro e;subst e;have:=RT.xg OT;have hq:=congrArg (λl=>l[off]?) this;have rJ:=Sw c2;have yB:sz=1:=by have:=If c1;simpa[SV.cells]using this.symm
      have iY:off<(h1 r):=by omega
      have Pf:off<(RT.sv r a0).length:=by rw[RT.Ra];exact iY
      simp[yP,SV.cells]at hq;simp[al,D5 (Y2 Pf),Nat.sub_self,]at hq;have: ∀(r:J PT) (b:RT r) (n:Nat),(RT.sv r b)[n]?≠Ss .k8:=by
       intro r
       induction r with
       |nil=>intro b n h;simp[RT.sv]at h
       |cons p rest ih=>
        intro b n;cases rest with
        |nil=>cases n<;>cases p<;>simp[RT.sv,PT.sv]
        |cons p2 anI=>cases n with
         |zero=>cases p<;>simp[RT.sv,PT.sv]
         |succ n=>simpa[RT.sv]using ih b.2 n
      grind
     have VP:=hv.cells hj;have Ef:=RT.xg OT;have h5:RL s (RT.sv r a') (yh off (x.ev pe).cells (RT.pv r a0)):=by
      grind[F5,PD]
     have h6:=F4 r a' h5;have VQ:(x.ev pe).di=Ss (x.ev pe).cells:=by
      unfold PV.di;rw[Do ?_];have yN:=RT.plain r a';rw[<-h6]at yN;unfold yh at yN
      grind
     simp only[zp,hS.arr dh,e1,Iq,VQ,VP.sG,RT.EV]
     grind
   |_=>cases h
 |_=>cases h
end
end Go.Vm
/- Operation by operation, third part: slices, new blocks, append, sets; all of them together. -/
namespace Go.Vm
section
variable {R' ρ : Type} {w : R' -> ρ} {y : ρ} {s : J SB} {ps : dp} {e : SE} {pe : Env} {z : J Nat} {k : jf -> jS R'}
def MU(pe:Env)(o:O jd):O (O Nat):=match o with|none=>Ss KN|some a=>(nL (a.ev pe)).map Ss
theorem Cg(hE:fx s e pe){o:O jd}{d a:Int}{n:Nat}(h:JY e d o=Ss a)(hd:d=GH n)(h0:0<=a): ∃b,MU pe o=Ss b/\b.getD n=a.toNat:=by
 cases o with
 |none=>injection h with h;subst h hd;exact⟨KN,rfl,rfl⟩
 |some x=>
  simp[JY]at h;split at h
  ·rename_i ka m X
   injection h with h;subst h;obtain⟨b,rfl⟩:=WF h0;refine⟨Ss b,?_,rfl⟩;simp[MU,sJ hE X];rfl
  cases h
theorem Hv{aT:Nat}{x:jd}{lo N mx:O jd}{l h m:O Nat}{v:PV}(he:BT aT (x.ev pe)=YD)(D:MU pe lo=Ss l)(S:MU pe N=Ss h)(h3:MU pe mx=Ss m)(hv:yi (x.ev pe) l h m=Ss v):
 cd pe ps z (.Yx aT x lo N mx)=Ss {v:=v}:=by
 have e:cd pe ps z (.Yx aT x lo N mx)=(match MU pe lo,MU pe N,MU pe mx with|some l,Ss h,Ss m=>(yi (x.ev pe) l h m).map λv=>({v}:v7)|_,_,_=>KN):=by simp[cd,he,];rfl
 grind
theorem hnc{α:Type}{l r:J α}{lo N:Int}(h:gQ l lo N=Ss r): ∃a b:Nat,lo=GH a/\N=GH b/\a<=b/\b<=h1 l/\r=(l.drop a).take (b-a):=by
 unfold gQ at h;split at h
 ·rename_i hc
  obtain⟨a,rfl⟩:=WF hc.1;obtain⟨b,rfl⟩:=WF (Vf hc.1 hc.2.1);injection h with h;exact⟨a,b,rfl,rfl,by omega,by omega,by rw[<-h];simp⟩
 cases h
theorem Re(hE:fx s e pe)(hS:dj s ps){aT t off len cap:Nat}{ex:Bool}{x:jd}{lo N mx:O jd}(X:x.ev pe= .own t aT off len cap ex)(dU:GR s t aT)(h:Y' e t off len cap ex lo N mx k ρ w=Ss y):
 jY s ps (cd pe ps z (.Yx aT x lo N mx)) k ρ w y:=by
 obtain⟨a,ha,h⟩:=cq h;obtain⟨b,hb,h⟩:=cq h;have he:BT aT (x.ev pe)=YD:=by rw[X];simp[BT]
 cases mx with
 |none=>
  obtain⟨hc,h⟩:=lT h;simp[]at hc;obtain⟨⟨c1,c2⟩,c3⟩:=hc;obtain⟨l,D,S⟩:=Cg hE ha rfl c1;obtain⟨u,h3,h4⟩:=Cg hE hb rfl (Vf c1 c2);refine jY.val hS h (Hv he D h3 rfl ?_) ⟨aT,rfl,dU⟩;rw[X];have c4:(Pc a.toNat b.toNat&&Pc b.toNat cap)=YD:=by have c3':=c3;simp;omega
  simp[yi,S,h4,c4,]
 |some fi'=>
  dsimp only at h;generalize hm:cJ e fi'=vm at h;cases vm with
  |int r19 c=>
   obtain⟨hc,h⟩:=lT h;simp[]at hc;obtain⟨⟨⟨c1,c2⟩,c3⟩,c4⟩:=hc;obtain⟨l,D,S⟩:=Cg hE ha rfl c1;obtain⟨u,h3,h4⟩:=Cg hE hb rfl (Vf c1 c2);have OR:=Vf (Vf c1 c2) c3;obtain⟨c,rfl⟩:=WF OR;refine jY.val hS h (Hv he D h3 (by simp only[MU,sJ hE hm];rfl) ?_) ⟨aT,rfl,dU⟩;rw[X];have c5:(Pc a.toNat b.toNat&&Pc b.toNat c&&Pc c cap)=YD:=by have c4':=c4;simp;omega
   simp only[yi,S,h4,c5,];rfl
  |_=>cases h
theorem afH(hE:fx s e pe)(hS:dj s ps){aT:Nat}{x:jd}{lo N mx:O jd}(h:uD e s z (.Yx aT x lo N mx) k ρ w=Ss y):jY s ps (cd pe ps z (.Yx aT x lo N mx)) k ρ w y:=by
 simp[uD]at h;have X:=fb hE x;unfold anC at h;generalize cJ e x=v at h X;cases v with
 |sl r l=>
  cases mx with
  |some _=>cases h
  |none=>
   obtain⟨he,h⟩:=dy h;have he:=If he;obtain⟨a,ha,h⟩:=cq h;obtain⟨b,hb,h⟩:=cq h;obtain⟨m,hm,hk⟩:=dw h;obtain⟨n1,n2,rfl,rfl,c1,c2,rfl⟩:=hnc hm;obtain⟨u1,D,S⟩:=Cg hE ha rfl (by simp);obtain⟨u2,h3,h4⟩:=Cg hE hb rfl (by simp);have ao:=X;subst he;refine jY.val hS hk (Hv (by rw[ao];simp[BT]) D h3 rfl ?_) rfl;rw[ao];have Vq:u1.getD 0=n1:=by rw[S];rfl
   have h4':u2.getD (l.map (RT.pv r)).length=n2:=by grind
   have c3:(Pc n1 n2&&Pc n2 (l.map (RT.pv r)).length)=YD:=by simp[c1,c2]
   simp only[yi,Vq,h4',c3,if_true,Bool.false_and,SH,vk]
 |own t ex=>
  simp[cX]at h;generalize dh:s[t]? =b at h;cases b with
  |none=>cases h
  |some b=>
   cases b with
   |arr r l=>
    obtain⟨he,hk⟩:=dy h;have he:=If he;obtain⟨e',n',X,dU⟩:=X;obtain⟨rfl,rfl⟩:=dU.inv dh;subst he;have Mj:GR s t (h1 r):= .inl ⟨r,l,dh,rfl⟩;have gen:Y' e t 0 (h1 l) (h1 l) ex lo N mx k ρ w=Ss y->jY s ps (cd pe ps z (.Yx (h1 r) x lo N mx)) k ρ w y:=λh=>Re hE hS X Mj h
    have he:BT (h1 r) (x.ev pe)=YD:=by rw[X];simp[BT]
    cases mx with
    |some m=>simp_all
    |none=>
     cases lo with
     |some _=>grind
     |none=>
      cases N with
      |none=>refine jY.val hS hk (Hv he rfl rfl rfl ?_) ⟨h1 r,h1 l,rfl,dU⟩;rw[X];simp[yi]
      |some ho=>
       dsimp only at hk;generalize hh:cJ e ho=vh at hk;cases vh with
       |int kh b=>
        obtain⟨m,hm,hk⟩:=dw hk;obtain⟨n1,n2,h0,rfl,c1,c2,rfl⟩:=hnc hm;refine jY.val hS hk (Hv he rfl (by simp only[MU,sJ hE hh];rfl) rfl ?_) ⟨h1 r,rfl,Mj⟩;rw[X];have c3:(Pc 0 n2&&Pc n2 (h1 l))=YD:=by simp[c2]
        simp only[yi,OH,Zf,c3,];rfl
       |_=>cases hk
   |_=>cases h
 |pre t len cap ex=>
  simp[cX]at h;generalize dh:s[t]? =b at h;cases b with
  |none=>cases h
  |some b=>
   cases b with
   |arr r l=>
    obtain⟨he,hk⟩:=dy h;have he:=If he;obtain⟨e',X,dU⟩:=X;have:=dU.inv dh;subst this;subst he;have gen:Y' e t 0 len cap ex lo N mx k ρ w=Ss y->jY s ps (cd pe ps z (.Yx (h1 r) x lo N mx)) k ρ w y:=λh=>Re hE hS X dU h
    have he:BT (h1 r) (x.ev pe)=YD:=by rw[X];simp[BT]
    cases mx with
    |some m=>simp_all
    |none=>
     cases lo with
     |some _=>grind
     |none=>
      cases N with
      |none=>
       obtain⟨Ui,hk⟩:=lT hk;refine jY.val hS hk (Hv he rfl rfl rfl ?_) ⟨h1 r,rfl,dU⟩;rw[X];have c3:(Pc 0 len&&Pc len cap)=YD:=by simp[Ui]
       simp only[yi,OH,c3,];simp
      |some ho=>
       dsimp only at hk;generalize hh:cJ e ho=vh at hk;cases vh with
       |int kh b=>
        obtain⟨hc,hk⟩:=lT hk;simp[]at hc;obtain⟨c1,c2⟩:=hc;obtain⟨b,rfl⟩:=WF c1;refine jY.val hS hk (Hv he rfl (by simp only[MU,sJ hE hh];rfl) rfl ?_) ⟨h1 r,rfl,dU⟩;rw[X];have c3:(Pc 0 b&&Pc b cap)=YD:=by simp_all
        simp only[yi,OH,Zf,c3,];rfl
       |_=>cases hk
   |_=>cases h
 |part t off len cap ex=>
  simp[cX]at h;generalize dh:s[t]? =b at h;cases b with
  |none=>cases h
  |some b=>
   cases b with
   |arr r l=>
    obtain⟨he,hk⟩:=dy h;have he:=If he;obtain⟨e',X,dU⟩:=X;have:=dU.inv dh
    grind[Re]
   |_=>cases h
 |_=>cases h
theorem Ch{b:SB}:(s++[b])[h1 s]? =Ss b:=by simp
theorem bU: ∀{v:PV} {p:PT},bm v=Ss p->p.pv p.zero=v
 | .int k n,p,h=>by
  simp[bm]at h;split at h
  ·injection h with h;subst h;rfl
  cases h
 | .bool b,p,h=>by
  simp[bm]at h;split at h
  ·injection h with h;subst h;rfl
  cases h
 | .undef,_,h| .oI,_,h| .str _,_,h| .agg _,_,h| .cT _,_,h| .sl _ _ _,_,h| .own _ _ _ _ _ _,_,h| .ptr _ _ _ _,_,h| .cj _ _,_,h| .mp _,_,h| .fY _ _ _,_,h| .fC,_,h=>by cases h
theorem II : ∀ {l : J PV} {r : J PT}, MI l = Ss r -> RT.pv r (RT.zero r) = l
  | [], r, h => by injection h with h; subst h; rfl
  | v :: vs, r, h => by
    simp[MI]at h
    split at h
    ·rename_i p q D S
     injection h with h; subst h
     have e1 := bU D
     have e2 := II S
     cases q with
     | nil =>
       have : vs = [] := by
         cases vs with
         | nil => rfl
         | cons a b => simp only[RT.pv]at e2; cases e2
       subst this
       show [p.pv p.zero] = _
       rw[e1]
     | cons p2 q2 =>
       show p.pv p.zero :: RT.pv _ (RT.zero (p2 :: q2)) = _
       rw[e1, e2]
    cases h
theorem afI(hE:fx s e pe)(hS:dj s ps){aT:Nat}{zero:Row}{l c:jd}(h:uD e s z (.mo aT zero l c) k ρ w=Ss y):jY s ps (cd pe ps z (.mo aT zero l c)) k ρ w y:=by
 simp[uD]at h;generalize I:cJ e l=vl at h;cases vl with
 |int kl n=>
  generalize hc:cJ e c=vc at h;cases vc with
  |int kc m=>
   obtain⟨O9,D⟩:=lT h;obtain⟨r,hr,S⟩:=cq D;obtain⟨he,h3⟩:=dy S;obtain⟨x,X,hk⟩:=dw h3;have O9:n=m:=by simpa using O9
   subst O9;have he:=If he;subst he;unfold rF at X;split at X
   ·rename_i JQ
    injection X with X;subst X;obtain⟨a,rfl⟩:=WF JQ.1;have D:(Pc a a&&Pc a gX)=YD:=by simp[gX];omega
    refine⟨_,_,?_,Good.new hS (q:= .arr (h1 r) (Ii a zero)) (p:= .own (h1 s) (h1 r) 0 a a YD) ?_ ?_,hk⟩
    ·have e1:nL (.int kl (a:Int))=Ss a:=rfl
     have e2:nL (.int kc (a:Int))=Ss a:=rfl;simp only[cd,sJ hE I,sJ hE hc,e1,e2];rw[Do D,hS.len]
    ·show _=_
     simp[II hr]
    exact⟨h1 r,a,rfl,.inl ⟨r,_,Ch,rfl,by simp⟩⟩
   cases X
  |_=>cases h
 |_=>cases h
def EW{α:Type}:J α->J (Nat×α)->J α
 |l,[]=>l
 |l,(i,a)::r=>EW (l.set i a) r
theorem hrs{α:Type}: ∀(q:J _) (l:J α) (i:Nat),(EW l q)[i]? =(l[i]?).map λz=>rowAt i z q
 | [],l,i=>by simp[EW,rowAt]
 |(j,a)::q,l,i=>by
  simp[EW,rowAt];rw[hrs q _ i,KJ]
  by_cases Nf:j=i
  ·subst Nf
   cases I:l[j]? with
   |none=>
    grind
   |some z=>have:=(PP.1 I).1;simp[this]
  grind[If]
theorem htx{α:Type}(f:Nat->α): ∀(n i j:Nat),(VB f i n)[j]? =if j<n then Ss (f (i+j))else KN
 |0,i,j=>by simp[VB]
 |n+1,i,0=>by simp[VB]
 |n+1,i,j+1=>by simp only[VB,List.getElem?_cons_succ];rw[htx f n _ j,show i+1+j=i+(j+1) by omega];simp
theorem hrd{α:Type}(z:α)(n:Nat)(q:J _):EW (Ii n z) q=VB (λi=>rowAt i z q) 0 n:=by
 apply Vg
 grind[hrs,htx]
theorem hck(hE:fx s e pe){r:J PT}{n:Nat}: ∀{parts:J _} {q:J _} {l:J _},Xr r e n parts=Ss q->h1 l=n->
 xF (parts.map λp=>(p.1,p.2.ev pe)) (l.map (RT.pv r)) (h1 r)=Ss ((EW l q).map (RT.pv r))
 | [],q,l,h,I=>by injection h with h;subst h;rfl
 |p::parts,q,l,h,I=>by
  simp[Xr]at h;split at h
  ·rename_i a q' D S
   cases hb:SL p.1 n with
   |false=>grind
   |true=>rw[hb]at h;injection h with h;subst h;have hp:=((fb hE p.2).ofRow D).1;simp[xF,hp,RT.EV,I,hb,];rw[<-List.map_set];exact hck hE S (by simp[I])
  cases h
theorem adD(hE:fx s e pe)(hS:dj s ps){aT n:Nat}{zero:Row}{parts:J _}(h:uD e s z (.Ia aT n zero parts) k ρ w=Ss y):jY s ps (cd pe ps z (.Ia aT n zero parts)) k ρ w y:=by
 obtain⟨r,hr,D⟩:=cq h;obtain⟨he,S⟩:=dy D;obtain⟨q,hq,hk⟩:=cq S;have he:=If he;subst he;have hf:=hck hE (l:=Ii n (RT.zero r)) hq (by simp);rw[hrd]at hf;have hz:(Ii n (RT.zero r)).map (RT.pv r)=Ii n zero:=by simp[II hr]
 rw[hz]at hf;refine⟨_,_,?_,Good.new hS (b:= .arr r _) (p:= .own (h1 s) (h1 r) 0 n n YD) rfl ?_,hk⟩
 ·simp only[cd,hf,hS.len]
  rfl
 refine⟨h1 r,n,rfl,.inl ⟨r,_,Ch,rfl,?_⟩⟩
 rw[<-hrd];have: ∀(q:J _) (l:J (RT r)),(EW l q).length=(h1 l):=by
  intro q
  induction q with
  |nil=>intro l;rfl
  |cons p q ih=>intro l;simp[EW,ih]
 rw[this];simp
theorem hnp: ∀{cs:J SV} {q:J PV} {l:J Int},RL s cs q->Xs cs=Ss l->q=l.map (.int .i64)
 | [],q,l,h,N=>by injection N with N;subst N;exact h
 |x::xs,q,l,h,N=>by
  obtain⟨p,q,rfl,D,S⟩:=h.cons_inv;simp[Xs]at N;split at N
  ·rename_i n l' X
   injection N with N;subst N;rw[D,hnp S X];rfl
  cases N
theorem abX{v:SV}{p:PV}{n:O Nat}{l:J Int}(h:R s v p)(hk:Uk n v=Ss l):p=Aq l/\oa n (Aq l)=YD/\(Aq l).di=Ss (Aq l).cells/\(Aq l).cells=l.map (.int .i64)/\(n=KN->h1 l=1)/\(∀m,n=Ss m->h1 l=m/\m≠1):=by
 cases n with
 |none=>
  cases v with
  |int kk a=>
   cases kk with
   |i64=>injection hk with hk;subst hk;exact⟨h,rfl,rfl,rfl,λ_=>rfl,λm hm=>by cases hm⟩
   |_=>cases hk
  |_=>cases hk
 |some m=>
  cases v with
  |agg cs=>
   simp[Uk]at hk;cases hc:(Md (h1 cs) m&&!Nat.beq m 1)with
   |false=>grind
   |true=>
    rw[hc]at hk;simp[]at hc;obtain⟨c1,c2⟩:=hc;obtain⟨q,rfl,hq⟩:=h;have Y3:=hnp hq hk;have fJ:(h1 l)=m:=by have:=hq.sG;grind
    have PM:m≠1:=by intro e;subst e;cases c2
    have Xk:Aq l= .agg (l.map (.int .i64)):=by
     unfold Aq
     grind
    refine⟨by rw[Xk,Y3],by rw[Xk];simp[oa,fJ],?_,by rw[Xk];rfl,(λh=>by cases h),λm' hm=>by grind⟩;rw[Xk];unfold PV.di;simp[PV.cells,PV.plain]
  |_=>cases hk
theorem C4: ∀(a b:J Int),h1 a=h1 b->eu (a.map (.int .i64)) (b.map (.int .i64))=Ss (a==b)
 | [],[],_=>rfl
 |x::a,y::b,h=>by
  have ih:=C4 a b (by simpa using h);simp[eu,zo,hln,]
  grind
 | [],_::_,h=>by simp at h
 |_::_,[],h=>by simp at h
theorem J3{n : O Nat}{a : J Int}(ha : (Aq a).cells = a.map (.int .i64))(hn : (n = KN -> (h1 a) = 1) /\ (∀ m, n = Ss m -> (h1 a) = m /\ m ≠ 1)) : ∀ (l : J _) (i : Nat), (∀ r, iI n (Aq a) (l.map J2) i = Ss r -> (match r with | none => Lw l a = hl | some j => i <= j /\ Lw l a = YD /\ l[j - i]? = Ss a))
  | [], i, r, h => by
    simp[iI, ]at h
    subst h; rfl
  | b :: l, i, r, h => by
    simp only[KL, J2, iI]at h
    split at h
    ·rename_i hk
     have hb : (Aq b).cells = b.map (.int .i64) /\ (h1 a) = (h1 b) := by
       cases n with
       | none =>
         have I := hn.1 rfl
         unfold Aq at hk ⊢
         split at hk
         ·exact⟨rfl, by simpa using I⟩
         cases hk
       | some m =>
         obtain⟨I, hm⟩ := hn.2 m rfl
         unfold Aq at hk ⊢
         split at hk
         ·cases hk
         simp[oa, ]at hk
         exact⟨rfl, by omega⟩
     rw[ha, hb.1, C4 a b hb.2]at h
     cases Sb : a == b with
     | true =>
       rw[Sb]at h
       injection h with h; subst h
       have : a = b := by simpa using Sb
       subst this
       exact⟨h9 _, by simp[Lw], by simp⟩
     | false =>
       rw[Sb]at h
       have := J3 ha hn l _ r h
       cases r with
       | none => simpa[Lw, Sb]using this
       | some j =>
         obtain⟨D, S, h3⟩ := this
         refine⟨by omega, by simp[Lw]at S; simp[Lw, S], ?_⟩
         grind
    cases h
theorem ai0{n:O Nat}{a:J Int}(ha:(Aq a).cells=a.map (.int .i64))(hn:(n=KN->h1 a=1)/\(∀m,n=Ss m->h1 a=m/\m≠1)){l:J _}(I:l.all (λb=>oa n (Aq b))=YD): ∀i,∃r,iI n (Aq a) (l.map J2) i=Ss r:=by
 induction l with
 |nil=>intro i;exact⟨KN,rfl⟩
 |cons b l ih=>
  intro i;simp only[List.all_cons,IR]at I;obtain⟨r,hr⟩:=ih I.2 (i+1);simp[J2,iI,];have hb:(Aq b).cells=b.map (.int .i64)/\h1 a=(h1 b):=by
   have hk:=I.1;cases n with
   |none=>
    have sH:=hn.1 rfl;unfold Aq at hk ⊢;split at hk
    ·exact⟨rfl,by simpa using sH⟩
    cases hk
   |some m=>
    obtain⟨sH,hm⟩:=hn.2 m rfl;unfold Aq at hk ⊢;split at hk
    ·cases hk
    simp[oa,]at hk
    exact⟨rfl,by omega⟩
  grind[C4]
theorem he1{n:O Nat}{a:J Int}(hn:(n=KN->h1 a=1)/\(∀m,n=Ss m->h1 a=m/\m≠1)){l:J _}(I: ∀b∈l,h1 b=h1 a):l.all (λb=>oa n (Aq b))=YD:=by
 rw[YH];intro b hb;have fJ:=I b hb;cases n with
 |none=>
  have D:=hn.1 rfl;rw[D]at fJ
  match b,fJ with
  | [x],_=>rfl
 |some m=>
  obtain⟨D,S⟩:=hn.2 m rfl;unfold Aq;split
  ·grind
  simp[oa];omega
theorem hol{a:J Int}{l:J _}(h:uO a l=YD): ∀b∈l,h1 b=(h1 a):=by intro b hb;exact If (YH.1 h b hb)
theorem PT.anJ{s:J SB}{p:PT}{v:SV}{q:PV}{a:p.T}(h:R s v q)(ho:p.of v=Ss a):q=p.pv a:=by
 cases p with
 |i k=>
  cases v with
  |int l n=>
   simp[PT.of]at ho;cases hk:iA l k with
   |false=>grind
   |true=>rw[hk]at ho;obtain rfl:=hZ.1 hk;injection ho with ho;subst ho;exact h
  |_=>cases ho
 |b=>
  cases v with
  |bool x=>injection ho with ho;subst ho;exact h
  |_=>cases ho
theorem MZ{β:Type}(g:Int×β->PV×PV)(hg: ∀x,(g x).1= .int .i64 x.1)(k:Int): ∀(l:J _) (i:Nat),
 (∃j x,iI KN (.int .i64 k) (l.map g) i=Ss (Ss (i+j))/\l[j]? =Ss x/\(∀z,lr z l k=x.2)/\ ∀a,nO l k a=l.set j (k,a))\/
 (iI KN (.int .i64 k) (l.map g) i=Ss KN/\(∀z,lr z l k=z)/\ ∀a,nO l k a=l++[(k,a)])
 | [],i=> .inr ⟨rfl,λ_=>rfl,λ_=>rfl⟩
 |x::l,i=>by
  have hk:oa KN (g x).1=YD:=by rw[hg];rfl
  have he:eu (PV.int .i64 k).cells (g x).1.cells=Ss (k==x.1):=by
   rw[hg];show eu [.int .i64 k] [.int .i64 x.1]=_;simp[eu,zo,iA,]
   grind
  have hf:iI KN (.int .i64 k) ((x::l).map g) i=(match Ss (k==x.1)with
   |some YD=>Ss (Ss i)
   |some hl=>iI KN (.int .i64 k) (l.map g) (i+1)
   |none=>KN):=by
   rw[KL];show(if oa KN _ then _ else KN)=_
   grind
  cases hb:k==x.1 with
  |true=>rw[hb]at hf;exact .inl ⟨0,x,hf,rfl,λz=>by simp[lr,hb,],λa=>by simp[nO,hb,]⟩
  |false=>
   rw[hb]at hf;rcases MZ g hg k l (i+1)with⟨j,y,D,S,h3,h4⟩|⟨D,S,h3⟩
   ·refine .inl ⟨j+1,y,?_,by simpa using S,λz=>?_,λa=>?_⟩
    ·grind
    ·simp[lr,hb,h3]
    simp[nO,hb,h4,]
   exact .inr ⟨hf.trans D,λz=>by simp[lr,hb,S],λa=>by simp[nO,hb,h3,]⟩
theorem hlb(p:PT)(k:Int)(l:J _):
 (∃(j:Nat) (x:RT [.i .i64,p]),iI KN (.int .i64 k) (l.map (MT p)) 0=Ss (Ss j)/\l[j]? =Ss x/\(∀z,p.get z l k=x.2)/\ ∀a,p.put l k a=l.set j (k,a))\/
 (iI KN (.int .i64 k) (l.map (MT p)) 0=Ss KN/\(∀z,p.get z l k=z)/\ ∀a,p.put l k a=l++[(k,a)]):=by
 cases p with
 |i d=>
  rcases MZ (MT (.i d)) (λ_=>rfl) k l 0 with⟨j,x,D,S,h3,h4⟩|h
  ·exact .inl ⟨j,x,by grind,S,h3,h4⟩
  exact .inr h
 |b=>
  rcases MZ (MT .b) (λ_=>rfl) k l 0 with⟨j,x,D,S,h3,h4⟩|h
  ·exact .inl ⟨j,x,by grind,S,h3,h4⟩
  exact .inr h
theorem PT.ata{s:J SB}(p:PT)(a:p.T):R s (p.sv a) (p.pv a):=by cases p<;>rfl
theorem PT.hn0(p:PT)(a:p.T):(p.pv a).di=Ss [p.pv a]:=by cases p<;>rfl
theorem ala(hE:fx s e pe)(hS:dj s ps){n:O Nat}{zero:PV}{ok:Bool}{m q:jd}(h:uD e s z (.lookup n zero ok m q) k ρ w=Ss y):jY s ps (cd pe ps z (.lookup n zero ok m q)) k ρ w y:=by
 simp[uD]at h;have X:=fb hE m;generalize cJ e m=v at h X;cases v with
 |mp t=>
  simp[cX]at h;generalize dh:s[t]? =b at h;cases b with
  |none=>cases h
  |some b=>
   cases b with
   |set l=>
    cases zero with
    |bool b=>
     cases b with
     |true=>cases h
     |false=>
      cases ok with
      |true=>cases h
      |false=>
       obtain⟨a,ha,D⟩:=cq h;obtain⟨b,hb,hk⟩:=dw D;obtain⟨k1,k2,k3,k4,k5⟩:=abX (fb hE q) ha;unfold Ta at hb;cases CL:uO a l with
       |false=>grind
       |true=>
        rw[CL]at hb;injection hb with hb;subst hb;obtain⟨r,hr⟩:=ai0 k4 k5 (he1 k5 (hol CL)) 0;have hf:=J3 k4 k5 l 0 r hr;refine jY.rd hS hk ?_ rfl;show Ar ps n _ hl _ _=_;rw[X,k1];simp only[Ar,hS.anH dh,k2,hr];cases r with
        |none=>grind
        |some j=>
         obtain⟨_,S,h3⟩:=hf;have:(l.map J2)[j]? =Ss (J2 a):=by grind
         simp[this,S,J2]
    |_=>cases h
   |nq p l=>
    cases n with
    |some _=>cases h
    |none=>
     cases ok with
     |true=>cases h
     |false=>
      have hq:=fb hE q;generalize cJ e q=u at h hq;cases u with
      |int d a=>
       cases d with
       |i64=>
        obtain⟨a27,hz,hk⟩:=cq h;have anK:=PT.anJ (VN s zero) hz;refine jY.rd hS hk ?_ (PT.ata p _);show Ar ps KN zero hl _ _=_;rw[X,hq];rcases hlb p a l with⟨j,x,D,S,h3,_⟩|⟨D,S,_⟩
        ·have h5:(l.map (MT p))[j]? =Ss (MT p x):=by simp[S]
         simp[Ar,hS.Wz dh,oa,D,h5,h3,MT,]
        simp[Ar,hS.Wz dh,oa,D,S,anK,]
       |_=>cases h
      |_=>cases h
   |_=>cases h
 |_=>cases h
theorem abY(hE:fx s e pe)(hS:dj s ps){n:O Nat}{m q x:jd}(h:uD e s z (.Qx n m q x) k ρ w=Ss y):jY s ps (cd pe ps z (.Qx n m q x)) k ρ w y:=by
 simp[uD]at h;have X:=fb hE m;generalize cJ e m=v at h X;cases v with
 |mp t=>
  simp[cX]at h;generalize dh:s[t]? =b at h;cases b with
  |none=>cases h
  |some b=>
   cases b with
   |set l=>
    obtain⟨hz,h0⟩:=zg h;have hv:=fb hE x;generalize cJ e x=u at h0 hv;cases u with
    |bool b=>
     cases b with
     |false=>cases h0
     |true=>
      obtain⟨a,ha,D⟩:=cq h0;obtain⟨b,hb,hk⟩:=dw D;obtain⟨k1,k2,k3,k4,k5⟩:=abX (fb hE q) ha;unfold Tb at hb;cases CL:uO a l with
      |false=>grind
      |true=>
       rw[CL]at hb;injection hb with hb;subst hb;obtain⟨r,hr⟩:=ai0 k4 k5 (he1 k5 (hol CL)) 0;have hf:=J3 k4 k5 l 0 r hr;refine⟨_,_,?_,Good.NH hS (b:= .set _) dh trivial rfl,hk⟩;show KI ps z n _ _ _=_;rw[X,k1,hv];have p2:(PV.bool YD).di=Ss [.bool YD]:=rfl;simp[KI,hS.anH dh,k2,hz,k3,p2,hr];cases r with
       |none=>simp[H2,hf,J2]
       |some j=>
        obtain⟨_,S,h3⟩:=hf;have h5:l[j]? =Ss a:=by simpa using h3
        have:(l.map J2).set j (Aq a,.bool YD)=l.map J2:=by
         apply Vg;intro i;rw[KJ];split
         ·rename_i rE
          subst rE;have iY:=(PP.1 h5).1;have h6:=(PP.1 h5).2;simp[iY,h6,J2]
         rfl
        simp[H2,S,this]
    |_=>cases h0
   |nq p l=>
    obtain⟨hz,h0⟩:=zg h;cases n with
    |some _=>cases h0
    |none=>
     have hq:=fb hE q;generalize cJ e q=u at h0 hq;cases u with
     |int d a=>
      cases d with
      |i64=>
       obtain⟨r30,hxv,hk⟩:=cq h0;have Wq:=PT.anJ (fb hE x) hxv;refine⟨_,_,?_,Good.NH hS (b:= .nq p _) dh trivial rfl,hk⟩;show KI ps z KN _ _ _=_;rw[X,hq,Wq];have p1:(PV.int .i64 a).di=Ss [.int .i64 a]:=rfl;rcases hlb p a l with⟨j,x,D,_,_,h3⟩|⟨D,_,h3⟩
       ·simp[KI,hS.Wz dh,oa,hz,p1,PT.hn0,D,h3,MT]
       simp[KI,hS.Wz dh,oa,hz,p1,PT.hn0,D,h3,MT]
      |_=>cases h0
     |_=>cases h0
   |_=>cases h
 |_=>cases h
theorem GR.fr'{s s':J SB}{bad:J Nat}{t e:Nat}(h:GR s t e)(hf:Fr bad s s'):GR s' t e:=by
 rcases h with⟨r,l,D,S⟩|D|⟨cs,D,S⟩
 ·rcases hf t _ D with⟨l',k1,_,_⟩|k1
  ·exact .inl ⟨r,l',k1,S⟩
  exact .inr (.inl k1)
 ·exact .inr (.inl (hf t _ D))
 rcases hf t _ D with⟨c2,k1⟩|k1
 ·exact .inr (.inr ⟨c2,k1,S⟩)
 exact .inr (.inl k1)
theorem Hw{α:Type}{l r:J α}(h:bL l=Ss r):r=l/\h1 l<=1048576:=by
 unfold bL at h
 grind
theorem EX{α:Type}{l m r:J α}(h:aQ l m=Ss r):r=l++m/\h1 l+h1 m<=1048576:=by
 unfold aQ at h
 grind
theorem AH: ∀(m l:J Row) (n:Nat),n+h1 m<=h1 l->pX n m l=iL l n m
 | [],l,n,h=>by simp[pX,iL]
 |a::m,l,n,h=>by
  simp[]at h;rw[pX,AH m _ _ (by simp;omega)];unfold iL;rw[List.take_set,List.drop_set];have hn:n<(h1 l):=by omega
  have:(l.take (n+1)).set n a=l.take n++[a]:=by rw[List.take_succ_eq_append_getElem hn,List.set_append_right _ _ (by simp;omega)];simp[D5 (Y2 hn)]
  grind
theorem M1{α β:Type}(f:α->β)(l m:J α)(n:Nat):(iL l n m).map f=iL (l.map f) n (m.map f):=by simp[iL,]
theorem IL{α:Type}(l m:J α)(n:Nat)(h:n+h1 m<=h1 l):(iL l n m).length=(h1 l):=by simp[iL];omega
theorem pok (hE:fx s e pe) (hS:dj s ps) {aT:Nat} {x yy:jd} (h:uD e s z (.append aT x yy) k ρ w=Ss y):jY s ps (cd pe ps z (.append aT x yy)) k ρ w y:=by
 simp [uD] at h;have X:=fb hE x;have Tq:=fb hE yy;unfold hmc at h;generalize cJ e yy=vy at h Tq;cases hc:GP s vy with
 |none=>rw [hc] at h;cases h
 |some cc=>
  obtain ⟨q,m⟩:=cc;rw [hc] at h;obtain ⟨he,h⟩:=dy h;have he:=If he;obtain ⟨KM,ON⟩:=hor hS Tq hc;rw [he] at KM;have C5:cd pe ps z (.append aT x yy)=mN ps z aT (x.ev pe) (yy.ev pe):=rfl;generalize cJ e x=v at h X;cases v with
  |nil e' c=>
   obtain ⟨Ls,h⟩:=dy h;obtain ⟨m',Iq,hk⟩:=dw h;obtain ⟨rfl,rJ⟩:=Hw Iq;refine ⟨_,_,?_,Good.new hS (q:= .arr aT (m'.map (RT.pv q))) (v:= .own (h1 s) hl) (by rw [<- he];rfl) ⟨aT,h1 m',rfl,.inl ⟨q,m',Ch,he.symm,rfl⟩⟩,hk⟩;rw [C5];have atb:=Ls;subst atb;rw [X];unfold mN;rw [KM];cases m' with
   |nil=>simp [hS.len,ON]
   |cons a m'=>
    have S:Pc ((a::m').length) gX=YD:=by simp [gX] at rJ ⊢;omega
    simp [EE] at S;simp [hS.len,ON,S]
  |own t ex=>
   simp [cX] at h;generalize dh:s[t]? =b at h;cases b with
   |none=>cases h
   |some b=>
    cases b with
    |arr r l=>
     dsimp only at h;cases gv:zz q r m with
     |none=>rw [gv] at h;cases h
     |some m2=>
      rw [gv] at h;obtain ⟨rfl,TV,U2⟩:=IE gv;obtain ⟨e',n',X,dU⟩:=X;obtain ⟨rfl,rfl⟩:=dU.inv dh;rw [<- TV] at KM;have Q1:=hS.arr dh;cases ex with
      |true=>
       rcases ia h with ⟨I,h⟩|⟨I,h⟩
       · obtain ⟨m',Iq,hk⟩:=dw h
         obtain ⟨rfl,rJ⟩:=Hw Iq;have I:l=[]:=by simpa using I
         subst I;refine ⟨_,_,?_,Good.new hS (b:= .arr q m') (v:= .own (h1 s) hl) rfl ⟨h1 q,h1 m',rfl,.inl ⟨q,m',Ch,rfl,rfl⟩⟩,hk⟩;rw [C5,X];unfold mN;rw [KM];subst he;cases m' with
         |nil=>simp [hS.len,ON]
         |cons a m'=>
          have S:Pc ((a::m').length) gX=YD:=by simp [gX] at rJ ⊢;omega
          simp [EE] at S;simp [hS.len,ON,S,Q1]
       have hb0:Md (h1 l) 0=hl:=by
        grind [If]
       rcases ia h with ⟨hm,h⟩|⟨hm,h⟩
       · have hm:m2=[]:=by simpa using hm
         subst hm;refine jY.rd hS h ?_ ⟨_,_,rfl,dU⟩;rw [C5,X];unfold mN
         grind
       obtain ⟨l',sH,hk⟩:=dw h
       obtain ⟨rfl,rJ⟩:=EX sH;refine ⟨_,_,?_,Good.new hS (b:= .arr q (l++m2)) (v:= .own (h1 s) hl) rfl ⟨h1 q,(l++m2).length,rfl,.inl ⟨q,l++m2,Ch,rfl,rfl⟩⟩,hk⟩;rw [C5,X];unfold mN;rw [KM];subst he;cases m2 with
       |nil=>cases hm
       |cons a m2=>
        have S:Pc (h1 l+(a::m2).length) gX=YD:=by simp [gX] at rJ ⊢;omega
        simp only [EE] at S;simp [hS.len,ON,S,Q1,SI]
      |false=>
       rcases ia h with ⟨hm,h⟩|⟨hm,h⟩
       · have hm:m2=[]:=by simpa using hm
         subst hm;refine jY.rd hS h ?_ ⟨_,_,rfl,dU⟩;rw [C5,X];unfold mN
         grind
       obtain ⟨hz,h⟩:=zg h
       obtain ⟨l',sH,hk⟩:=dw h;obtain ⟨rfl,rJ⟩:=EX sH;have fJ:(Ly [t] (s.set t .dead)).length=(h1 s):=by rw [C2];simp
       refine ⟨_,_,?_,Good.put hS (ql:=[.arr (h1 q) ((l++m2).map (RT.pv q))]) (v:= .own (h1 s) hl) dh (.inr rfl) rfl rfl
        (fun j b hj=>by
         cases j with
         |zero=>simp at hj;subst hj;exact ⟨_,rfl,rfl⟩
         |succ j=>simp at hj)
        ⟨h1 q,(l++m2).length,rfl,.inl ⟨q,l++m2,by simp_all,rfl,rfl⟩⟩,hk⟩
       rw [C5,X];unfold mN;rw [KM];subst he;cases m2 with
       |nil=>cases hm
       |cons a m2=>
        have S:Pc (h1 l+(a::m2).length) gX=YD:=by simp [gX] at rJ ⊢;omega
        simp only [EE] at S;simp [hS.len,ON,S,Q1,hz,SI]
    |_=>cases h
  |pre t len cap ex=>
   simp [cX] at h;generalize dh:s[t]? =b at h;cases b with
   |none=>cases h
   |some b=>
    cases b with
    |arr r l=>
     dsimp only at h;cases gv:zz q r m with
     |none=>rw [gv] at h;cases h
     |some m2=>
      rw [gv] at h;obtain ⟨rfl,TV,U2⟩:=IE gv;obtain ⟨e',X,dU⟩:=X;have:=dU.inv dh;subst this;rw [<- TV] at KM;have Q1:=hS.arr dh;obtain ⟨hex,h⟩:=zg h;subst hex;rcases ia h with ⟨hm,h⟩|⟨hm,h⟩
      · have hm:m2=[]:=by simpa using hm
        subst hm;refine jY.rd hS h ?_ ⟨_,rfl,dU⟩;rw [C5,X];unfold mN;simp_all
      rcases ia h with ⟨c1,h⟩|⟨c1,h⟩
      · obtain ⟨JQ,hk⟩:=lT h
        simp only [IR,] at JQ;obtain ⟨c2,c3⟩:=JQ;have Uq:=Sw c2;refine ⟨_,_,?_,Good.put hS (ql:=[]) (v:= .pre t (len+h1 m2) cap hl) dh (.inl ⟨_,rfl,IL _ _ _ Uq⟩) rfl rfl
         (fun j b hj=>by simp at hj) ⟨h1 q,rfl,?_⟩,hk⟩
        · rw [C5,X]
          unfold mN;rw [KM];subst he;have pY:pX (0+len) (m2.map (RT.pv q)) (l.map (RT.pv q))=(iL l len m2).map (RT.pv q):=by simp_all [AH,M1,Nat.zero_add]
          grind
        have:=GR.fr' dU ((Fr.dg (ts:=[t]) (Fr.set dh (.inl ⟨_,rfl,IL _ _ _ Uq⟩))).trans (Fr.app [t] _ []))
        exact this
      obtain ⟨WA,h⟩:=zg h
      have hz:has z t=hl:=by
       grind
      obtain ⟨l',sH,h⟩:=dw h;obtain ⟨H9,hk⟩:=lT h;obtain ⟨atc,rJ⟩:=EX sH;subst atc;have aCu:=Sw H9;have YU:(l.take len).length=len:=by grind
      have fJ:(Ly [t] (s.set t .dead)).length=(h1 s):=by rw [C2];simp
      have hal:(l.take len++m2).length=len+(h1 m2):=by grind
      refine ⟨_,_,?_,Good.put hS (ql:=[.arr (h1 q) ((l.take len++m2).map (RT.pv q))]) (v:= .own (h1 s) hl) dh (.inr rfl) rfl rfl
       (fun j b hj=>by
        cases j with
        |zero=>simp at hj;subst hj;exact ⟨_,rfl,rfl⟩
        |succ j=>simp at hj)
       ⟨h1 q,(l.take len++m2).length,rfl,.inl ⟨q,l.take len++m2,by simp_all,rfl,rfl⟩⟩,hk⟩
      rw [C5,X];unfold mN;rw [KM];subst he;cases m2 with
      |nil=>cases hm
      |cons a m2=>
       have S:Pc (len+(h1 m2+1)) gX=YD:=by simp [gX] at rJ ⊢;omega
       simp [EE] at c1 hal;simp [KL,EE,YJ,Q1,Sy,Bool.not_true,Su,if_false,c1,S,hz,hS.len,ON,hal,Mp,Pu,SH]
    |_=>cases h
  |_=>cases h
end
end Go.Vm
/- Operation by operation: all of them. -/
namespace Go.Vm
section
variable {R' ρ : Type} {w : R' -> ρ} {y : ρ} {s : J SB} {ps : dp} {e : SE} {pe : Env} {z : J Nat} {k : jf -> jS R'}
theorem alc(hE:fx s e pe)(hS:dj s ps){aT:Nat}{zero:Row}{x:jd}(h:uD e s z (.clear aT zero x) k ρ w=Ss y):jY s ps (cd pe ps z (.clear aT zero x)) k ρ w y:=by
 simp[uD]at h;have X:=fb hE x;unfold abA at h;generalize cJ e x=v at h X;cases v with
 |part t off len cap ex=>
  simp[cX]at h;generalize dh:s[t]? =b at h;cases b with
  |none=>cases h
  |some b=>
   cases b with
   |arr r l=>
    cases hq:MI zero with
    |none=>rw[hq]at h;cases h
    |some q=>
     rw[hq]at h;obtain⟨hc,D⟩:=dy h;simp only[IR]at hc;obtain⟨xv,he⟩:=hc;have xv:=EM xv;have he:=If he;obtain⟨e',X,dU⟩:=X;have:=dU.inv dh;subst this;subst xv;subst he;rcases ia D with⟨I,hk⟩|⟨I,hk⟩
     ·have I:=If I
      subst I;exact jY.val hS hk (by simp[cd,X]) rfl
     obtain⟨JQ,hk⟩:=lT hk
     simp only[IR,]at JQ;obtain⟨c1,c2⟩:=JQ;have N6:=Sw c1;have fJ:=IL l (Ii len (RT.zero q)) off (by simpa using N6);refine⟨_,_,?_,Good.NH hS dh (.inl ⟨_,rfl,fJ⟩) rfl,hk⟩;cases len with
     |zero=>cases I
     |succ len=>
      have pY:pX off (Ii (len+1) zero) (l.map (RT.pv q))=(iL l off (Ii (len+1) (RT.zero q))).map (RT.pv q):=by rw[M1,AH _ _ _ (by simpa using N6)];simp[II hq]
      simp[cd,X,hS.arr dh,c2,pY]
   |_=>cases h
 |_=>cases h
theorem Hx(hS:dj s ps){t off len cap:Nat}{ex:Bool}{r:J PT}{l:J _}{x yy:jd}{vy:SV}(dh:s[t]? =Ss (.arr r l))(X:x.ev pe= .own t (h1 r) off len cap ex)(Tq:R s vy (yy.ev pe))
 (h:MK s z t r l off len vy k ρ w=Ss y):jY s ps (cd pe ps z (.copy (h1 r) x yy)) k ρ w y:=by
 unfold MK at h;cases hc:GP s vy with
 |none=>rw[hc]at h;cases h
 |some cc=>
  obtain⟨q,m⟩:=cc;rw[hc]at h;dsimp only at h;cases gv:zz q r m with
  |none=>rw[gv]at h;cases h
  |some m2=>
   rw[gv]at h;dsimp only at h;obtain⟨xv,TV,U2⟩:=IE gv;subst xv;obtain⟨KM,ON⟩:=hor hS Tq hc;rw[<-TV]at KM;have M4:(m2.map (RT.pv q)).take len=(m2.take len).map (RT.pv q):=by simp
   generalize m2.take len=mm at h M4;rcases ia h with⟨hm,hk⟩|⟨hm,hk⟩
   ·have hm:mm=[]:=by simpa using hm
    subst hm;refine jY.rd hS hk ?_ rfl;simp[cd,KM,X,M4,ON]
   obtain⟨JQ,hk⟩:=lT hk
   simp only[IR,]at JQ;obtain⟨c1,c2⟩:=JQ;have N6:=Sw c1;have fJ:=IL l mm off N6;refine⟨_,_,?_,Good.put hS (ql:=[]) (v:= .int .i64 _) dh (.inl ⟨_,rfl,fJ⟩) rfl rfl (λj b hj=>by simp at hj) rfl,hk⟩;have pY:pX off (mm.map (RT.pv q)) (l.map (RT.pv q))=(iL l off mm).map (RT.pv q):=by
    grind[M1,AH]
   cases mm with
   |nil=>cases hm
   |cons a mm=>simp[]at pY M4;simp[cd,KM,X,M4,hS.arr dh,c2,pY,ON,]
theorem ab1(hE:fx s e pe)(hS:dj s ps){aT:Nat}{x yy:jd}(h:uD e s z (.copy aT x yy) k ρ w=Ss y):jY s ps (cd pe ps z (.copy aT x yy)) k ρ w y:=by
 simp[uD]at h;have X:=fb hE x;have Tq:=fb hE yy;unfold ah3 at h;generalize cJ e x=v at h X;cases v with
 |own t ex=>
  simp[cX]at h;generalize dh:s[t]? =b at h;cases b with
  |none=>cases h
  |some b=>
   cases b with
   |arr r l=>
    obtain⟨he,hk⟩:=dy h;have he:=If he;obtain⟨e',n',X,dU⟩:=X;obtain⟨rfl,rfl⟩:=dU.inv dh
    grind[Hx]
   |_=>cases h
 |pre t len cap ex=>
  simp[cX]at h;generalize dh:s[t]? =b at h;cases b with
  |none=>cases h
  |some b=>
   cases b with
   |arr r l=>
    obtain⟨he,hk⟩:=dy h;have he:=If he;obtain⟨e',X,dU⟩:=X;have:=dU.inv dh
    grind[Hx]
   |_=>cases h
 |part t off len cap ex=>
  simp[cX]at h;generalize dh:s[t]? =b at h;cases b with
  |none=>cases h
  |some b=>
   cases b with
   |arr r l=>
    obtain⟨he,hk⟩:=dy h;have he:=If he;obtain⟨e',X,dU⟩:=X;have:=dU.inv dh
    grind[Hx]
   |_=>cases h
 |_=>cases h
theorem cnt(hE:fx s e pe)(hS:dj s ps){x1 x2:jd}(h:uD e s z (.KG x1 x2) k ρ w=Ss y):jY s ps (cd pe ps z (.KG x1 x2)) k ρ w y:=by
 simp[uD]at h;have X:=fb hE x1;have hy:=fb hE x2;generalize cJ e x1=v at h X;generalize cJ e x2=u at h hy;cases v with
 |sl r l=>
  cases u with
  |sl q m=>have X:x1.ev pe= .sl (h1 r) hl _:=X;have hy:x2.ev pe= .sl (h1 q) hl _:=hy;refine⟨_,_,?_,Good.new hS (b:= .box [.sl r l,.sl q m]) (v:= .part (h1 s) 0 2 2 YD) ⟨_,rfl,_,_,rfl,rfl,_,_,rfl,rfl,rfl⟩ ⟨1,rfl,.inr (.inr ⟨_,Ch,rfl⟩)⟩,h⟩;simp only[cd,X,hy,hS.len];rfl
  |_=>cases h
 |_=>cases h
theorem afJ(hE:fx s e pe)(hS:dj s ps){op:qd}(h:uD e s z op k ρ w=Ss y):jY s ps (cd pe ps z op) k ρ w y:=by
 cases op with
 |SP x=>exact jY.val hS h rfl (fb hE x)
 |pick c a b=>exact abT hE hS h
 |bin op a b=>exact afx hE hS h
 |Si n a b=>exact abO hE hS h
 |MV n g a b=>exact afy hE hS h
 |un op a=>exact ajM hE hS h
 |conv a x=>exact abQ hE hS h
 |len x=>exact afz hE hS h
 |U7 n=>exact jY.val hS h rfl rfl
 |box x=>exact afA hE hS h
 |alloc c=>exact h64 hS h
 |build z p=>exact b4' hE hS h
 |Ia a b c d=>exact adD hE hS h
 |KG a b=>exact cnt hE hS h
 |load a p=>exact abW hE hS h
 |store a p x=>exact is' hE hS h
 |Sj x=>exact abR hE hS h
 |Sk o x=>exact abS hE hS h
 |fD a o x=>exact afB hE hS h
 |Sl a x i=>exact abU hE hS h
 |KH n a x i=>exact se' hE hS h
 |idx n a g x i=>exact afG hE hS h
 |Sm x i=>exact abV hE hS h
 |Yx a x l h' m=>exact afH hE hS h
 |mo a z l c=>exact afI hE hS h
 |km f a b=>exact afD hE hS h
 |MW m=>exact afE hS h
 |lookup n z o m q=>exact ala hE hS h
 |Qx n m q x=>exact abY hE hS h
 |ext i x=>exact afC hE hS h
 |append a x b=>exact pok hE hS h
 |copy a x b=>exact ab1 hE hS h
 |clear a z x=>exact alc hE hS h
 |mm m x xs=>exact ajN hE hS h
 |call m f a=>cases h
 |D3 x a=>cases h
 |bad=>cases h
mutual
theorem anM{bx:Nat->O (J SV)}{It:Nat->O (J PV)}(hS:dj s ps)(hb: ∀t l,bx t=Ss l-> ∃q,It t=Ss q/\yG l=Ss q): ∀{v u:SV} {p:PV},R s v p->Px s bx v=Ss u-> ∃q,JD ps It p=Ss q/\zB u=Ss q
 | .int k n,u,p,h,X=>by injection X with X;subst X;rw[show p=_ from h];exact⟨_,rfl,rfl⟩
 | .bool b,u,p,h,X=>by injection X with X;subst X;rw[show p=_ from h];exact⟨_,rfl,rfl⟩
 | .str x,u,p,h,X=>by injection X with X;subst X;rw[show p=_ from h];exact⟨_,rfl,rfl⟩
 | .fC,u,p,h,X=>by injection X with X;subst X;rw[show p=_ from h];exact⟨_,rfl,rfl⟩
 | .agg cs,u,p,h,X=>by
  obtain⟨q,rfl,h⟩:=h;simp only[Px]at X;split at X
  ·rename_i l I
   injection X with X;subst X;obtain⟨q',D,S⟩:=Bu hS hb h I;exact⟨.agg q',by simp only[JD,D];rfl,by simp only[zB,S]⟩
  cases X
 | .cT cs,u,p,h,X=>by
  obtain⟨q,rfl,h⟩:=h;simp only[Px]at X;split at X
  ·rename_i l I
   injection X with X;subst X;obtain⟨q',D,S⟩:=Bu hS hb h I;exact⟨.cT q',by simp only[JD,D];rfl,by simp only[zB,S]⟩
  cases X
 | .sl r l,u,p,h,X=>by injection X with X;subst X;rw[show p=_ from h];exact⟨_,rfl,rfl⟩
 | .nil e c,u,p,h,X=>by injection X with X;subst X;rw[show p=_ from h];exact⟨_,rfl,rfl⟩
 | .own t ex,u,p,h,X=>by
  simp only[Px,cX]at X;split at X
  ·rename_i r l dh
   injection X with X;subst X;obtain⟨e,n,rfl,dU⟩:=h;obtain⟨rfl,rfl⟩:=dU.inv dh;refine⟨.sl (h1 r) hl (l.map (RT.pv r)),?_,rfl⟩;simp only[JD,hS.arr dh,Mp];rw[SI (by simp)]
  cases X
 | .pre t len cap ex,u,p,h,X=>by
  simp only[Px,cX]at X;split at X
  ·rename_i r l dh
   injection X with X;subst X;obtain⟨e,rfl,dU⟩:=h;have:=dU.inv dh;subst this;refine⟨.sl (h1 r) hl ((l.take len).map (RT.pv r)),?_,rfl⟩;simp only[JD,hS.arr dh,Mp,SH]
  cases X
 | .part t off len cap ex,u,p,h,X=>by
  simp only[Px,cX]at X;split at X
  ·rename_i r l dh
   injection X with X;subst X;obtain⟨e,rfl,dU⟩:=h;have:=dU.inv dh;subst this;refine⟨.sl (h1 r) hl (((l.drop off).take len).map (RT.pv r)),?_,rfl⟩;simp only[JD,hS.arr dh,SH,vk]
  cases X
 | .pa t r i a off,u,p,h,X=>by
  simp only[Px,cX]at X;split at X
  ·rename_i q l dh
   injection X with X;subst X;obtain⟨rfl,dU⟩:=h;obtain⟨rfl,hg⟩:=dU.inv dh;obtain⟨m,rfl,hm⟩:=tI hg;refine⟨.cj (RT.pv r a) off,?_,by simp only[zB,RT.PA]⟩;have Iq:(l.map (RT.pv r))[m]? =Ss (RT.pv r a):=by simp[hm]
   have e1:(GH m).toNat=m:=rfl;simp only[JD,hS.arr dh,e1,Iq];rfl
  cases X
 | .bp t n off,u,p,h,X=>by
  simp only[Px,cX]at X;split at X
  ·rename_i cs dh
   split at X
   ·rename_i l I
    injection X with X;subst X;rw[show p=_ from h];obtain⟨q,D,S⟩:=hb t l I;obtain⟨c,h3,_⟩:=hS.box dh;refine⟨.cj q off,?_,by simp only[zB,S]⟩;simp only[JD,h3,Sy,if_true,D];rfl
   cases X
  cases X
 | .cj cs off,u,p,h,X=>by
  obtain⟨q,rfl,h⟩:=h;simp only[Px]at X;split at X
  ·rename_i l I
   injection X with X;subst X;obtain⟨q',D,S⟩:=Bu hS hb h I;exact⟨.cj q' off,by simp only[JD,D];rfl,by simp only[zB,S]⟩
  cases X
 | .fY f a b,u,p,h,X=>by
  obtain⟨pa,pb,rfl,D,S⟩:=h;simp only[Px]at X;split at X
  ·rename_i x y' h3 h4
   injection X with X;subst X;obtain⟨qa,h5,h6⟩:=Bu hS hb D h3;obtain⟨qb,h7,h8⟩:=Bu hS hb S h4;exact⟨.fY f qa qb,by simp only[JD,h5,h7],by simp only[zB,h6,h8]⟩
  cases X
 | .k8,_,_,_,X| .undef,_,_,_,X| .oI,_,_,_,X| .pb _ _ _,_,_,_,X| .mp _,_,_,_,X=>by cases X
theorem Bu{bx:Nat->O (J SV)}{It:Nat->O (J PV)}(hS:dj s ps)(hb: ∀t l,bx t=Ss l-> ∃q,It t=Ss q/\yG l=Ss q): ∀{v u:J SV} {p:J PV},RL s v p->zA s bx v=Ss u-> ∃q,L9 ps It p=Ss q/\yG u=Ss q
 | [],u,p,h,X=>by injection X with X;subst X;rw[show p=_ from h];exact⟨_,rfl,rfl⟩
 |x::xs,u,p,h,X=>by
  obtain⟨q,qs,rfl,D,S⟩:=h.cons_inv;simp only[zA]at X;split at X
  ·rename_i y' ys h3 h4
   injection X with X;subst X;obtain⟨a,h5,h6⟩:=anM hS hb D h3;obtain⟨as,h7,h8⟩:=Bu hS hb S h4;exact⟨a::as,by simp only[L9,h5,h7],gA.2 ⟨a,as,rfl,h6,h8⟩⟩
  cases X
end
theorem LN(hS:dj s ps): ∀(n t:Nat) (l:J SV),pz s n t=Ss l-> ∃q,JE ps n t=Ss q/\yG l=Ss q
 |0,t,l,h=>by cases h
 |n+1,t,l,h=>by
  simp[pz,cX]at h;split at h
  ·rename_i cs dh
   obtain⟨q,D,S⟩:=hS.box dh;obtain⟨u,h3,h4⟩:=Bu hS (LN hS n) S h;exact⟨u,by simp[JE,D,h3],h4⟩
  cases h
mutual
theorem iy{bx It:Nat->J Nat}(hb: ∀t,bx t=It t): ∀{v:SV} {p:PV},R s v p->v.sure=YD->Xu bx v=np It p
 | .k8,_,_,h=>by cases h
 | .undef,p,h,_| .oI,p,h,_| .fC,p,h,_| .int _ _,p,h,_| .bool _,p,h,_| .str _,p,h,_| .sl _ _,p,h,_| .nil _ _,p,h,_=>by rw[show p=_ from h];rfl
 | .agg cs,p,h,hs=>by obtain⟨q,rfl,h⟩:=h;exact Hy hb h hs
 | .cT cs,p,h,hs=>by obtain⟨q,rfl,h⟩:=h;exact Hy hb h hs
 | .own t ex,p,h,_=>by obtain⟨e,n,rfl,_⟩:=h;rfl
 | .pre t a b c,p,h,_=>by obtain⟨e,rfl,_⟩:=h;rfl
 | .part t o a b c,p,h,_=>by obtain⟨e,rfl,_⟩:=h;rfl
 | .pa t r i a o,p,h,_=>by obtain⟨rfl,_⟩:=h;simp only[Xu,np,hb]
 | .pb t i o,p,h,_=>by obtain⟨e,rfl,_⟩:=h;simp only[Xu,np,hb]
 | .bp t n o,p,h,_=>by rw[show p=_ from h];simp only[Xu,np,hb]
 | .cj cs o,p,h,hs=>by obtain⟨q,rfl,h⟩:=h;exact Hy hb h hs
 | .mp t,p,h,_=>by rw[show p=_ from h];rfl
 | .fY f a b,p,h,hs=>by obtain⟨pa,pb,rfl,D,S⟩:=h;simp only[SV.sure,IR]at hs;simp only[Xu,np,Hy hb D hs.1,Hy hb S hs.2]
theorem Hy{bx It:Nat->J Nat}(hb: ∀t,bx t=It t): ∀{v:J SV} {p:J PV},RL s v p->rG v=YD->yQ bx v=gJ It p
 | [],p,h,_=>by rw[show p=_ from h];rfl
 |x::xs,p,h,hs=>by obtain⟨q,qs,rfl,D,S⟩:=h.cons_inv;simp only[rG,IR]at hs;simp only[yQ,gJ,iy hb D hs.1,Hy hb S hs.2]
end
end
end Go.Vm
/- The head of a loop: what the typed machine keeps there, the logical machine keeps there. -/
namespace Go.Vm
section
variable {s : J SB} {ps : dp}
mutual
theorem anN{n:Nat}(hS:dj s ps)(hB: ∀t l,pz s n t=Ss l->Ek s n t=kq ps n t): ∀{v u:SV} {p:PV},R s v p->Px s (pz s n) v=Ss u->Xu (Ek s n) v=np (kq ps n) p
 | .int _ _,_,p,h,_| .bool _,_,p,h,_| .str _,_,p,h,_| .fC,_,p,h,_| .sl _ _,_,p,h,_| .nil _ _,_,p,h,_=>by rw[h];rfl
 | .agg cs,u,p,h,X=>by
  obtain⟨q,rfl,h⟩:=h;simp[Px]at X;split at X
  ·rename_i l I;exact GS hS hB h I
  cases X
 | .cT cs,u,p,h,X=>by
  obtain⟨q,rfl,h⟩:=h;simp[Px]at X;split at X
  ·rename_i l I;exact GS hS hB h I
  cases X
 | .own t ex,_,p,h,_=>by obtain⟨e,n,rfl,_⟩:=h;rfl
 | .pre t a b c,_,p,h,_=>by obtain⟨e,rfl,_⟩:=h;rfl
 | .part t o a b c,_,p,h,_=>by obtain⟨e,rfl,_⟩:=h;rfl
 | .pa t r i a o,_,p,h,X=>by
  obtain⟨rfl,dU⟩:=h;simp[Px,cX]at X;split at X
  ·rename_i q l dh
   simp[Xu,np];cases n with
   |zero=>rfl
   |succ n=>simp[Ek,kq,cX,dh,hS.arr dh]
  cases X
 | .bp t m o,u,p,h,X=>by
  rw[h];simp[Px,]at X;split at X
  ·split at X
   ·rename_i l I
    simp[Xu,np,hB t l I]
   cases X
  cases X
 | .cj cs o,u,p,h,X=>by
  obtain⟨q,rfl,h⟩:=h;simp[Px]at X;split at X
  ·rename_i l I;exact GS hS hB h I
  cases X
 | .fY f a b,u,p,h,X=>by
  obtain⟨pa,pb,rfl,D,S⟩:=h;simp[Px]at X;split at X
  ·rename_i x y h3 h4
   simp[Xu,np,GS hS hB D h3,GS hS hB S h4]
  cases X
 | .k8,_,_,_,X| .undef,_,_,_,X| .oI,_,_,_,X| .pb _ _ _,_,_,_,X| .mp _,_,_,_,X=>by cases X
theorem GS{n:Nat}(hS:dj s ps)(hB: ∀t l,pz s n t=Ss l->Ek s n t=kq ps n t): ∀{v u:J SV} {p:J PV},RL s v p->zA s (pz s n) v=Ss u->yQ (Ek s n) v=gJ (kq ps n) p
 | [],_,p,h,_=>by rw[h];rfl
 |x::xs,u,p,h,X=>by
  obtain⟨q,qs,rfl,D,S⟩:=h.cons_inv;simp[zA]at X;split at X
  ·rename_i a b h3 h4
   simp[yQ,gJ,anN hS hB D h3,GS hS hB S h4]
  cases X
end
theorem Yk{n:Nat}(hS:dj s ps)(hB: ∀t l,pz s n t=Ss l->Ek s n t=kq ps n t): ∀{v:J SV} {p:J PV},RL s v p->VD s (pz s n) v=YD->yQ (Ek s n) v=gJ (kq ps n) p
 | [],p,h,_=>by rw[h];rfl
 |x::xs,p,h,X=>by
  obtain⟨a,as,rfl,D,S⟩:=h.cons_inv;have other: ∀u,Px s (pz s n) x=Ss u->VD s (pz s n) xs=YD->yQ (Ek s n) (x::xs)=gJ (kq ps n) (a::as):=λu h3 h4=>by simp[yQ,gJ,anN hS hB D h3,Yk hS hB S h4]
  unfold VD at X;split at X
  ·rename_i t
   rw[D];simp[yQ,gJ,Xu,np,Yk hS hB S X]
  grind
theorem M5(hS:dj s ps): ∀(n t:Nat) (l:J SV),pz s n t=Ss l->Ek s n t=kq ps n t
 |0,t,l,h=>rfl
 |n+1,t,l,h=>by
  simp[pz,cX]at h;split at h
  ·rename_i cs dh
   obtain⟨q,D,S⟩:=hS.box dh;simp[Ek,kq,cX,dh,D];exact GS hS (M5 hS n) S h
  cases h
theorem Rf{b:SB}{q:pT}(h:RB s b q)(hs:F0 b=YD):Q6 b=yH q:=by
 cases b with
 |box cs=>obtain⟨c,rfl,h⟩:=h;exact Hy (λ_=>rfl) h hs
 |arr r l=>rw[h];rfl
 |set l=>rw[h];rfl
 |nq p l=>rw[h];rfl
 |dead=>rw[h];rfl
theorem M6(hS:dj s ps): ∀(n:Nat) (ts seen m:J Nat),ML s n ts seen=Ss m->reach ps n ts seen=Ss m
 |n,[],seen,m,h=>by cases n<;>(assumption)
 |0,_::_,_,_,h=>by cases h
 |n+1,t::ts,seen,m,h=>by
  simp[ML,cX]at h;simp[reach];cases hh:has seen t with
  |true=>rw[hh]at h;simp[];exact M6 hS n ts seen m h
  |false=>
   rw[hh]at h;split at h
   ·rename_i b dh
    obtain⟨q,D,S⟩:=hS.at_ t b dh;cases hb:F0 b with
    |false=>grind
    |true=>rw[hb]at h;simp[]at h;rw[D,Rf S hb]at*;exact M6 hS n _ _ m h
   cases h
theorem aaO: ∀{t u:Nat} {m:J Nat},idxOf t m=Ss u->m[u]? =Ss t
 |t,u,[],h=>by cases h
 |t,u,x::m,h=>by
  simp only[idxOf]at h;cases hb:Md x t with
  |true=>grind[If]
  |false=>rw[hb]at h;simp[]at h;obtain⟨v,hv,rfl⟩:=h;simpa using aaO hv
def M8(m:J Nat)(s s':J SB):Prop:= ∀(t u:Nat) (b:SB),idxOf t m=Ss u->s[t]? =Ss b->match b with
 | .arr r l=>s'[u]? =Ss (.arr r l)
 | .dead=>s'[u]? =Ss .dead
 | .box _=> ∃cs,s'[u]? =Ss (.box cs)
 |_=>True
mutual
theorem ab5{m:J Nat}{s':J SB}(hr:M8 m s s'): ∀{v u:SV} {p:PV},R s v p->xM m v=Ss u-> ∃q,tj m p=Ss q/\R s' u q
 | .k8,_,_,_,X=>by cases X
 | .undef,u,p,h,X| .oI,u,p,h,X| .fC,u,p,h,X| .int _ _,u,p,h,X| .bool _,u,p,h,X| .str _,u,p,h,X| .sl _ _,u,p,h,X| .nil _ _,u,p,h,X=>by injection X with X;subst X;rw[h];exact⟨_,rfl,rfl⟩
 | .agg cs,u,p,h,X=>by
  obtain⟨q,rfl,h⟩:=h;simp[xM]at X;split at X
  ·rename_i l I
   injection X with X;subst X;obtain⟨q',D,S⟩:=AI hr h I;exact⟨.agg q',by simp only[tj,D];rfl,q',rfl,S⟩
  cases X
 | .cT cs,u,p,h,X=>by
  obtain⟨q,rfl,h⟩:=h;simp[xM]at X;split at X
  ·rename_i l I
   injection X with X;subst X;obtain⟨q',D,S⟩:=AI hr h I;exact⟨.cT q',by simp only[tj,D];rfl,q',rfl,S⟩
  cases X
 | .own t ex,u,p,h,X=>by
  obtain⟨e,n,rfl,dU⟩:=h;simp[xM]at X;split at X
  ·rename_i v hv
   injection X with X;subst X;refine⟨.own v e 0 n n ex,by simp only[tj,hv];rfl,e,n,rfl,?_⟩;rcases dU with⟨r,l,D,S,h3⟩|D
   ·exact .inl ⟨r,l,hr t v _ hv D,S,h3⟩
   exact .inr (hr t v _ hv D)
  cases X
 | .pre t len cap ex,u,p,h,X=>by
  obtain⟨e,rfl,dU⟩:=h;simp[xM]at X;split at X
  ·rename_i v hv
   injection X with X;subst X;refine⟨.own v e 0 len cap ex,by simp only[tj,hv];rfl,e,rfl,?_⟩;rcases dU with⟨r,l,D,S⟩|D|⟨cs,D,S⟩
   ·exact .inl ⟨r,l,hr t v _ hv D,S⟩
   ·exact .inr (.inl (hr t v _ hv D))
   obtain⟨c2,h3⟩:=hr t v _ hv D
   exact .inr (.inr ⟨c2,h3,S⟩)
  cases X
 | .part t off len cap ex,u,p,h,X=>by
  obtain⟨e,rfl,dU⟩:=h;simp[xM]at X;split at X
  ·rename_i v hv
   injection X with X;subst X;refine⟨.own v e off len cap ex,by simp only[tj,hv];rfl,e,rfl,?_⟩;rcases dU with⟨r,l,D,S⟩|D|⟨cs,D,S⟩
   ·exact .inl ⟨r,l,hr t v _ hv D,S⟩
   ·exact .inr (.inl (hr t v _ hv D))
   obtain⟨c2,h3⟩:=hr t v _ hv D
   exact .inr (.inr ⟨c2,h3,S⟩)
  cases X
 | .pa t r i a off,u,p,h,X=>by
  obtain⟨rfl,dU⟩:=h;simp[xM]at X;split at X
  ·rename_i v hv
   injection X with X;subst X;refine⟨.ptr v (h1 r) i.toNat off,by simp only[tj,hv];rfl,h1 r,rfl,?_⟩;rcases dU with⟨l,D,S⟩|D
   ·exact .inl ⟨r,l,hr t v _ hv D,by rw[S];rfl⟩
   exact .inr (hr t v _ hv D)
  cases X
 | .pb t i off,u,p,h,X=>by
  obtain⟨e,rfl,dU⟩:=h;simp[xM]at X;split at X
  ·rename_i v hv
   injection X with X;subst X;refine⟨.ptr v e i.toNat off,by simp only[tj,hv];rfl,e,rfl,?_⟩;rcases dU with⟨r,l,D,S⟩|D
   ·exact .inl ⟨r,l,hr t v _ hv D,S⟩
   exact .inr (hr t v _ hv D)
  cases X
 | .bp t n off,u,p,h,X=>by
  rw[h];simp[xM]at X;split at X
  ·rename_i v hv
   injection X with X;subst X;exact⟨.ptr v n 0 off,by simp only[tj,hv];rfl,rfl⟩
  cases X
 | .cj cs off,u,p,h,X=>by
  obtain⟨q,rfl,h⟩:=h;simp[xM]at X;split at X
  ·rename_i l I
   injection X with X;subst X;obtain⟨q',D,S⟩:=AI hr h I;exact⟨.cj q' off,by simp only[tj,D];rfl,q',rfl,S⟩
  cases X
 | .mp t,u,p,h,X=>by
  rw[h];simp[xM]at X;split at X
  ·rename_i v hv
   injection X with X;subst X;exact⟨.mp v,by simp only[tj,hv];rfl,rfl⟩
  cases X
 | .fY f a b,u,p,h,X=>by
  obtain⟨pa,pb,rfl,D,S⟩:=h;simp[xM]at X;split at X
  ·rename_i x y h3 h4
   injection X with X;subst X;obtain⟨qa,h5,h6⟩:=AI hr D h3;obtain⟨qb,h7,h8⟩:=AI hr S h4;exact⟨.fY f qa qb,by simp[tj,h5,h7],qa,qb,rfl,h6,h8⟩
  cases X
theorem AI{m:J Nat}{s':J SB}(hr:M8 m s s'): ∀{v u:J SV} {p:J PV},RL s v p->AE m v=Ss u-> ∃q,Gz m p=Ss q/\RL s' u q
 | [],u,p,h,X=>by injection X with X;subst X;rw[h];exact⟨_,rfl,rfl⟩
 |x::xs,u,p,h,X=>by
  obtain⟨q,qs,rfl,D,S⟩:=h.cons_inv;simp[AE]at X;split at X
  ·rename_i a b h3 h4
   injection X with X;subst X;obtain⟨a',h5,h6⟩:=ab5 hr D h3;obtain⟨b',h7,h8⟩:=AI hr S h4;exact⟨a'::b',by simp[Gz,h5,h7],RL.cons h6 h8⟩
  cases X
end
theorem ajP{m:J Nat}{s':J SB}(hr:M8 m s s'){b c:SB}{q:pT}(h:RB s b q)(X:VF m b=Ss c): ∃q',uF m q=Ss q'/\RB s' c q':=by
 cases b with
 |box cs=>
  obtain⟨p,rfl,h⟩:=h;simp[VF]at X;split at X
  ·rename_i l I
   injection X with X;subst X;obtain⟨q',D,S⟩:=AI hr h I;exact⟨.box q',by simp only[uF,D];rfl,q',rfl,S⟩
  cases X
 |arr r l=>injection X with X;subst X;rw[h];exact⟨_,rfl,rfl⟩
 |set l=>injection X with X;subst X;rw[h];exact⟨_,rfl,rfl⟩
 |nq p l=>injection X with X;subst X;rw[h];exact⟨_,rfl,rfl⟩
 |dead=>injection X with X;subst X;rw[h];exact⟨_,rfl,rfl⟩
theorem EY{m:J Nat}: ∀{ts:J Nat} {s1:J SB},OW s m ts=Ss s1->h1 s1=h1 ts/\ ∀(j t:Nat),ts[j]? =Ss t-> ∃b c,s[t]? =Ss b/\VF m b=Ss c/\s1[j]? =Ss c
 | [],s1,h=>by injection h with h;grind
 |t::ts,s1,h=>by
  simp[OW,cX]at h;split at h
  ·rename_i b hb
   split at h
   ·rename_i c r hc hr
    injection h with h;subst h;obtain⟨D,S⟩:=EY hr
    grind
   cases h
  cases h
theorem J4(hS:dj s ps){m:J Nat}{s':J SB}(hr:M8 m s s'): ∀{ts:J Nat} {s1:J SB},OW s m ts=Ss s1-> ∃p1,Es ps m ts=Ss p1/\h1 p1=h1 s1/\ ∀(j:Nat) (b:SB),s1[j]? =Ss b-> ∃q,p1[j]? =Ss q/\RB s' b q
 | [],s1,h=>by injection h with h;subst h;exact⟨[],rfl,rfl,λj b h=>by simp at h⟩
 |t::ts,s1,h=>by
  simp[OW,cX]at h;split at h
  ·rename_i b hb
   split at h
   ·rename_i c r hc PN
    injection h with h;subst h;obtain⟨q,D,S⟩:=hS.at_ t b hb;obtain⟨q',h3,h4⟩:=ajP hr S hc;obtain⟨p1,h5,h6,h7⟩:=J4 hS hr PN;refine⟨q'::p1,by simp[Es,D,h3,h5],by simp[h6],λj x hj=>?_⟩
    grind
   cases h
  cases h
theorem M8.of{m:J Nat}{s1 l:J SB}(h:OW s m m=Ss s1):M8 m s (s1++l):=λt u b hu hb=>by
 have hm:=aaO hu;obtain⟨D,S⟩:=EY h;obtain⟨b',c,h3,h4,h5⟩:=S u t hm;rw[hb]at h3;injection h3 with h3;subst h3;cases b with
 |arr r l'=>injection h4 with h4;grind
 |dead=>injection h4 with h4;grind
 |box cs=>
  simp[VF]at h4
  grind
 |_=>trivial
theorem Ci: ∀(rk:J _) (n:Nat),(rowOf rk n).length=n
 | [],n=>by simp[rowOf]
 |(m,r)::q,n=>by
  simp[rowOf];cases hc:(Md m n&&Md (h1 r) n)with
  |true=>simp_all
  |false=>exact Ci q n
theorem J5{rk:J _}{e:SE}{m:J Nat}: ∀{live:J _} {nx:Nat} {e1:SE} {s2:J SB},ES rk e m nx live=Ss (e1,s2)-> ∀(j:Nat) (b:SB),s2[j]? =Ss b-> ∃r,b= .arr r []
 | [],nx,e1,s2,h,j,b,hj=>by
  simp[ES,]at h
  grind
 |(t,k)::live,nx,e1,s2,h,j,b,hj=>by
  simp[ES]at h;split at h
  ·split at h
   ·rename_i p hp
    simp[]at h;obtain⟨rfl,rfl⟩:=h;cases j with
    |zero=>grind
    |succ j=>exact J5 hp j b (by simpa using hj)
   cases h
  split at h
  ·rename_i v' p hv hp
   simp[]at h;obtain⟨rfl,rfl⟩:=h;exact J5 hp j b hj
  cases h
mutual
theorem J6{m:J Nat}: ∀{v u:SV},xM m v=Ss u->u.sure=YD
 | .k8,_,h=>by cases h
 | .undef,u,h| .oI,u,h| .fC,u,h| .int _ _,u,h| .bool _,u,h| .str _,u,h| .sl _ _,u,h| .nil _ _,u,h=>by injection h with h;subst h;rfl
 | .agg cs,u,h=>by
  simp[xM]at h;split at h
  ·rename_i l I;injection h with h;subst h;exact sK I
  cases h
 | .cT cs,u,h=>by
  simp[xM]at h;split at h
  ·rename_i l I;injection h with h;subst h;exact sK I
  cases h
 | .cj cs _,u,h=>by
  simp[xM]at h;split at h
  ·rename_i l I;injection h with h;subst h;exact sK I
  cases h
 | .own _ _,u,h=>by simp[xM]at h;split at h<;>first|(injection h with h;subst h;rfl)|cases h
 | .pre _ _ _ _,u,h=>by simp[xM]at h;split at h<;>first|(injection h with h;subst h;rfl)|cases h
 | .part _ _ _ _ _,u,h=>by simp[xM]at h;split at h<;>first|(injection h with h;subst h;rfl)|cases h
 | .pa _ _ _ _ _,u,h=>by simp[xM]at h;split at h<;>first|(injection h with h;subst h;rfl)|cases h
 | .pb _ _ _,u,h=>by simp[xM]at h;split at h<;>first|(injection h with h;subst h;rfl)|cases h
 | .bp _ _ _,u,h=>by simp[xM]at h;split at h<;>first|(injection h with h;subst h;rfl)|cases h
 | .mp _,u,h=>by simp[xM]at h;split at h<;>first|(injection h with h;subst h;rfl)|cases h
 | .fY f a b,u,h=>by
  simp[xM]at h;split at h
  ·rename_i x y D S
   injection h with h;subst h;simp[SV.sure,sK D,sK S,SN]
  cases h
theorem sK{m:J Nat}: ∀{v u:J SV},AE m v=Ss u->rG u=YD
 | [],u,h=>by injection h with h;subst h;rfl
 |x::xs,u,h=>by
  simp[AE]at h;split at h
  ·rename_i a b D S
   injection h with h;subst h;simp[rG,J6 D,sK S,SN]
  cases h
end
theorem afK{s:J SB}{v:SV}{p:PV}(h:R s v p): ∀k:O Nat,v.sure=YD->R s (Q7 k v) (O' k p)
 |none,_=>h
 |some _,hs=>by
  cases v with
  |own t ex=>obtain⟨e,n,rfl,h⟩:=h;exact⟨e,n,rfl,h⟩
  |pre t l c ex=>obtain⟨e,rfl,h⟩:=h;exact⟨e,rfl,h⟩
  |part t o l c ex=>obtain⟨e,rfl,h⟩:=h;exact⟨e,rfl,h⟩
  |k8=>cases hs
  |undef|oI|fC|int _ _|bool _|str _|bp _ _ _|mp _|sl _ _|nil _ _=>rw[h];rfl
  |agg _|cT _|cj _ _=>obtain⟨q,rfl,h⟩:=h;exact⟨q,rfl,h⟩
  |fY _ _ _=>obtain⟨q,q2,rfl,h⟩:=h;exact⟨q,q2,rfl,h⟩
  |pa _ _ _ _ _=>obtain⟨rfl,h⟩:=h;exact⟨rfl,h⟩
  |pb _ _ _=>obtain⟨q,rfl,h⟩:=h;exact⟨q,rfl,h⟩
theorem agT{v:SV}(h:v.sure=YD)(k:O Nat):(Q7 k v).sure=YD:=by unfold Q7;split<;>first|rfl|exact h
theorem Rg{rk:J _}{e:SE}{pe:Env}(hE:fx s e pe){m:J Nat}{s':J SB}(hr:M8 m s s'): ∀{live:J _} {nx:Nat} {e1:SE} {s2:J SB},ES rk e m nx live=Ss (e1,s2)->(∀(j:Nat) (b:SB),s2[j]? =Ss b->s'[nx+j]? =Ss b)->
 ∃p1 q2,As pe m nx live=Ss (p1,q2)/\fx s' e1 p1/\h1 q2=h1 s2/\ ∀(j:Nat) (b:SB),s2[j]? =Ss b-> ∃q,q2[j]? =Ss q/\RB s' b q
 | [],nx,e1,s2,h,_=>by obtain⟨rfl,rfl⟩:=h;exact⟨[],[],rfl,rfl,rfl,λj b h=>by simp at h⟩
 |(t,k)::live,nx,e1,s2,h,hs=>by
  have CL:=hE.lk t;simp[ES]at h;split at h
  ·rename_i kk aT en hv
   split at h
   ·rename_i p hp
    obtain⟨rfl,rfl⟩:=h;rw[hv]at CL;obtain⟨p1,q2,D,S,h3,h4⟩:=Rg hE hr hp (λj b hj=>by
     have:=hs (j+1) b (by simpa using hj)
     grind)
    refine⟨(t,.own nx aT 0 0 0 hl)::p1,.arr aT []::q2,?_,⟨_,_,rfl,⟨aT,0,rfl,.inl ⟨rowOf rk aT,[],by simpa using hs 0 _ rfl,(Ci rk aT).symm,rfl⟩⟩,S⟩,by simp[h3],λj b hj=>?_⟩
    ·have WU:lk t pe= .sl en YD []:=CL
     simp only[As,WU,D];rfl
    cases j with
    |zero=>simp at hj;subst hj;exact⟨_,rfl,by show _=_;rw[Ci];rfl⟩
    |succ j=>grind
   cases h
  rename_i fk
  split at h
  ·rename_i v' p hv hp
   obtain⟨rfl,rfl⟩:=h;obtain⟨q',h5,h6⟩:=ab5 hr CL hv;obtain⟨p1,q2,D,S,h3,h4⟩:=Rg hE hr hp hs;refine⟨(t,O' _ q')::p1,q2,?_,⟨_,_,rfl,afK h6 _ (J6 hv),S⟩,h3,h4⟩;simp[As];split
   ·rename_i aT x X
    rw[X]at CL;generalize KV t e=v0 at CL hv fk;cases v0 with
    |k8=>cases hv
    |nil e' c=>have WU:=CL;injection WU with D S;simp_all
    |undef|oI|fC|int _ _|bool _|str _|bp _ _ _|mp _=>cases(CL)
    |sl r l=>cases(CL)
    |agg _|cT _|cj _ _=>obtain⟨q,hq,_⟩:=CL;cases hq
    |fY _ _ _=>obtain⟨q,q2,hq,_⟩:=CL;cases hq
    |own _ _=>obtain⟨q,q2,hq,_⟩:=CL;cases hq
    |pre _ _ _ _=>obtain⟨q,hq,_⟩:=CL;cases hq
    |part _ _ _ _ _=>obtain⟨q,hq,_⟩:=CL;cases hq
    |pa _ _ _ _ _=>obtain⟨hq,_⟩:=CL;cases hq
    |pb _ _ _=>obtain⟨q,hq,_⟩:=CL;cases hq
   grind
  cases h
def ah9(s:J SB):Prop:= ∀(t:Nat) (cs:J SV),s[t]? =Ss (.box cs)->rG cs=YD
def PE:SE->Prop
 | []=>True
 |(_,v)::r=>v.sure=YD/\PE r
theorem PE.lk: ∀{e:SE},PE e-> ∀t,(KV t e).sure=YD
 | [],_,t=>rfl
 |(u,v)::r,h,t=>by
  simp[KV];cases hb:Md u t with
  |true=>exact h.1
  |false=>exact PE.lk h.2 t
theorem Hz{rk:J _}{e:SE}{m:J Nat}: ∀{live:J _} {nx:Nat} {e1:SE} {s2:J SB},ES rk e m nx live=Ss (e1,s2)->PE e1
 | [],nx,e1,s2,h=>by simp only[ES,Option.some.injEq,Pv]at h;rw[<-h.1];trivial
 |(t,k)::live,nx,e1,s2,h=>by
  simp[ES]at h;split at h
  ·split at h
   ·rename_i p hp
    simp[]at h;obtain⟨rfl,rfl⟩:=h;exact⟨rfl,Hz hp⟩
   cases h
  split at h
  ·rename_i v' p hv hp
   simp[]at h;obtain⟨rfl,rfl⟩:=h;exact⟨agT (J6 hv) _,Hz hp⟩
  cases h
theorem ai2: ∀{l:J SV},rG l=YD-> ∀{n:Nat} {v:SV},nth l n=Ss v->v.sure=YD
 | [],_,_,_,h=>by cases h
 |x::xs,hs,0,v,h=>by injection h with h;subst h;simp[rG,]at hs;exact hs.1
 |x::xs,hs,n+1,v,h=>by simp[rG,]at hs;exact ai2 hs.2 h
theorem hfi: ∀{l:J SV},rG l=YD-> ∀(n:Nat) {v:SV},v.sure=YD->rG (l.set n v)=YD
 | [],_,n,v,_=>rfl
 |x::xs,hs,0,v,h=>by simp[rG,]at hs;simp[rG,h,hs.2]
 |x::xs,hs,n+1,v,h=>by simp[rG,]at hs;simp[rG,hs.1,hfi hs.2 n h]
theorem RL.set{s:J SB}: ∀{xs:J SV} {ps:J PV},RL s xs ps-> ∀(n:Nat) {v:SV} {p:PV},R s v p->RL s (xs.set n v) (ps.set n p)
 | [],ps,h,n,v,p,_=>by rw[h];exact RL.nil
 |x::xs,ps,h,0,v,p,hv=>by obtain⟨a,q,rfl,D,S⟩:=h.cons_inv;exact RL.cons hv S
 |x::xs,ps,h,n+1,v,p,hv=>by obtain⟨a,q,rfl,D,S⟩:=h.cons_inv;exact RL.cons D (RL.set S n hv)
structure PC(st:wB)(p:St):Prop where
 r:F2 st p
 s:ah9 st.aH
 e:PE st.env
theorem rok{rk:J (Nat×J PT)}{st:wB}{p:St}(h:PC st p)(t c aT:Nat):PC (MM rk st t c aT) (yI p t c aT):=by
 unfold MM yI;rw[cX];cases dh:st.aH[t]? with
 |none=>
  have:p.aH[t]? =KN:=by rw[QK]at dh ⊢;rw[h.r.aH.len];exact dh
  grind
 |some b=>
  obtain⟨q,D,S⟩:=h.r.aH.at_ t b dh;rw[D];cases b with
  |arr r l=>rw[S];exact h
  |set l=>rw[S];exact h
  |nq p l=>rw[S];exact h
  |dead=>rw[S];exact h
  |box cs=>
   obtain⟨pc,rfl,h3⟩:=S;dsimp only;cases hc:nth cs c with
   |none=>
    have:pc[c]? =KN:=by rw[cX,QK]at hc;rw[QK,h3.sG];exact hc
    grind
   |some v=>
    obtain⟨pv,h4,h5⟩:=h3.nth hc;rw[h4];have anO:=ai2 (h.s t cs dh) hc;have yL:=h.s t cs dh;have other:(∀e,pv≠ .sl e YD [])->(∀e,v≠ .nil e YD)->PC (match Ss v with
     |some (.nil _ YD)=>{st with aH:=st.aH.set t (.box (cs.set c (.own (h1 st.aH) hl)))++[.arr (rowOf rk aT) []]}
     |_=>st) (match Ss pv with
     |some (.sl _ YD [])=>{p with aH:=p.aH.set t (.box (pc.set c (.own (h1 p.aH) aT 0 0 0 hl)))++[.arr aT []]}
     |_=>p):=by
     grind
    cases v with
    |k8=>cases anO
    |nil e' cl=>
     have h5':=h5;subst h5';cases cl with
     |false=>omega
     |true=>
      have iY:=(PP.1 dh).1;have Bm:Fr [] st.aH (st.aH.set t (.box (cs.set c (.own (h1 st.aH) hl)))++[.arr (rowOf rk aT) []]):=λu x hu=>by
       grind
      have atd:R (st.aH.set t (.box (cs.set c (.own (h1 st.aH) hl)))++[.arr (rowOf rk aT) []]) (.own (h1 st.aH) hl) (.own (h1 p.aH) aT 0 0 0 hl):=by refine⟨aT,0,by rw[h.r.aH.len],.inl ⟨rowOf rk aT,[],?_,(Ci rk aT).symm,rfl⟩⟩;simp
      refine⟨⟨fx.ext Bm h.r.env,⟨by simp[h.r.aH.len],λu x hu=>?_⟩,h.r.fz,h.r.kn⟩,λu x hu=>?_,h.e⟩
      ·rcases xc u (h1 st.aH)with VT|VT
       ·rw[Mi (by simpa using VT),KJ]at hu
        by_cases MG:t=u
        ·subst MG
         simp[iY]at hu;subst hu;refine⟨.box (pc.set c (.own (h1 p.aH) aT 0 0 0 hl)),?_,_,rfl,RL.set (RL.ext Bm h3) c atd⟩
         grind
        simp[MG]at hu
        obtain⟨q,h6,h7⟩:=h.r.aH.at_ u x hu;refine⟨q,?_,h7.ext Bm⟩
        grind
       rw[YG (by simpa using VT)]at hu
       simp[]at hu;have S':u-(h1 st.aH)=0:=by
        grind
       rw[S']at hu;simp at hu;subst hu;refine⟨.arr aT [],?_,by show _=_;rw[Ci];rfl⟩;rw[YG (by simp[h.r.aH.len];omega)];simp[h.r.aH.len,S']
      rcases xc u (h1 st.aH)with VT|VT
      ·rw[Mi (by simpa using VT),KJ]at hu
       by_cases MG:t=u
       ·subst MG
        simp[iY]at hu;subst hu;exact hfi yL c rfl
       simp[MG]at hu;exact h.s u x hu
      grind
    |undef|oI|fC|int _ _|bool _|str _|bp _ _ _|mp _=>exact other (λe he=>by rw[h5]at he;cases he) (λe he=>by cases he)
    |sl r l=>exact other (λe he=>by rw[h5]at he;cases he) (λe he=>by cases he)
    |agg _|cT _|cj _ _=>exact other (λe he=>by obtain⟨q,hq,_⟩:=h5;grind) (λe he=>by cases he)
    |fY _ _ _=>exact other (λe he=>by obtain⟨q,q2,hq,_⟩:=h5;grind) (λe he=>by cases he)
    |own _ _=>exact other (λe he=>by obtain⟨q,q2,hq,_⟩:=h5;grind) (λe he=>by cases he)
    |pre _ _ _ _|part _ _ _ _ _|pb _ _ _=>exact other (λe he=>by obtain⟨q,hq,_⟩:=h5;grind) (λe he=>by cases he)
    |pa _ _ _ _ _=>exact other (λe he=>by obtain⟨hq,_⟩:=h5;grind) (λe he=>by cases he)
theorem adH{p:St}{t c aT:Nat}(h: ∀cs,p.aH[t]?≠Ss (.box cs)):yI p t c aT=p:=by unfold yI;simp
theorem ab6{st:wB}{p:St}(h:PC st p){v:SV}{q:PV}(hv:R st.aH v q)(hs:v≠ .k8):(∃t,TS v=Ss t/\L' q=Ss t)\/(TS v=KN/\ ∀t,L' q=Ss t-> ∀cs,p.aH[t]?≠Ss (.box cs)):=by
 cases v with
 |k8=>grind
 |bp u m off=>
  have hq:=hv;subst hq;cases off with
  |zero=>exact .inl ⟨u,rfl,rfl⟩
  |succ off=>exact .inr ⟨rfl,λt ht=>by cases ht⟩
 |pb u i off=>
  obtain⟨e',hq,dU⟩:=hv;refine .inr ⟨rfl,λt ht cs yL=>?_⟩;have:t=u:=by
   unfold L' at ht
   grind
  subst this;rcases dU with⟨r,l,D,_⟩|D
  ·rw[h.r.aH.arr D]at yL;cases yL
  obtain⟨q,S,h3⟩:=h.r.aH.at_ t _ D
  rw[yL]at S;injection S with S;subst S;cases(h3)
 |pa u r i a off=>
  obtain⟨hq,dU⟩:=hv;refine .inr ⟨rfl,λt ht cs yL=>?_⟩;have:t=u:=by
   unfold L' at ht
   grind
  subst this;rcases dU with⟨l,D,_⟩|D
  ·rw[h.r.aH.arr D]at yL;cases yL
  obtain⟨q,S,h3⟩:=h.r.aH.at_ t _ D
  rw[yL]at S;injection S with S;subst S;cases(h3)
 |undef|oI|fC|int _ _|bool _|str _|mp _|sl _ _|nil _ _=>exact .inr ⟨rfl,λt ht=>by rw[hv]at ht;cases ht⟩
 |agg _|cT _|cj _ _=>exact .inr ⟨rfl,λt ht=>by obtain⟨_,rfl,_⟩:=hv;cases ht⟩
 |fY _ _ _=>exact .inr ⟨rfl,λt ht=>by obtain⟨_,_,rfl,_⟩:=hv;cases ht⟩
 |own _ _=>exact .inr ⟨rfl,λt ht=>by obtain⟨_,_,rfl,_⟩:=hv;cases ht⟩
 |pre _ _ _ _|part _ _ _ _ _=>exact .inr ⟨rfl,λt ht=>by obtain⟨_,rfl,_⟩:=hv;cases ht⟩
theorem ajS{st:wB}{p:St}(h:PC st p){v:SV}{q:PV}(hv:R st.aH v q)(hs:v.sure=YD):(∃t,X1 v=Ss t/\Sp q=Ss t)\/(X1 v=KN/\ ∀t,Sp q=Ss t-> ∀cs,p.aH[t]?≠Ss (.box cs)):=by
 have hj:v≠ .k8:=λe=>by subst e;cases hs
 by_cases hc: ∃f a b,v= .fY f a b
 ·obtain⟨f,a,b,rfl⟩:=hc
  obtain⟨pa,pb,rfl,D,S⟩:=hv;cases b with
  |nil=>have:=S;subst this;exact .inr ⟨rfl,λt ht=>by cases ht⟩
  |cons y ys=>obtain⟨z,zs,rfl,g1,g2⟩:=S;exact ab6 h g1 (λe=>by subst e;simp[SV.sure,rG]at hs)
 have e1:X1 v=TS v:=by
  cases v with
  |fY f a b=>grind
  |_=>rfl
 have e2:Sp q=L' q:=by
  cases q with
  |fY f a b=>
   exfalso;cases v with
   |k8=>exact hj rfl
   |fY f a b=>grind
   |bp _ _ _|undef|oI|fC|int _ _|bool _|str _|mp _|sl _ _|nil _ _=>cases(hv)
   |agg _|cT _|cj _ _|pre _ _ _ _|part _ _ _ _ _|pb _ _ _=>obtain⟨_,hq,_⟩:=hv;cases hq
   |own _ _=>obtain⟨_,_,hq,_⟩:=hv;cases hq
   |pa _ _ _ _ _=>obtain⟨hq,_⟩:=hv;cases hq
  |_=>rfl
 grind[ab6]
theorem tM{rk:J _}: ∀(live:J _) {st:wB} {p:St},PC st p->PC (wC rk live st) (qe live p)
 | [],st,p,h=>h
 |(t,k)::live,st,p,h=>by
  cases k with
  |none=>exact tM live h
  |some n=>
   simp only[wC,qe];cases hn:Pc 1000 n with
   |false=>exact tM live h
   |true=>
    have CL:=h.r.env.lk t;have ZU:=h.e.lk t;rcases ajS h CL ZU with⟨u,e1,e2⟩|⟨e1,e2⟩
    ·rw[e1,e2]
     exact tM live (rok h u _ _)
    rw[e1]
    cases hb:Sp _ with
    |none=>exact tM live h
    |some u=>show PC _ (qe live (yI p u (n / 1000-1) (n%1000)));rw[adH (e2 u hb)];exact tM live h
theorem hkl{e:SE}{pe:Env}(hE:fx s e pe): ∀{live:J _},IB e live=YD->MN e live=live.flatMap λp=>np BU (lk p.1 pe)
 | [],_=>rfl
 |(t,k)::live,h=>by simp[IB,]at h;simp[MN,hkl hE h.2];rw[iy (λ_=>rfl) (hE.lk t) h.1]
theorem ab7: ∀{s':J SB} {s:J SB} {ps:dp} (n:Nat),(h1 ps=h1 s/\ ∀(t:Nat) (b:SB),s[t]? =Ss b-> ∃q,ps[t]? =Ss q/\RB s' b q)->MO s n=YD->VG s n=(ps.take n).flatMap yH
 |s',[],ps,n,h,_=>by have:=Mg.1 (by simpa using h.1);subst this;cases n<;>simp[VG]
 |s',b::s,ps,0,h,_=>by simp[VG]
 |s',b::s,ps,n+1,h,hk=>by
  cases ps with
  |nil=>grind
  |cons q ps=>simp[MO,]at hk;obtain⟨q',D,S⟩:=h.2 0 b rfl;simp at D;subst D;simp[VG,Rf S hk.1];rw[ab7 n ⟨by simpa using h.1,λt x X=>by simpa using h.2 (t+1) x (by simpa using X)⟩ hk.2]
theorem aaQ{s:J SB}{v:SV}{p:PV}(h:R s v p):R s (Py s v) p:=by
 unfold Py;split
 ·rename_i t ex
  rw[cX];split
  ·rename_i r l dh
   obtain⟨e,n,rfl,dU⟩:=h;obtain⟨rfl,rfl⟩:=dU.inv dh;exact⟨h1 r,rfl,.inl ⟨r,l,dh,rfl⟩⟩
  exact h
 exact h
theorem ex'{s:J SB}(c:Nat): ∀{e:SE} {p:Env},fx s e p->fx s (Xv s c e) p
 | [],_,h=>h
 |(t,v)::r,_,h=>by
  obtain⟨q,qs,rfl,D,S⟩:=h;simp[Xv];cases hb:Md t c with
  |true=>exact⟨q,qs,rfl,aaQ D,S⟩
  |false=>exact⟨q,qs,rfl,D,ex' c S⟩
theorem J7: ∀(live:J _) {st:wB} {p:St},F2 st p->F2 (IA live st) p
 | [],st,p,h=>h
 |(t,k)::r,st,p,h=>by
  simp[IA];cases hn:Pc 1000000 t with
  |true=>exact J7 r ⟨ex' _ h.env,h.aH,h.fz,h.kn⟩
  |false=>exact J7 r h
theorem ab8{rk:J _}{live:J _}{st uz:wB}{p:St}(h:F2 st p)(hn:MP rk live st=Ss uz): ∃p1,Pa live p=Ss p1/\F2 uz p1:=by
 unfold MP at hn;cases hc:(IB st.env live&&MO st.aH st.kn)with
 |false=>grind
 |true=>
  rw[hc]at hn;simp[]at hc;split at hn
  ·cases hn
  rename_i m hm
  split at hn
  ·rename_i s1 e1 s2 D S
   injection hn with hn;subst hn;have ht:VG st.aH st.kn++MN st.env live=(p.aH.take p.kn).flatMap yH++live.flatMap λq=>np BU (lk q.1 p.env):=by rw[hkl h.env hc.1,ab7 st.kn ⟨h.aH.len,h.aH.at_⟩ hc.2,h.kn]
   rw[ht]at hm;have Iq:=M6 h.aH _ _ _ _ hm;have hr:M8 m st.aH (s1++s2):=M8.of D;obtain⟨p1,a1,a2,a3⟩:=J4 h.aH hr D;have fJ:=(EY D).1;obtain⟨pe1,q2,b1,b2,b3,b4⟩:=Rg h.env hr S (λj b hj=>by grind);have CS:dj (s1++s2) (p1++q2):=⟨by simp[a2,b3],λt b ht=>by
    grind⟩
   have hs:ah9 (s1++s2):=λt cs ht=>by
    rcases xc t (h1 s1)with I|I
    ·rw[Mi I]at ht
     obtain⟨b,c,d1,d2,d3⟩:=(EY D).2 t _ (Y (by omega));rw[ht]at d3;injection d3 with d3;subst d3;cases b with
     |box x=>
      simp[VF]at d2;split at d2
      ·rename_i l sH;injection d2 with d2;injection d2 with d2;subst d2;exact sK sH
      cases d2
     |arr _ _=>cases d2
     |set _=>cases d2
     |nq _ _=>cases d2
     |dead=>cases d2
    grind[YG,J5]
   have hR:PC {env:=e1,aH:=s1++s2,fz:=Et st.fz 0 m,kn:=st.kn} {env:=pe1,aH:=p1++q2,fz:=Et p.fz 0 m,kn:=p.kn}:=
    ⟨⟨b2,CS,by rw[h.fz],h.kn⟩,hs,Hz S⟩
   refine⟨_,?_,J7 live (tM live hR).r⟩;unfold Pa;rw[h.kn]at Iq;rw[h.kn]
   grind
  cases hn
theorem hfo{rk:J _}{live:J _}{st uz:wB}{p:St}(h:F2 st p)(hn:MQ rk live st=Ss uz): ∃p1,norm live p=Ss p1/\F2 uz p1:=by
 unfold MQ at hn;cases D:MP rk live st with
 |none=>grind
 |some s=>
  unfold norm
  grind[ab8]
mutual
theorem LO: ∀{a b:SV} (q:J Ep),D' a b=YD->Bt a (JZ b++q)=(b,q)
 | .undef,.undef,q,_=>rfl
 | .oI,.oI,q,_=>rfl
 | .fC,.fC,q,_=>rfl
 | .int k _,.int l n,q,h=>by rw[hZ.1 h];rfl
 | .bool _,.bool _,q,_=>rfl
 | .agg a,.agg b,q,h=>by simp[Bt,JZ,uQ q h]
 | .cT a,.cT b,q,h=>by simp[Bt,JZ,uQ q h]
 | .sl r _,.sl r' l,q,h=>rfl
 | .nil e c,.nil f d,q,h=>by simp only[D',IR,beq_iff_eq]at h;rw[If h.1,h.2];rfl
 | .own t x,.own u y,q,h=>by simp only[D',IR,beq_iff_eq]at h;rw[If h.1,h.2];rfl
 | .pre t _ _ x,.pre u _ _ y,q,h=>by simp only[D',IR,beq_iff_eq]at h;rw[If h.1,h.2];rfl
 | .part t _ _ _ x,.part u _ _ _ y,q,h=>by simp only[D',IR,beq_iff_eq]at h;rw[If h.1,h.2];rfl
 | .pb t _ o,.pb u _ p,q,h=>by simp only[D',IR]at h;rw[If h.1,If h.2];rfl
 | .bp t n o,.bp u m p,q,h=>by simp only[D',IR]at h;rw[If h.1.1,If h.1.2,If h.2];rfl
 | .cj a o,.cj b p,q,h=>by simp only[D',IR]at h;simp[Bt,JZ,uQ q h.1,If h.2]
 | .fY f a b,.fY g c d,q,h=>by simp only[D',IR]at h;simp[Bt,JZ,SG,uQ _ h.1.2,uQ q h.2,If h.1.1]
 | .mp t,.mp u,q,h=>by rw[If h];rfl
 | .k8,.k8,q,_=>rfl
theorem uQ: ∀{a b:J SV} (q:J Ep),ET a b=YD->yS a (J0 b++q)=(b,q)
 | [],[],q,_=>rfl
 |x::xs,y::ys,q,h=>by simp[ET,IR]at h;simp[yS,J0,SG,LO _ h.1,uQ q h.2]
 | [],_::_,_,h=>by cases h
 |_::_,[],_,h=>by cases h
end
theorem ab9: ∀{a b:SB} (q:J Ep),ah4 a b=YD->VH a (Wo b++q)=(b,q)
 | .arr r _,.arr r' l,q,h=>rfl
 | .box a,.box b,q,h=>by simp[VH,Wo,uQ q h]
 | .set _,.set _,q,_=>rfl
 | .nq p _,.nq p' l,q,h=>by rfl
 | .dead,.dead,q,_=>rfl
 | .arr _ _,.box _,_,h| .arr _ _,.set _,_,h| .arr _ _,.dead,_,h| .box _,.arr _ _,_,h| .box _,.set _,_,h| .box _,.dead,_,h| .set _,.arr _ _,_,h| .set _,.box _,_,h| .set _,.dead,_,h| .dead,.arr _ _,_,h| .dead,.box _,_,h| .dead,.set _,_,h
 | .nq _ _,.arr _ _,_,h| .nq _ _,.box _,_,h| .nq _ _,.set _,_,h| .nq _ _,.dead,_,h| .arr _ _,.nq _ _,_,h| .box _,.nq _ _,_,h| .set _,.nq _ _,_,h| .dead,.nq _ _,_,h=>by cases h
theorem IM: ∀{a b:J SB} (q:J Ep),MR a b=YD->Hs a (Q8 b++q)=(b,q)
 | [],[],q,_=>rfl
 |x::xs,y::ys,q,h=>by simp[MR,]at h;simp[Hs,Q8,ab9 _ h.1,IM q h.2]
 | [],_::_,_,h=>by cases h
 |_::_,[],_,h=>by cases h
theorem hge: ∀{a b:SE} (q:J Ep),Xw a b=YD->Td a (Zb b++q)=(b,q)
 | [],[],q,_=>rfl
 |(t,x)::xs,(u,y)::ys,q,h=>by simp only[Xw,IR]at h;simp[Td,Zb,LO _ h.1.2,hge q h.2,If h.1.1]
 | [],_::_,_,h=>by cases h
 |_::_,[],_,h=>by cases h
theorem hxy: ∀{a b:J Nat},Xx a b=YD->a=b
 | [],[],_=>rfl
 |x::xs,y::ys,h=>by simp only[Xx,IR]at h;rw[If h.1,hxy h.2]
 | [],_::_,h=>by cases h
 |_::_,[],h=>by cases h
theorem hka{a b:wB}(h:Hr a b=YD):Cf a (uP b)=b:=by simp only[Hr,IR]at h;obtain⟨⟨⟨D,S⟩,h3⟩,h4⟩:=h;have hs:=IM [] S;rw[Mq]at hs;simp[Cf,uP,hge _ D,hs,hxy h3,If h4]
theorem AK.aia: ∀{a:AK} {x:Ep} {y:a.T},a.of x=Ss y->a.at y=x
 | .i,.i _,y,h=>by injection h with h;subst h;rfl
 | .b,.b _,y,h=>by injection h with h;subst h;rfl
 | .n,.n _,y,h=>by injection h with h;subst h;rfl
 | .l r,.l q x,y,h=>by obtain⟨rfl,rfl⟩:=wE h;rfl
 | .s,.s _,y,h=>by injection h with h;subst h;rfl
 | .i,.b _,_,h| .i,.n _,_,h| .i,.l _ _,_,h| .i,.s _,_,h| .b,.i _,_,h| .b,.n _,_,h| .b,.l _ _,_,h| .b,.s _,_,h| .n,.i _,_,h| .n,.b _,_,h| .n,.l _ _,_,h| .n,.s _,_,h
 | .l _,.i _,_,h| .l _,.b _,_,h| .l _,.n _,_,h| .l _,.s _,_,h| .s,.i _,_,h| .s,.b _,_,h| .s,.n _,_,h| .s,.l _ _,_,h=>by cases h
theorem wG: ∀{ks:J AK} {l:J Ep} {y:lS ks},qj ks l=Ss y->rH ks y=l
 | [],[],y,_=>rfl
 | [a],[x],y,h=>by have:=AK.aia h;simp[rH,this]
 |a::q::r,x::xs,y,h=>by
  simp[qj]at h;split at h
  ·rename_i u v D S
   injection h with h;subst h;simp[rH,AK.aia D,wG S]
  cases h
 | [],_::_,_,h=>by cases h
 | [_],[],_,h=>by cases h
 | [_],_::_::_,_,h=>by cases h
 |_::_::_,[],_,h=>by cases h
end
end Go.Vm
/- What is known of functions, and what a call of one comes to. -/
namespace Go.Vm
mutual
def M9:Nat->PV->O (PV×dp)
 |_,.int k n=>Ss (.int k n,[])
 |_,.bool b=>Ss (.bool b,[])
 |nx,.agg cs=>match M' nx cs with|some r=>Ss (.agg r.1,r.2)|none=>KN
 |nx,.cT cs=>match M' nx cs with|some r=>Ss (.cT r.1,r.2)|none=>KN
 |nx,.sl e hl rows=>Ss (.own nx e 0 (h1 rows) (h1 rows) hl,[.arr e rows])
 |_,_=>KN
def M':Nat->J PV->O (J PV×dp)
 |_,[]=>Ss ([],[])
 |nx,x::xs=>match M9 nx x with
  |some a=>match M' (nx+h1 a.2) xs with
   |some b=>Ss (a.1::b.1,a.2++b.2)
   |none=>KN
  |none=>KN
end
def C6(s:J SB)(n:Nat)(l:J SB):Prop:= ∀(j:Nat) (b:SB),l[j]? =Ss b->s[n+j]? =Ss b
theorem C6.left{s:J SB}{n:Nat}{l m:J SB}(h:C6 s n (l++m)):C6 s n l:=λj b hj=>h j b (by
 grind)
theorem C6.right{s:J SB}{n:Nat}{l m:J SB}(h:C6 s n (l++m)):C6 s (n+h1 l) m:=λj b hj=>by
 have:=h (h1 l+j) b (by grind)
 grind
def VW(s:J SB)(l:J SB)(q:dp):Prop:=h1 q=h1 l/\ ∀(j:Nat) (b:SB),l[j]? =Ss b-> ∃x,q[j]? =Ss x/\RB s b x
theorem VW.append{s l m:J SB}{q r:dp}(h:VW s l q)(k:VW s m r):VW s (l++m) (q++r):=by
 refine⟨by simp[h.1,k.1],λj b hj=>?_⟩;rcases xc j (h1 l)with I|I
 ·rw[Mi I]at hj
  obtain⟨x,D,S⟩:=h.2 j b hj
  grind
 rw[YG I]at hj
 obtain⟨x,D,S⟩:=k.2 _ b hj;exact⟨x,by rw[YG (by rw[h.1];exact I),h.1];exact D,S⟩
theorem VW.nil{s:J SB}:VW s [] []:=⟨rfl,λj b h=>by simp at h⟩
theorem VW.one{s:J SB}{b:SB}{x:pT}(h:RB s b x):VW s [b] [x]:=⟨rfl,λj c hc=>by
 grind⟩
mutual
theorem hkt: ∀{v:SV} {nx:Nat} {F p:PV} {q:dp},zB v=Ss F->M9 nx F=Ss (p,q)-> ∀{s:J SB},C6 s nx (EP nx v).2->R s (EP nx v).1 p/\VW s (EP nx v).2 q
 | .int k n,nx,F,p,q,h0,h,s,_=>by injection h0 with h0;subst h0;injection h with h;injection h with D S;subst D S;exact⟨rfl,VW.nil⟩
 | .bool b,nx,F,p,q,h0,h,s,_=>by injection h0 with h0;subst h0;injection h with h;injection h with D S;subst D S;exact⟨rfl,VW.nil⟩
 | .agg cs,nx,F,p,q,h0,h,s,hb=>by
  simp[zB]at h0;split at h0
  ·rename_i l I
   injection h0 with h0;subst h0;simp[M9]at h;split at h
   ·rename_i r hr
    injection h with h;injection h with D S;subst D S;obtain⟨h3,h4⟩:=Na I hr hb;exact⟨⟨r.1,rfl,h3⟩,h4⟩
   cases h
  cases h0
 | .cT cs,nx,F,p,q,h0,h,s,hb=>by
  simp[zB]at h0;split at h0
  ·rename_i l I
   injection h0 with h0;subst h0;simp[M9]at h;split at h
   ·rename_i r hr
    injection h with h;injection h with D S;subst D S;obtain⟨h3,h4⟩:=Na I hr hb;exact⟨⟨r.1,rfl,h3⟩,h4⟩
   cases h
  cases h0
 | .sl r l,nx,F,p,q,h0,h,s,hb=>by injection h0 with h0;subst h0;injection h with h;injection h with D S;subst D S;refine⟨⟨h1 r,h1 l,by simp,.inl ⟨r,l,hb 0 _ rfl,rfl,rfl⟩⟩,VW.one rfl⟩
 | .nil e c,nx,F,p,q,h0,h,s,hb=>by
  injection h0 with h0;subst h0;cases c with
  |true=>simp[M9]at h
  |false=>injection h with h;injection h with D S;subst D S;exact⟨⟨e,0,rfl,.inl ⟨_,[],hb 0 _ rfl,by simp,rfl⟩⟩,VW.one (by show _=_;simp)⟩
 | .str _,nx,F,p,q,h0,h,s,_=>by injection h0 with h0;subst h0;cases h
 | .fC,nx,F,p,q,h0,h,s,_=>by injection h0 with h0;subst h0;cases h
 | .cj cs o,nx,F,p,q,h0,h,s,_=>by
  simp[zB]at h0;split at h0
  ·injection h0 with h0;subst h0;cases h
  cases h0
 | .fY f a b,nx,F,p,q,h0,h,s,_=>by
  simp[zB]at h0;split at h0
  ·injection h0 with h0;subst h0;cases h
  cases h0
 | .k8,_,_,_,_,h0,_,_,_| .undef,_,_,_,_,h0,_,_,_| .oI,_,_,_,_,h0,_,_,_| .own _ _,_,_,_,_,h0,_,_,_| .pre _ _ _ _,_,_,_,_,h0,_,_,_| .part _ _ _ _ _,_,_,_,_,h0,_,_,_
 | .pa _ _ _ _ _,_,_,_,_,h0,_,_,_| .pb _ _ _,_,_,_,_,h0,_,_,_| .bp _ _ _,_,_,_,_,h0,_,_,_| .mp _,_,_,_,_,h0,_,_,_=>by cases h0
theorem Na: ∀{v:J SV} {nx:Nat} {F p:J PV} {q:dp},yG v=Ss F->M' nx F=Ss (p,q)-> ∀{s:J SB},C6 s nx (Bs nx v).2->RL s (Bs nx v).1 p/\VW s (Bs nx v).2 q
 | [],nx,F,p,q,h0,h,s,_=>by injection h0 with h0;subst h0;injection h with h;injection h with D S;subst D S;exact⟨rfl,VW.nil⟩
 |x::xs,nx,F,p,q,h0,h,s,hb=>by
  obtain⟨a,as,rfl,D,S⟩:=gA.1 h0;simp[M']at h;split at h
  ·rename_i a32 Ee
   split at h
   ·rename_i rb hrb
    injection h with h;injection h with e1 e2;subst e1 e2;simp[Bs]at hb ⊢;obtain⟨k1,k2⟩:=hkt D Ee hb.left;rw[k2.1]at hrb;obtain⟨k3,k4⟩:=Na S hrb hb.right;exact⟨RL.cons k1 k3,k2.append k4⟩
   cases h
  cases h
end
mutual
theorem ab'{s:J SB}{ps:dp}{z:J Nat}(hS:dj s ps): ∀{v v':SV} {p:PV} {seen iD:J Nat} (nx:Nat),R s v p->Za s z seen v=Ss (v',iD)-> ∃F p' q,zB v'=Ss F/\M9 nx F=Ss (p',q)/\H8 ps z nx seen p=Ss (p',q,iD)
 | .int k n,v',p,seen,iD,nx,h,X=>by injection X with X;injection X with D S;subst D S;rw[h];exact⟨_,_,_,rfl,rfl,rfl⟩
 | .bool k,v',p,seen,iD,nx,h,X=>by injection X with X;injection X with D S;subst D S;rw[h];exact⟨_,_,_,rfl,rfl,rfl⟩
 | .agg cs,v',p,seen,iD,nx,h,X=>by
  obtain⟨q,rfl,h⟩:=h;simp[Za]at X;split at X
  ·rename_i r hr
   injection X with X;injection X with D S;subst D S;obtain⟨F,p',q',h3,h4,h5⟩:=Ri hS nx h hr;exact⟨.agg F,.agg p',q',by simp[zB,h3],by simp[M9,h4],by simp only[H8,h5];rfl⟩
  cases X
 | .cT cs,v',p,seen,iD,nx,h,X=>by
  obtain⟨q,rfl,h⟩:=h;simp[Za]at X;split at X
  ·rename_i r hr
   injection X with X;injection X with D S;subst D S;obtain⟨F,p',q',h3,h4,h5⟩:=Ri hS nx h hr;exact⟨.cT F,.cT p',q',by simp[zB,h3],by simp[M9,h4],by simp only[H8,h5];rfl⟩
  cases X
 | .nil e c,v',p,seen,iD,nx,h,X=>by
  cases c with
  |false=>cases X
  |true=>injection X with X;injection X with D S;subst D S;rw[h];exact⟨_,_,_,rfl,rfl,rfl⟩
 | .own t ex,v',p,seen,iD,nx,h,X=>by
  obtain⟨e,n,rfl,dU⟩:=h;simp[Za,cX]at X;split at X
  ·rename_i r l dh
   obtain⟨rfl,rfl⟩:=dU.inv dh;cases hc:(has seen t||has z t)with
   |true=>grind
   |false=>rw[hc]at X;injection X with X;injection X with D S;subst D S;refine⟨_,_,_,rfl,rfl,?_⟩;simp only[H8,hS.arr dh,hc];simp
  cases X
 | .k8,_,_,_,_,_,_,X| .undef,_,_,_,_,_,_,X| .oI,_,_,_,_,_,_,X| .fC,_,_,_,_,_,_,X| .str _,_,_,_,_,_,_,X| .sl _ _,_,_,_,_,_,_,X| .pre _ _ _ _,_,_,_,_,_,_,X| .part _ _ _ _ _,_,_,_,_,_,_,X
 | .pa _ _ _ _ _,_,_,_,_,_,_,X| .pb _ _ _,_,_,_,_,_,_,X| .bp _ _ _,_,_,_,_,_,_,X| .cj _ _,_,_,_,_,_,_,X| .fY _ _ _,_,_,_,_,_,_,X| .mp _,_,_,_,_,_,_,X=>by cases X
theorem Ri{s:J SB}{ps:dp}{z:J Nat}(hS:dj s ps): ∀{v v':J SV} {p:J PV} {seen iD:J Nat} (nx:Nat),RL s v p->Tc s z seen v=Ss (v',iD)-> ∃F p' q,yG v'=Ss F/\M' nx F=Ss (p',q)/\Qz ps z nx seen p=Ss (p',q,iD)
 | [],v',p,seen,iD,nx,h,X=>by injection X with X;injection X with D S;subst D S;rw[h];exact⟨_,_,_,rfl,rfl,rfl⟩
 |x::xs,v',p,seen,iD,nx,h,X=>by
  obtain⟨a,as,rfl,D,S⟩:=h.cons_inv;simp[Tc]at X;split at X
  ·rename_i r hr
   split at X
   ·rename_i r2 VS
    injection X with X;injection X with e1 e2;subst e1 e2;obtain⟨F,p',q,k1,k2,k3⟩:=ab' hS nx D hr;obtain⟨p02,p'2,q2,k4,k5,opn⟩:=Ri hS (nx+h1 q) S VS;exact⟨F::p02,p'::p'2,q++q2,gA.2 ⟨_,_,rfl,k1,k4⟩,by simp[M',k2,k5],by simp[Qz,k3,opn]⟩
   cases X
  cases X
end
mutual
theorem hkn{s:J SB}: ∀{v:SV} {p:PV},R s v p->Hq v=YD->p.tg=YD
 | .int _ _,p,h,_| .bool _,p,h,_| .str _,p,h,_=>by rw[h];rfl
 | .agg cs,p,h,hn=>by obtain⟨q,rfl,h⟩:=h;exact J8 h hn
 | .cT cs,p,h,hn=>by obtain⟨q,rfl,h⟩:=h;exact J8 h hn
 | .k8,_,_,h| .undef,_,_,h| .oI,_,_,h| .fC,_,_,h| .sl _ _,_,_,h| .nil _ _,_,_,h| .own _ _,_,_,h| .pre _ _ _ _,_,_,h| .part _ _ _ _ _,_,_,h| .pa _ _ _ _ _,_,_,h| .pb _ _ _,_,_,h| .bp _ _ _,_,_,h| .cj _ _,_,_,h| .fY _ _ _,_,_,h| .mp _,_,_,h=>by cases h
theorem J8{s:J SB}: ∀{v:J SV} {p:J PV},RL s v p->yR v=YD->CN p=YD
 | [],p,h,_=>by rw[h];rfl
 |x::xs,p,h,hn=>by obtain⟨a,as,rfl,D,S⟩:=h.cons_inv;simp[yR,IR]at hn;simp[CN,hkn D hn.1,J8 S hn.2,SN]
end
mutual
theorem hv2{s:J SB}{u:SV}: ∀{v:SV} {p:PV},R s v p->Hq v=hl->Xm s v=Ss u->p.tg=hl
 | .int _ _,p,h,hn,_| .bool _,p,h,hn,_| .str _,p,h,hn,_=>by cases hn
 | .agg cs,p,h,hn,N=>by
  obtain⟨q,rfl,h⟩:=h;simp[Xm]at N;split at N
  ·rename_i l I;exact HA h hn I
  cases N
 | .cT cs,p,h,hn,N=>by
  obtain⟨q,rfl,h⟩:=h;simp[Xm]at N;split at N
  ·rename_i l I;exact HA h hn I
  cases N
 | .sl _ _,p,h,_,_=>by rw[h];rfl
 | .nil _ _,p,h,_,_=>by rw[h];rfl
 | .own _ _,p,h,_,_=>by obtain⟨e,n,rfl,_⟩:=h;rfl
 | .pre _ _ _ _,p,h,_,_=>by obtain⟨e,rfl,_⟩:=h;rfl
 | .part _ _ _ _ _,p,h,_,_=>by obtain⟨e,rfl,_⟩:=h;rfl
 | .k8,_,_,_,h| .undef,_,_,_,h| .oI,_,_,_,h| .fC,_,_,_,h| .pa _ _ _ _ _,_,_,_,h| .pb _ _ _,_,_,_,h| .bp _ _ _,_,_,_,h| .cj _ _,_,_,_,h| .fY _ _ _,_,_,_,h| .mp _,_,_,_,h=>by cases h
theorem HA{s:J SB}: ∀{v u:J SV} {p:J PV},RL s v p->yR v=hl->VE s v=Ss u->CN p=hl
 | [],u,p,h,hn,_=>by cases hn
 |x::xs,u,p,h,hn,N=>by
  obtain⟨a,as,rfl,D,S⟩:=h.cons_inv;simp[VE]at N;split at N
  ·rename_i y ys h3 h4
   simp[yR]at hn;simp only[CN];cases X:Hq x with
   |false=>rw[hv2 D X h3];rfl
   |true=>rw[X]at hn;rw[HA S (by simpa using hn) h4];simp
  cases N
end
mutual
theorem aib{s:J SB}{ps:dp}(hS:dj s ps): ∀{v u:SV} {p:PV},R s v p->Xm s v=Ss u-> ∃q,H7 ps p=Ss q/\zB u=Ss q
 | .int k n,u,p,h,X=>by injection X with X;subst X;rw[h];exact⟨_,rfl,rfl⟩
 | .bool b,u,p,h,X=>by injection X with X;subst X;rw[h];exact⟨_,rfl,rfl⟩
 | .str x,u,p,h,X=>by injection X with X;subst X;rw[h];exact⟨_,rfl,rfl⟩
 | .agg cs,u,p,h,X=>by
  obtain⟨q,rfl,h⟩:=h;simp[Xm]at X;split at X
  ·rename_i l I
   injection X with X;subst X;obtain⟨q',D,S⟩:=VX hS h I;exact⟨.agg q',by simp only[H7,D];rfl,by simp[zB,S]⟩
  cases X
 | .cT cs,u,p,h,X=>by
  obtain⟨q,rfl,h⟩:=h;simp[Xm]at X;split at X
  ·rename_i l I
   injection X with X;subst X;obtain⟨q',D,S⟩:=VX hS h I;exact⟨.cT q',by simp only[H7,D];rfl,by simp[zB,S]⟩
  cases X
 | .sl r l,u,p,h,X=>by injection X with X;subst X;rw[h];exact⟨_,rfl,rfl⟩
 | .nil e c,u,p,h,X=>by injection X with X;subst X;rw[h];exact⟨_,rfl,rfl⟩
 | .own t ex,u,p,h,X=>by
  simp[Xm,cX]at X;split at X
  ·rename_i r l dh
   injection X with X;subst X;obtain⟨e,n,rfl,dU⟩:=h;obtain⟨rfl,rfl⟩:=dU.inv dh;refine⟨.sl (h1 r) hl (l.map (RT.pv r)),?_,rfl⟩;simp[H7,hS.arr dh,Mp];rw[SI (by simp)]
  cases X
 | .pre t len cap ex,u,p,h,X=>by
  simp[Xm,cX]at X;split at X
  ·rename_i r l dh
   injection X with X;subst X;obtain⟨e,rfl,dU⟩:=h;have:=dU.inv dh;subst this;refine⟨.sl (h1 r) hl ((l.take len).map (RT.pv r)),?_,rfl⟩;simp[H7,hS.arr dh,Mp,SH]
  cases X
 | .part t off len cap ex,u,p,h,X=>by
  simp[Xm,cX]at X;split at X
  ·rename_i r l dh
   injection X with X;subst X;obtain⟨e,rfl,dU⟩:=h;have:=dU.inv dh;subst this;refine⟨.sl (h1 r) hl (((l.drop off).take len).map (RT.pv r)),?_,rfl⟩;simp[H7,hS.arr dh,SH,vk]
  cases X
 | .k8,_,_,_,X| .undef,_,_,_,X| .oI,_,_,_,X| .fC,_,_,_,X| .pa _ _ _ _ _,_,_,_,X| .pb _ _ _,_,_,_,X| .bp _ _ _,_,_,_,X| .cj _ _,_,_,_,X| .fY _ _ _,_,_,_,X| .mp _,_,_,_,X=>by cases X
theorem VX{s:J SB}{ps:dp}(hS:dj s ps): ∀{v u:J SV} {p:J PV},RL s v p->VE s v=Ss u-> ∃q,Qy ps p=Ss q/\yG u=Ss q
 | [],u,p,h,X=>by injection X with X;subst X;rw[h];exact⟨_,rfl,rfl⟩
 |x::xs,u,p,h,X=>by
  obtain⟨a,as,rfl,D,S⟩:=h.cons_inv;simp[VE]at X;split at X
  ·rename_i y ys h3 h4
   injection X with X;subst X;obtain⟨q,h5,h6⟩:=aib hS D h3;obtain⟨qs,h7,h8⟩:=VX hS S h4;exact⟨q::qs,by simp[Qy,h5,h7],gA.2 ⟨_,_,rfl,h6,h8⟩⟩
  cases X
end
mutual
theorem nh{s:J SB}: ∀{v:SV} {p:PV},zB v=Ss p->R s v p
 | .int _ _,p,h| .bool _,p,h| .str _,p,h| .fC,p,h| .sl _ _,p,h| .nil _ _,p,h=>by injection h with h;exact h.symm
 | .agg cs,p,h=>by
  simp[zB]at h;split at h
  ·rename_i l I;injection h with h;exact⟨l,h.symm,Nb I⟩
  cases h
 | .cT cs,p,h=>by
  simp[zB]at h;split at h
  ·rename_i l I;injection h with h;exact⟨l,h.symm,Nb I⟩
  cases h
 | .cj cs o,p,h=>by
  simp[zB]at h;split at h
  ·rename_i l I;injection h with h;exact⟨l,h.symm,Nb I⟩
  cases h
 | .fY f a b,p,h=>by
  simp[zB]at h;split at h
  ·rename_i x y D S;injection h with h;exact⟨x,y,h.symm,Nb D,Nb S⟩
  cases h
 | .k8,_,h| .undef,_,h| .oI,_,h| .own _ _,_,h| .pre _ _ _ _,_,h| .part _ _ _ _ _,_,h| .pa _ _ _ _ _,_,h| .pb _ _ _,_,h| .bp _ _ _,_,h| .mp _,_,h=>by cases h
theorem Nb{s:J SB}: ∀{v:J SV} {p:J PV},yG v=Ss p->RL s v p
 | [],p,h=>by injection h with h;exact h.symm
 |x::xs,p,h=>by obtain⟨a,as,rfl,D,S⟩:=gA.1 h;exact RL.cons (nh D) (Nb S)
end
def aic(kd:Kd)(n:Nat)(tk:J Nat)(v:SV)(r:v7):Prop:=
 match kd with
 | .pure=> ∃p,zB v=Ss p/\r={v:=p,rd:=tk}
 | .eT=> ∃p,zB v=Ss p/\r={v:=p,rd:=tk,fr:=tk}
 | .own=> ∃F p q,zB v=Ss F/\M9 n F=Ss (p,q)/\r={v:=p,news:=q,rd:=tk}
def mQ (W7 : s9) (f : FuncId) (c : JB) : Prop :=
  ∀ (a : c.α) (b : c.β) (as args : J PV) (aH : dp) (fz : J Nat), c.fn a = Ss b -> yG (c.args.enc a) = Ss args -> L9 aH (JE aH deep) as = Ss args ->
    ∃ n r, iJ W7 (run W7 n) c.ow f as aH fz = Ss r /\ aic c.kd (h1 aH) (gJ (kq aH deep) as) (c.res.enc b) r
def eZ.va(c:eZ)(a:lS c.ka):J SV:=(yS c.ta (rH c.ka a)).1
def eZ.sa(c:eZ)(a:lS c.ka):J SB:=(Hs c.tb (yS c.ta (rH c.ka a)).2).1
def eZ.vb(c:eZ)(b:lS c.ko):SV:=(Bt c.tv (rH c.ko b)).1
def eZ.sb(c:eZ)(b:lS c.ko):J SB:=(Hs c.to (Bt c.tv (rH c.ko b)).2).1
def TW:SB->SB->Prop
 | .arr r l,.arr q m=>r=q/\h1 m=h1 l
 | .box _,.box _=>True
 | .set _,.set _=>True
 | .nq _ _,.nq _ _=>True
 | .dead,.dead=>True
 |_,_=>False
def jg (W7 : s9) (f : FuncId) (c : eZ) : Prop :=
  ∀ (a : lS c.ka) (b : lS c.ko) (pa : J PV) (ps : dp), c.fn a = Ss b -> RL (c.sa a) (c.va a) pa -> dj (c.sa a) ps ->
    ∃ n v s, run W7 n (.func f pa ps []) = Ss (.func v s []) /\ lM (c.sa a).length v s = YD /\ R (c.sb b) (c.vb b) v /\ dj (c.sb b) (s.take (c.sa a).length) /\ (c.sb b).length = (c.sa a).length /\
      ∀ (t : Nat) (x y : SB), (c.sa a)[t]? = Ss x -> (c.sb b)[t]? = Ss y -> TW x y
def EZ(W7:s9):J (Nat×JB)->Prop
 | []=>True
 |(f,c)::r=>mQ W7 f c/\EZ W7 r
def Nc(W7:s9):J (Nat×eZ)->Prop
 | []=>True
 |(f,c)::r=>jg W7 f c/\Nc W7 r
def F6(W7:s9):J (Nat×Cd)->Prop
 | []=>True
 |(f,x)::r=>W7 f=Ss x.N0/\F6 W7 r
structure sL(W7:s9)(cx:Ctx):Prop where
 zv: ∀f c,c∈cx.zv f->mQ W7 f c
 Lj: ∀f c,c∈cx.Lj f->jg W7 f c
 code: ∀f x,cx.code f=Ss x->W7 f=Ss x.N0
theorem EZ.mem{W7:s9}: ∀{l:J _},EZ W7 l-> ∀f c,c∈Tg l f->mQ W7 f c
 | [],_,f,c,h=>by cases h
 |(g,d)::r,I,f,c,h=>by
  simp[Tg]at h;cases hb:Md g f with
  |true=>
   rw[hb]at h;have:=If hb;subst this;rcases h with _|⟨_,h⟩
   ·exact I.1
   exact EZ.mem I.2 _ c h
  |false=>rw[hb]at h;exact EZ.mem I.2 f c h
theorem Nc.mem{W7:s9}: ∀{l:J _},Nc W7 l-> ∀f c,c∈Th l f->jg W7 f c
 | [],_,f,c,h=>by cases h
 |(g,d)::r,I,f,c,h=>by
  simp[Th]at h;cases hb:Md g f with
  |true=>
   rw[hb]at h;have:=If hb;subst this;rcases h with _|⟨_,h⟩
   ·exact I.1
   exact Nc.mem I.2 _ c h
  |false=>rw[hb]at h;exact Nc.mem I.2 f c h
theorem F6.mem{W7:s9}: ∀{l:J _},F6 W7 l-> ∀f x,Rb l f=Ss x->W7 f=Ss x.N0
 | [],_,f,c,h=>by cases h
 |(g,d)::r,I,f,c,h=>by
  simp[Rb]at h;cases hb:Md g f with
  |true=>rw[hb]at h;have:=If hb;subst this;injection h with h;subst h;exact I.1
  |false=>rw[hb]at h;exact F6.mem I.2 f c h
theorem sL.make{W7:s9}{lp:O Nat}{c:J _}{p:J _}{x:J _}{rk:J _}(D:EZ W7 c)(S:Nc W7 p)(h3:F6 W7 x):sL W7 (xN lp c p x rk):=
 ⟨D.mem,S.mem,h3.mem⟩
section
variable {W7 : s9} {R' ρ : Type} {w : R' -> ρ} {y : ρ} {s : J SB} {ps : dp} {z : J Nat}
theorem E0{f:FuncId}{m:Bool}{tk:J Nat}{vs:J SV}{k:V'->jS R'}(hS:dj s ps){as args:J PV}(X:L9 ps (JE ps deep) as=Ss args)(hv:yG vs=Ss args)(ON:tk=gJ (kq ps deep) as):
 ∀{l:J JB},(∀c∈l,mQ W7 f c)->VJ f m s tk vs k l ρ w=Ss y-> ∃sr pr,(∃n,iJ W7 (run W7 n) m f as ps z=Ss pr)/\Good s ps sr pr/\k (.loc sr) ρ w=Ss y
 | [],_,h=>by cases h
 |c::l,I,h=>by
  simp[VJ]at h;cases hd:c.args.dec vs with
  |none=>rw[hd]at h;exact E0 hS X hv ON (λc hc=>I c (YF _ hc)) h
  |some a=>
   rw[hd]at h;cases PK:(m==c.ow)with
   |false=>rw[PK]at h;exact E0 hS X hv ON (λc hc=>I c (YF _ hc)) h
   |true=>
   rw[PK]at h;obtain⟨b,hb,S⟩:=dw h;have hm:m=c.ow:=by simpa using PK
   subst hm;have ate:=c.args.law hd hv;obtain⟨n,r,hr,Iv⟩:=I c (SK ..) a b as args ps z hb ate X;cases UL:c.kd with
   |pure=>rw[UL]at S Iv;obtain⟨p,h3,rfl⟩:=Iv;exact⟨_,_,⟨n,hr⟩,by grind[Good.val,nh],S⟩
   |eT=>rw[UL]at S Iv;obtain⟨p,h3,rfl⟩:=Iv;exact⟨_,_,⟨n,hr⟩,by grind[Good.val,nh],S⟩
   |own=>
    rw[UL]at S Iv;obtain⟨F,p,q,h3,h4,rfl⟩:=Iv;rw[hS.len]at h4;have hbh:C6 (s++(EP (h1 s) (c.res.enc b)).2) (h1 s) (EP (h1 s) (c.res.enc b)).2:=λj x hj=>by
     grind
    obtain⟨k1,k2⟩:=hkt h3 h4 hbh;exact⟨_,_,⟨n,hr⟩,by rw[<-ON];exact Good.news hS k2.1 k2.2 k1,S⟩
end
end Go.Vm
/- A call of a function that works on the blocks that are lent to it. -/
namespace Go.Vm
def zE{α:Type}:J (Nat×α)->J α->J α
 | [],s=>s
 |(t,b)::r,s=>zE r (s.set t b)
theorem C7: ∀(l:J _) (s:J SB),zC l s=zE l s
 | [],s=>rfl
 |(t,b)::r,s=>by simp[zC,zE,IF,C7 r]
theorem hwr: ∀(l:J _) (s:dp),mO l s=zE l s
 | [],s=>rfl
 |(t,b)::r,s=>by simp[mO,zE,hwr r]
theorem HB{α:Type}: ∀(l:J _) (s:J α),(zE l s).length=h1 s
 | [],s=>rfl
 |(t,b)::r,s=>by simp[zE,HB r]
theorem C8{α:Type}: ∀(l:J _) (s:J α) (t:Nat),t∉l.map (·.1)->(zE l s)[t]? =s[t]?
 | [],s,t,_=>rfl
 |(u,b)::r,s,t,h=>by
  simp only[KL,List.mem_cons,not_or]at h;simp[zE];rw[C8 r _ t h.2,KJ]
  grind
theorem J9{α:Type}: ∀(l:J _) (s:J α) (j t:Nat) (b:α),(l.map (·.1)).Nodup->l[j]? =Ss (t,b)->t<h1 s->(zE l s)[t]? =Ss b
 | [],s,j,t,b,_,h,_=>by simp at h
 |(u,c)::r,s,0,t,b,hn,h,ht=>by
  simp[zE]
  grind[C8]
 |(u,c)::r,s,j+1,t,b,hn,h,ht=>by simp[]at hn;exact J9 r _ j t b hn.2 (by simpa using h) (by simpa using ht)
theorem IN: ∀(l:J _),ID l=l.map (·.1)
 | []=>rfl
 |(t,b)::r=>by simp[ID,IN r]
theorem hrp(g:Nat->Nat): ∀(tk:J Nat) (s:J SB),h1 s=h1 tk->(GQ g tk s).map (·.1)=tk/\ ∀(j t:Nat) (b:SB),tk[j]? =Ss t->s[j]? =Ss b->(GQ g tk s)[j]? =Ss (t,Hb g b)
 | [],s,h=>⟨by simp[GQ],λj t b hj=>by simp at hj⟩
 |t::tk,[],h=>by simp at h
 |t::tk,b::s,h=>by
  obtain⟨D,S⟩:=hrp g tk s (by simpa using h);refine⟨by simp[GQ,D],λj u c hj hc=>?_⟩;cases j with
  |zero=>simp at hj hc;subst hj hc;rfl
  |succ j=>simp[GQ,];grind
theorem hu2(g:Nat->Nat): ∀(tk:J Nat) (s:dp),h1 tk<=h1 s->(wk g tk s).map (·.1)=tk/\ ∀(j t:Nat) (b:pT),tk[j]? =Ss t->s[j]? =Ss b->(wk g tk s)[j]? =Ss (t,GG g b)
 | [],s,h=>⟨by simp[wk],λj t b hj=>by simp at hj⟩
 |t::tk,[],h=>by simp at h
 |t::tk,b::s,h=>by
  obtain⟨D,S⟩:=hu2 g tk s (by simpa using h);refine⟨by simp[wk,D],λj u c hj hc=>?_⟩;cases j with
  |zero=>simp at hj hc;subst hj hc;rfl
  |succ j=>simp[wk,];grind
theorem hds: ∀{l:J _},(l.map (·.1)).Nodup->CP l=YD
 | [],_=>rfl
 |p::r,h=>by
  simp[]at h;simp[CP,];refine⟨λq hq=>?_,hds h.2⟩
  grind[If]
theorem Rj: ∀(s:J SB),Ly [] s=s
 | []=>rfl
 |b::r=>by simp[Ly,Rj r];cases b<;>simp[jn,AF]
theorem h1a(s:J SB)(r:jf):r.tL s=Ly (ID r.wr) (zC r.wr s)++r.news:=by
 unfold jf.tL;split
 ·rename_i h;rw[h];simp[ID,zC,Rj,rL]
 simp[rL]
def WV(g:Nat->Nat)(s s2:J SB):Prop:= ∀(u:Nat) (x:SB),s[u]? =Ss x->match x with
 | .arr r l=>s2[g u]? =Ss (.arr r l)
 | .dead=>s2[g u]? =Ss .dead
 | .box _=> ∃cs,s2[g u]? =Ss (.box cs)
 |_=>True
mutual
theorem ht0{g:Nat->Nat}{s s2:J SB}(hb:WV g s s2): ∀{v:SV} {p:PV},R s v p->R s2 (Te g v) (JF g p)
 | .k8,_,_=>trivial
 | .undef,p,h| .oI,p,h| .fC,p,h| .int _ _,p,h| .bool _,p,h| .str _,p,h| .sl _ _,p,h| .nil _ _,p,h| .bp _ _ _,p,h| .mp _,p,h=>by rw[show p=_ from h];rfl
 | .agg cs,p,h=>by obtain⟨q,rfl,h⟩:=h;exact⟨_,rfl,C9 hb h⟩
 | .cT cs,p,h=>by obtain⟨q,rfl,h⟩:=h;exact⟨_,rfl,C9 hb h⟩
 | .cj cs o,p,h=>by obtain⟨q,rfl,h⟩:=h;exact⟨_,rfl,C9 hb h⟩
 | .fY f a b,p,h=>by obtain⟨pa,pb,rfl,D,S⟩:=h;exact⟨_,_,rfl,C9 hb D,C9 hb S⟩
 | .own t ex,p,h=>by
  obtain⟨e,n,rfl,dU⟩:=h;refine⟨e,n,rfl,?_⟩;rcases dU with⟨r,l,D,S,h3⟩|D
  ·exact .inl ⟨r,l,hb t _ D,S,h3⟩
  exact .inr (hb t _ D)
 | .pre t a b c,p,h=>by
  obtain⟨e,rfl,dU⟩:=h;refine⟨e,rfl,?_⟩;rcases dU with⟨r,l,D,S⟩|D|⟨cs,D,S⟩
  ·exact .inl ⟨r,l,hb t _ D,S⟩
  ·exact .inr (.inl (hb t _ D))
  obtain⟨c2,h3⟩:=hb t _ D
  exact .inr (.inr ⟨c2,h3,S⟩)
 | .part t o a b c,p,h=>by
  obtain⟨e,rfl,dU⟩:=h;refine⟨e,rfl,?_⟩;rcases dU with⟨r,l,D,S⟩|D|⟨cs,D,S⟩
  ·exact .inl ⟨r,l,hb t _ D,S⟩
  ·exact .inr (.inl (hb t _ D))
  obtain⟨c2,h3⟩:=hb t _ D
  exact .inr (.inr ⟨c2,h3,S⟩)
 | .pa t r i a o,p,h=>by
  obtain⟨rfl,dU⟩:=h;refine⟨_,rfl,?_⟩;rcases dU with⟨l,D,S⟩|D
  ·exact .inl ⟨r,l,hb t _ D,by rw[S];rfl⟩
  exact .inr (hb t _ D)
 | .pb t i o,p,h=>by
  obtain⟨e,rfl,dU⟩:=h;refine⟨e,rfl,?_⟩;rcases dU with⟨r,l,D,S⟩|D
  ·exact .inl ⟨r,l,hb t _ D,S⟩
  exact .inr (hb t _ D)
theorem C9{g:Nat->Nat}{s s2:J SB}(hb:WV g s s2): ∀{v:J SV} {p:J PV},RL s v p->RL s2 (KZ g v) (D4 g p)
 | [],p,h=>by rw[show p=_ from h];rfl
 |x::xs,p,h=>by obtain⟨a,as,rfl,D,S⟩:=h.cons_inv;exact RL.cons (ht0 hb D) (C9 hb S)
end
theorem hzl: ∀{a b:dp},(∀(t:Nat) (x:pT),a[t]? =Ss x-> ∃y,b[t]? =Ss y/\x.cu=y.cu)->CO a b=YD
 | [],b,_=>by cases b<;>rfl
 |x::a,[],h=>by obtain⟨y,hy,_⟩:=h 0 x rfl;simp at hy
 |x::a,y::b,h=>by obtain⟨y',D,S⟩:=h 0 x rfl;simp at D;subst D;have:=hzl (λt x X=>by simpa using h (t+1) x (by simpa using X));simp[CO,this,S];cases y.cu<;>rfl
section
variable {W7 : s9} {R' ρ : Type} {w : R' -> ρ} {y : ρ} {s : J SB} {ps : dp} {z : J Nat}
theorem hnz{f:FuncId}{tk:J Nat}{VY vs:J SV}{s0:J SB}{k:V'->jS R'}(hS:dj s ps){S5:J PV}(hv:RL s VY S5)(ON:tk=xG (gJ (kq ps deep) S5))(hz:(tk.all λt=>!has z t)=YD)
 (D:AE tk VY=Ss vs) (S:OW s tk tk=Ss s0):
 ∀{l:J eZ},(∀c∈l,jg W7 f c)->uV f (h1 s) tk vs s0 k l ρ w=Ss y-> ∃sr pr,(∃n,Bi (run W7 n) f S5 ps z=Ss pr)/\Good s ps sr pr/\k (.loc sr) ρ w=Ss y
 | [],_,h=>by cases h
 |c::l,I,h=>by
  have next:uV f (h1 s) tk vs s0 k l ρ w=Ss y-> ∃sr pr,(∃n,Bi (run W7 n) f S5 ps z=Ss pr)/\Good s ps sr pr/\k (.loc sr) ρ w=Ss y:=
   λh=>hnz hS hv ON hz D S (λc hc=>I c (YF _ hc)) h
  simp only[uV]at h;cases CL:(ET c.ta vs&&MR c.tb s0)with
  |false=>grind
  |true=>
   rw[CL]at h;simp only[ww]at h;cases Uf:qj c.ka (J0 vs++Q8 s0)with
   |none=>simp_all
   |some a=>
    rw[Uf]at h;obtain⟨b,hb,h3⟩:=dw h;simp only[IR]at CL;have OM:=wG Uf;have hva:c.va a=vs:=by unfold eZ.va;rw[OM,uQ _ CL.1]
    have hsa:c.sa a=s0:=by
     unfold eZ.sa;rw[OM,uQ _ CL.1];have:=IM [] CL.2
     grind
    have OQ:M8 tk s s0:=by have:=M8.of (l:=[]) S;grind
    obtain⟨pa',a1,a2⟩:=AI OQ hv D;obtain⟨F,b1,b2,b3⟩:=J4 hS OQ S;have Se:dj s0 F:=⟨b2,b3⟩;obtain⟨anP,anQ⟩:=EY S;obtain⟨n,v,sr,r1,r2,r3,r4,r5,r6⟩:=I c (SK ..) a b pa' F hb (by grind) (by grind);rw[hsa]at r2 r4 r5 r6;have OO:tk.Nodup:=by rw[ON];exact AB
    have YU: ∀t∈tk,t<(h1 s):=λt ht=>by
     obtain⟨j,hj,he⟩:=D8 ht;obtain⟨x,c',d1,_,_⟩:=anQ j t (by rw[Y hj,he])
     grind
    have atg:(c.sb b).length=(h1 tk):=by rw[r5,anP]
    have ath:(h1 tk)<=(h1 sr):=by
     have:=r4.len
     grind
    have M4: ∀j,j<h1 tk->(sr.take (h1 s0))[j]? =sr[j]?:=λj hj=>NE (by omega)
    have RY:CO F sr=YD:=hzl (λt x X=>by
     have ati:t<(h1 s0):=by grind
     obtain⟨x0,Q2⟩: ∃x0,s0[t]? =Ss x0:=⟨s0[t],Y ati⟩;obtain⟨q,q1,q2⟩:=b3 t x0 Q2;rw[X]at q1;injection q1 with q1;subst q1;obtain⟨y0,Zl⟩: ∃y0,(c.sb b)[t]? =Ss y0:=⟨(c.sb b)[t]'(by omega),Y (by omega)⟩;obtain⟨q',q3,q4⟩:=r4.at_ t y0 Zl;rw[M4 t (by omega)]at q3;refine⟨q',q3,?_⟩;have Sd:=r6 t x0 y0 Q2 Zl;cases x0 with
     |arr r l=>cases y0 with
      |arr r' l'=>obtain⟨rfl,H9⟩:=Sd;rw[q2,q4];cases l<;>cases l'<;>simp_all[pT.cu]
      |_=>exact Sd.elim
     |box cs=>cases y0 with
      |box Pb=>obtain⟨_,rfl,_⟩:=q2;obtain⟨_,rfl,_⟩:=q4;rfl
      |_=>exact Sd.elim
     |set l=>cases y0 with
      |set l'=>rw[q2,q4];rfl
      |_=>exact Sd.elim
     |nq p l=>cases y0 with
      |nq p' l'=>rw[q2,q4];rfl
      |_=>exact Sd.elim
     |dead=>cases y0 with
      |dead=>rw[q2,q4]
      |_=>exact Sd.elim)
    let g:=oT tk (h1 s)
    have hg: ∀j t,tk[j]? =Ss t->g j=t:=λj t hj=>by show oT tk (h1 s) j=t;unfold oT;rw[hj]
    obtain⟨w1,w2⟩:=hrp g tk (c.sb b) atg;obtain⟨u1,u2⟩:=hu2 g tk sr ath
    let s2:=Ly tk (zC (GQ g tk (c.sb b)) s)
    have FU: ∀(j t:Nat) (x:SB),tk[j]? =Ss t->(c.sb b)[j]? =Ss x->s2[t]? =Ss (jn tk (Hb g x)):=λj t x hj X=>by show(Ly tk _)[t]? =_;rw[yU,C7,J9 _ s j t _ (by grind) (w2 j t x hj X) (YU t (YI hj))];rfl
    have tq: ∀(t:Nat),t∉tk->s2[t]? =(s[t]?).map (jn tk):=λt ht=>by
     grind[yU,C7,C8]
    have Lv: ∀t∈tk,∃j,tk[j]? =Ss t:=λt ht=>by obtain⟨j,hj,he⟩:=D8 ht;exact⟨j,by rw[Y hj,he]⟩
    have Bm:Fr tk s s2:=λt x X=>by
     by_cases ht:t∈tk
     ·obtain⟨j,hj⟩:=Lv t ht
      have Vb:=(PP.1 hj).1;obtain⟨x',c',d1,d2,d3⟩:=anQ j t hj;rw[X]at d1;injection d1 with d1;subst d1;obtain⟨y0,Zl⟩: ∃y0,(c.sb b)[j]? =Ss y0:=⟨(c.sb b)[j]'(by omega),Y (by omega)⟩;have Sd:=r6 j c' y0 d3 Zl;have K3:=FU j t y0 hj Zl;cases x with
      |arr r l=>
       injection d2 with d2;subst d2;cases y0 with
       |arr r' l'=>
        obtain⟨rfl,H9⟩:=Sd;refine .inl ⟨l',K3,H9,λhb=>?_⟩;exfalso;have:has tk t=YD:=by unfold has;rw[List.any_eq_true];exact⟨t,ht,by simp⟩
        rw[this]at hb;cases hb
       |_=>exact Sd.elim
      |dead=>
       injection d2 with d2;subst d2;cases y0 with
       |dead=>exact K3
       |_=>exact Sd.elim
      |box cs=>
       simp only[VF]at d2;split at d2
       ·injection d2 with d2;subst d2
        cases y0 with
        |box c2=>exact .inl ⟨_,K3⟩
        |_=>exact Sd.elim
       cases d2
      |_=>trivial
     have:=tq t ht
     rw[X]at this;cases x with
     |arr r l=>exact .inl ⟨l,this,rfl,λ_=>rfl⟩
     |dead=>exact this
     |box c2=>exact .inl ⟨_,this⟩
     |_=>trivial
    have aid:WV g (c.sb b) s2:=λu x X=>by
     have VT:u<(h1 tk):=by have:=(PP.1 X).1;omega
     have hj:=Y VT;have:=FU u _ x hj X;rw[hg u _ hj];cases x with
     |arr r l=>exact this
     |dead=>exact this
     |box cs=>exact⟨_,this⟩
     |_=>trivial
    have atj:(∃n,Bi (run W7 n) f S5 ps z=Ss {v:=JF g v,wr:=wk g tk sr}):=by
     refine⟨n,?_⟩;unfold Bi Ub;rw[<-ON,Do hz,a1,b1];dsimp only;rw[r1];dsimp only;unfold Mb;rw[Do RY,hS.len];have:lM (h1 tk) v sr=YD:=by rw[<-anP];exact r2
     rw[Do this]
    refine⟨{v:=Te g (c.vb b),wr:=GQ g tk (c.sb b)},_,atj,?_,h3⟩;have dh:jf.tL s {v:=Te g (c.vb b),wr:=GQ g tk (c.sb b)}=s2:=by rw[h1a,Mq,IN,w1]
    exact {
     rd:=rfl
     fr:=rfl
     wr:=by rw[IN,w1];exact u1
     nw:=hds (by rw[u1];exact OO)
     nl:=rfl
     aH:=by
      rw[dh];show dj s2 (mO (wk g tk sr) ps);rw[hwr];refine⟨by rw[HB,C2,C7,HB,hS.len],λt x X=>?_⟩
      by_cases ht:t∈tk
      ·obtain⟨j,hj⟩:=Lv t ht
       have Vb:=(PP.1 hj).1;obtain⟨y0,Zl⟩: ∃y0,(c.sb b)[j]? =Ss y0:=⟨(c.sb b)[j]'(by omega),Y (by omega)⟩;have K3:=FU j t y0 hj Zl;rw[X]at K3;injection K3 with K3;subst K3;obtain⟨q',q3,q4⟩:=r4.at_ j y0 Zl;rw[M4 j Vb]at q3;refine⟨GG g q',J9 _ ps j t _ (by rw[u1];exact OO) (u2 j t q' hj q3) (by rw[hS.len];exact YU t ht),?_⟩;cases y0 with
       |box cs=>obtain⟨pc,rfl,Qu⟩:=q4;exact⟨_,rfl,RL.fr (Fr.refl tk s2) (C9 aid Qu)⟩
       |arr r l=>rw[q4];rfl
       |set l=>rw[q4];rfl
       |nq p l=>rw[q4];rfl
       |dead=>rw[q4];rfl
      rw[tq t ht,Xc]at X
      obtain⟨x0,Q2,rfl⟩:=X;obtain⟨q,q1,q2⟩:=hS.at_ t x0 Q2;exact⟨q,by rw[C8 _ ps t (by rw[u1];exact ht)];exact q1,q2.fr Bm⟩
     v:=by rw[dh];exact ht0 aid r3
     Nr:=by rw[dh,IN,w1];exact Bm}
end
end Go.Vm
/- What the typed machine makes of a function is what the logical machine runs. -/
namespace Go.Vm
section
variable {W7 : s9}
theorem WO.ajV{o:dD}{r:J dD}{st:St}{tr:J Tr}{Q:St->J Tr->Prop}{f:FuncId}{args:J PV}
 (hw:wanted o.guard st.env=Ss YD) (je: ∀n,FJ W7 (run W7 n) st.env st.aH st.fz o.op=kr (run W7 n) f args st.aH st.fz)
 (h:OI W7 f args st.aH st.fz λv s z=>(Pc (h1 st.aH) (h1 s)&&st.fz.all (has z))=YD/\WO W7 r {st with env:=oU o.dst v st.env,aH:=s,fz:=z} (R1::tr) Q):
 WO W7 (o::r) st tr Q:=by
 obtain⟨n,v,s,z,hr,hc,hk⟩:=h;refine WO.call (.shr v s z) hw ⟨n,?_⟩ rfl hk;rw[je];simp only[kr,hr];rw[Do hc]
theorem WP.again{live:J _}{b:pg}{st s1:St}{Q:mM->St->Prop}(h0:norm live st=Ss s1)(h:WP W7 b s1 (andThen (λs=>WP W7 (.loop live b) s Q) Q)):WP W7 (.loop live b) st Q:=by
 obtain⟨m,e,s,he,hq⟩:=h;cases e with
 |normal=>
  obtain⟨k,e',s',Sa,Y3⟩:=hq;refine⟨max m k+1,e',s',?_,Y3⟩;simp[BY]at Sa ⊢;rw[xH];simp[step,h0];rw[BZ (.refl _ _) (B0 W7 (Nat.le_max_left m k)) _ _ _ he];dsimp only;split at Sa
  ·rename_i e1 s1 ME
   rw[B0 W7 (Nat.le_max_right m k) _ _ ME];exact Sa
  cases Sa
 |exit i=>exact⟨m+1,.exit i,s,by simp[BY];rw[xH];simp[step,h0,he],hq⟩
 |ret=>exact⟨m+1,.ret,s,by simp[BY];rw[xH];simp[step,h0,he],hq⟩
def Ts (W7 : s9) (inl : PB) : Prop :=
  ∀ (f : FuncId) (args : J SV) (s : J SB) (z : J Nat) (R' : Type) (k : SV -> J SB -> J Nat -> jS R') (ρ : Type) (w : R' -> ρ) (y : ρ) (pa : J PV) (ps : dp) (Q : R' -> PV -> dp -> J Nat -> Prop),
    RL s args pa -> dj s ps -> inl f args s z R' k ρ w = Ss y ->
    (∀ v s' z' p E2 Er (w' : R' -> Er) y', R s' v p -> dj s' E2 -> k v s' z' Er w' = Ss y' -> ∃ r, y' = w' r /\ Q r p E2 z') ->
    ∃ r, y = w r /\ OI W7 f pa ps z (fun p E2 z' => Q r p E2 z')
def XM:SB->SB->Prop
 | .arr r l,b=>(∃l',b= .arr r l'/\h1 l'=h1 l)\/b= .dead
 | .dead,b=>b= .dead
 | .box _,b=>(∃cs,b= .box cs)\/b= .dead
 |_,_=>True
theorem hz'{R' ρ:Type}{w:R'->ρ}{y:ρ}: ∀{s s':J SB} {k:jS R'},yT s s' k ρ w=Ss y->k ρ w=Ss y/\h1 s<=h1 s'/\
 ∀(t:Nat) (b:SB),s[t]? =Ss b-> ∃b',s'[t]? =Ss b'/\XM b b'
 | [],s',k,h=>⟨by cases s'<;>exact h,Nat.zero_le _,λt b ht=>by simp at ht⟩
 |x::xs,[],k,h=>by cases h
 |x::xs,y'::ys,k,h=>by
  have step: ∀(_:yT xs ys k ρ w=Ss y) (_:XM x y'),k ρ w=Ss y/\(x::xs).length<=(y'::ys).length/\ ∀(t:Nat) (b:SB),(x::xs)[t]? =Ss b-> ∃b',(y'::ys)[t]? =Ss b'/\XM b b':=by
   intro h X;obtain⟨D,S,h3⟩:=hz' h
   grind
  cases x with
  |arr r l=>
   cases y' with
   |arr q m=>obtain⟨hr,S⟩:=dy h;obtain⟨I,h3⟩:=lT S;have:=EM hr;subst this;exact step h3 (.inl ⟨m,rfl,by simpa using I⟩)
   |dead=>exact step h (.inr rfl)
   |_=>cases h
  |dead=>
   cases y' with
   |dead=>exact step h rfl
   |_=>cases h
  |box cs=>
   cases y' with
   |box c2=>exact step h (.inl ⟨c2,rfl⟩)
   |dead=>exact step h (.inr rfl)
   |_=>cases h
  |set l=>exact step h trivial
  |nq p l=>exact step h trivial
theorem acd{n t:Nat}(h:t<n):has (BV n) t=YD:=by
 induction n with
 |zero=>omega
 |succ n ih=>
  unfold has at ih ⊢;simp only[BV,];rcases xc t n with D|D
  ·grind
  have:t=n:=by omega
  simp_all
theorem hy'{s s':J SB}(h: ∀(t:Nat) (b:SB),s[t]? =Ss b-> ∃b',s'[t]? =Ss b'/\XM b b'):Fr (BV (h1 s)) s s':=λt b hb=>by
 obtain⟨b',D,S⟩:=h t b hb;cases b with
 |arr r l=>
  rcases S with⟨l',rfl,h3⟩|rfl
  ·grind[acd]
  exact .inr D
 |dead=>rw[S]at D;exact D
 |box cs=>
  rcases S with⟨c2,rfl⟩|rfl
  ·grind
  exact .inr D
 |_=>trivial
theorem anR{s:J SB}{ps:dp}{sr:jf}{pr:v7}(G:Good s ps sr pr)(hS:dj s ps):(XR.loc pr).tr (h1 ps)=sr.tr (h1 s):=by
 simp only[XR.tr,jf.tr,G.rd,G.fr,hS.len,<-G.wr,G.nl,hx];have:pr.news.isEmpty=sr.news.isEmpty:=by have:=G.nl;cases D:pr.news<;>cases S:sr.news<;>simp_all
 rw[this];rfl
theorem ajW{st:wB}{p:St}(h:F2 st p){sr:jf}{pr:v7}(G:Good st.aH p.aH sr pr)(d:O Nat):F2 (sr.next d st) ((XR.loc pr).next d p):=by
 have nA: ∀{s:J SB} {e:SE} {pe:Env} {v:SV} {q:PV},fx s e pe->R s v q->fx s (Q' d v e) (oU d q pe):=by
  intro s e pe v q he hv;cases d with
  |none=>exact he
  |some t=>exact⟨q,pe,rfl,hv,he⟩
 have hs:=h1a st.aH sr;unfold jf.next
 split
 ·rename_i hw
  rw[hw]at hs;simp[ID,Rj]at hs;have CS:=G.aH;have hv:=G.v;have Bm:=G.Nr;rw[hs]at CS hv Bm;rw[hw]at Bm;exact⟨by simp[rL];exact nA (fx.ext Bm h.env) hv,by simp[rL];exact CS,by simp[XR.next,G.fr,h.fz],h.kn⟩
 have CS:=G.aH
 have hv:=G.v;have Bm:=G.Nr;rw[hs]at CS hv Bm;exact⟨by simp[rL];exact nA (fx.fr Bm h.env) hv,by simp[rL];exact CS,by simp[XR.next,G.fr,h.fz],h.kn⟩
theorem ok_eq{s:J SB}{ps:dp}{sr:jf}{pr:v7}(G:Good s ps sr pr){z:J Nat}(h:sr.ok z=YD):(XR.loc pr).ok z=YD:=by simp only[XR.ok,G.nw,Mr];unfold jf.ok at h;rw[<-G.wr,hx]at h;exact h
section
variable {cx : Ctx} {inl : PB} {R' : Type}
def atl(_F:s9)(k:wB->J Tr->jS R')(Q:R'->St->J Tr->Prop):Prop:=
 ∀st p tr ρ (w:R'->ρ) y,F2 st p->k st tr ρ w=Ss y-> ∃r,y=w r/\Q r p tr
theorem C'{o:dD}{l:J dD}{st:wB}{p:St}{tr:J Tr}{k:wB->J Tr->jS R'}{ρ:Type}{w:R'->ρ}{y:ρ}{Q:R'->St->J Tr->Prop}
 (I: ∀st p tr ρ (w:R'->ρ) y,F2 st p->k st tr ρ w=Ss y-> ∃r,y=w r/\WO W7 l p tr (Q r)) (h:F2 st p) {sr:jf} {pr:v7} (hw:wanted o.guard p.env=Ss YD)
 (X: ∃n,FJ W7 (run W7 n) p.env p.aH p.fz o.op=Ss (.loc pr)) (G:Good st.aH p.aH sr pr) (hg:Mt o.dst st tr k (.loc sr) ρ w=Ss y): ∃r,y=w r/\WO W7 (o::l) p tr (Q r):=by
 obtain⟨GA,hg⟩:=dy hg;rw[Q5]at hg;have hR:=ajW h G o.dst;obtain⟨r,hr,TX⟩:=I _ _ _ _ _ _ hR hg;refine⟨r,hr,WO.call _ hw X (by rw[h.fz];exact ok_eq G GA) ?_⟩;rw[anR G h.aH];exact TX
theorem ckS (Lz:sL W7 cx) (Rk:Ts W7 inl) {o:dD} {l:J dD} {st:wB} {p:St} {tr:J Tr} {k:wB->J Tr->jS R'} {ρ:Type} {w:R'->ρ} {y:ρ} {Q:R'->St->J Tr->Prop}
 (I: ∀st p tr ρ (w:R'->ρ) y,F2 st p->k st tr ρ w=Ss y-> ∃r,y=w r/\WO W7 l p tr (Q r)) (h:F2 st p) (hw:wanted o.guard p.env=Ss YD)
 (hg:Pz cx inl st.env st.aH st.fz o.op (Mt o.dst st tr k) ρ w=Ss y): ∃r,y=w r/\WO W7 (o::l) p tr (Q r):=by
 have hS:=h.aH;have hE:=h.env;have shr: ∀(f:FuncId) (VY:J SV) (S5:J PV),RL st.aH VY S5->(∀n,FJ W7 (run W7 n) p.env p.aH p.fz o.op=kr (run W7 n) f S5 p.aH p.fz)->
  inl f VY st.aH st.fz R' (fun v s' z'=>Mt o.dst st tr k (.shr v s' z')) ρ w=Ss y-> ∃r,y=w r/\WO W7 (o::l) p tr (Q r):=by
  intro f VY S5 hv je N;obtain ⟨r,hr,hd⟩:=Rk f VY st.aH st.fz R' _ ρ w y S5 p.aH (fun r v s z=>(Pc (h1 p.aH) (h1 s)&&p.fz.all (has z))=YD/\WO W7 l {p with env:=oU o.dst v p.env,aH:=s,fz:=z} (R1::tr) (Q r)) hv hS N
   (fun v s' z' pv E2 Er w' y' hR NK hk=>by
    unfold Mt at hk;dsimp only at hk;rw [Q5] at hk;obtain ⟨hk,fJ,ahG⟩:=hz' hk;obtain ⟨hz,hk⟩:=dy hk;have Bm:=hy' ahG;have nA:fx s' (Q' o.dst v (H0 (BV (h1 st.aH)) st.env)) (oU o.dst pv p.env):=by
     cases o.dst with
     |none=>exact fx.fr Bm hE
     |some t=>exact ⟨pv,p.env,rfl,hR,fx.fr Bm hE⟩
    have hR':F2 {env:=Q' o.dst v (H0 (BV (h1 st.aH)) st.env),aH:=s',fz:=z',kn:=st.kn} {p with env:=oU o.dst pv p.env,aH:=E2,fz:=z'}:=⟨nA,NK,rfl,h.kn⟩;obtain ⟨r,hr,TX⟩:=I _ _ _ _ _ _ hR' hk;refine ⟨r,hr,?_,TX⟩;rw [h.fz,hz,Mr,hS.len,NK.len];simpa using fJ)
  refine ⟨r,hr,WO.ajV hw je ?_⟩;rw [h.fz];rw [h.fz] at hd;exact hd
 have loc: ∀{k':jf->jS R'},uD st.env st.aH st.fz o.op k' ρ w=Ss y->abx o.op=hl->(∀sr,k' sr=Mt o.dst st tr k (.loc sr))-> ∃r,y=w r/\WO W7 (o::l) p tr (Q r):=by intro k' hv hc hk;obtain ⟨sr,pr,D,G,S⟩:=afJ hE hS hv;rw [hk] at S;exact C' I h hw ⟨0,by rw [afh hc,h.fz,D];rfl⟩ G S
 generalize je:o.op=op at hg;cases op with
 |call m f args=>
  have tB:=F3 hE args;simp [Pz] at hg;cases m with
  |Zh=>
   dsimp only at hg;cases X:zA st.aH (pz st.aH deep) (og st.env args) with
   |none=>rw [X] at hg;cases hg
   |some vs=>rw [X] at hg;obtain ⟨q,D,S⟩:=Bu hS (LN hS deep) tB X;obtain ⟨sr,pr,⟨n,h3⟩,G,h4⟩:=E0 (z:=st.fz) hS D S (GS hS (M5 hS deep) tB X) (fun c hc=>Lz.zv f c hc) hg;exact C' I h hw ⟨n,by rw [je,h.fz];simp only [FJ,h3];rfl⟩ G h4
  |own=>
   dsimp only at hg;cases X:zA st.aH (pz st.aH deep) (og st.env args) with
   |none=>rw [X] at hg;cases hg
   |some vs=>rw [X] at hg;obtain ⟨q,D,S⟩:=Bu hS (LN hS deep) tB X;obtain ⟨sr,pr,⟨n,h3⟩,G,h4⟩:=E0 (z:=st.fz) hS D S (GS hS (M5 hS deep) tB X) (fun c hc=>Lz.zv f c hc) hg;exact C' I h hw ⟨n,by rw [je,h.fz];simp only [FJ,h3];rfl⟩ G h4
  |shr=>exact shr f _ _ tB (fun n=>by rw [je];rfl) hg
  |fp=>
   dsimp only at hg;cases X:VD st.aH (pz st.aH deep) (og st.env args) with
   |false=>rw [X] at hg;cases hg
   |true=>
    rw [X] at hg;dsimp only at hg;obtain ⟨hz,hg⟩:=dy hg;cases D:AE (xG (yQ (Ek st.aH deep) (og st.env args))) (og st.env args) with
    |none=>rw [D] at hg;cases hg
    |some vs=>
     cases S:OW st.aH (xG (yQ (Ek st.aH deep) (og st.env args))) (xG (yQ (Ek st.aH deep) (og st.env args))) with
     |none=>rw [D,S] at hg;cases hg
     |some s0=>rw [D,S] at hg;obtain ⟨sr,pr,⟨n,h3⟩,G,h4⟩:=hnz hS tB (by grind [Yk,M5]) hz D S (fun c hc=>Lz.Lj f c hc) hg;exact C' I h hw ⟨n,by rw [je,h.fz];simp only [FJ,h3];rfl⟩ G h4
 |D3 x args=>
  have tB:=F3 hE args;simp only [Pz] at hg;have X:=fb hE x;generalize cJ st.env x=v at hg X;cases v with
  |fY f a b=>
   dsimp only at hg;obtain ⟨pa,pb,X,ha,hb⟩:=X;have atm: ∀{vs:J SV} {q:J PV},RL st.aH vs q->(Ht vs=YD->q.any Ma=YD):=by
    intro vs
    induction vs with
    |nil=>intro q _ h;cases h
    |cons v vs ih=>
     intro q hq hp;obtain ⟨a,as,rfl,D,S⟩:=hq.cons_inv;simp [Ht,Bool.or_eq_true] at hp;simp;rcases hp with hp|hp
     · left
       cases v with
       |own _ _=>obtain ⟨_,_,rfl,_⟩:=D;rfl
       |pre _ _ _ _=>obtain ⟨_,rfl,_⟩:=D;rfl
       |part _ _ _ _ _=>obtain ⟨_,rfl,_⟩:=D;rfl
       |pa _ _ _ _ _=>obtain ⟨rfl,_⟩:=D;rfl
       |pb _ _ _=>obtain ⟨_,rfl,_⟩:=D;rfl
       |bp _ _ _=>rw [D];rfl
       |mp _=>rw [D];rfl
       |_=>cases hp
     grind
   cases hp:Ht (og st.env args++b) with
   |true=>rw [hp] at hg;have:=atm (tB.append hb) hp;exact shr f _ _ ((ha.append tB).append hb) (fun n=>by rw [je];simp only [FJ,X,this,if_true]) hg
   |false=>
    rw [hp] at hg;simp only [AC] at hg;cases Zw:zA st.aH (pz st.aH deep) (a++og st.env args++b) with
    |none=>rw [Zw] at hg;cases hg
    |some vs=>
     rw [Zw] at hg;have Qq: ∀{vs u:J SV} {q:J PV},RL st.aH vs q->Ht vs=hl->zA st.aH (pz st.aH deep) vs=Ss u->q.any Ma=hl:=by
      intro vs
      induction vs with
      |nil=>intro u q hq _ _;rw [hq];rfl
      |cons v vs ih=>
       intro u q hq hp hu;obtain ⟨a,as,rfl,D,S⟩:=hq.cons_inv;simp only [Ht,Bool.or_eq_false_iff] at hp;simp only [zA] at hu;split at hu
       · rename_i y1 y2 e1 e2
         simp only [List.any_cons,ih S hp.2 e2,Bool.or_false];cases v with
         |agg _|cT _|cj _ _=>obtain ⟨_,rfl,_⟩:=D;rfl
         |fY _ _ _=>obtain ⟨_,_,rfl,_⟩:=D;rfl
         |int _ _|bool _|str _|fC|sl _ _|nil _ _|undef|oI=>rw [D];rfl
         |k8=>cases e1
         |own _ _|pre _ _ _ _|part _ _ _ _ _|pa _ _ _ _ _|pb _ _ _|bp _ _ _|mp _=>cases hp.1
       cases hu
     have ajX: ∃u2,zA st.aH (pz st.aH deep) (og st.env args++b)=Ss u2:=by
      have: ∀(l:J SV) {m u:J SV},zA st.aH (pz st.aH deep) (l++m)=Ss u-> ∃u2,zA st.aH (pz st.aH deep) m=Ss u2:=by
       intro l
       induction l with
       |nil=>intro m u h;exact ⟨u,h⟩
       |cons x l ih=>
        intro m u h;simp only [List.cons_append,zA] at h;split at h
        · rename_i e1 e2;exact ih e2
        cases h
      rw [SG] at Zw;exact this a Zw
     obtain ⟨u2,Ud⟩:=ajX;have atn:=Qq (tB.append hb) hp Ud;have yN:=(ha.append tB).append hb;obtain ⟨q,D,S⟩:=Bu hS (LN hS deep) yN Zw;obtain ⟨sr,pr,⟨n,h3⟩,G,h4⟩:=E0 (z:=st.fz) hS D S (GS hS (M5 hS deep) yN Zw) (fun c hc=>Lz.zv f c hc) hg;exact C' I h hw ⟨n,by rw [je,h.fz];simp only [FJ,X,atn,Su,if_false,h3];rfl⟩ G h4
  |_=>cases hg
 |_=>exact loc (by rw [je];exact hg) (by rw [je];rfl) (fun _=>rfl)
theorem Da(Lz:sL W7 cx)(Rk:Ts W7 inl): ∀(ops:J dD) {st:wB} {p:St} {tr:J Tr} {k:wB->J Tr->jS R'} {ρ:Type} {w:R'->ρ} {y:ρ} {Q:R'->St->J Tr->Prop},
 atl W7 k Q->F2 st p->wD cx inl ops st tr k ρ w=Ss y-> ∃r,y=w r/\WO W7 ops p tr (Q r)
 | [],st,p,tr,k,ρ,w,y,Q,hk,h,he=>by
  obtain⟨r,hr,hq⟩:=hk st p tr ρ w y h he
  grind[WO.nil]
 |o::l,st,p,tr,k,ρ,w,y,Q,hk,h,he=>by
  have I: ∀st p tr ρ (w:R'->ρ) y,F2 st p->wD cx inl l st tr k ρ w=Ss y-> ∃r,y=w r/\WO W7 l p tr (Q r):=λst p tr ρ w y h he=>Da Lz Rk l hk h he
  have Zm: ∀{st:wB} {c:Nat} {v:SV},F2 st p->R st.aH v (lk c p.env)->F2 {st with env:=Ho c v st.env} p:=λh hv=>⟨h.env.Ho hv,h.aH,h.fz,h.kn⟩
  have WW: ∀{st:wB},F2 st p->wanted o.guard p.env=Ss YD->(match o.op with
   | .pick (.t c) a b=>match KV c st.env with
    | .bool x=>jX x (Mt o.dst {st with env:=Ho c (.bool YD) st.env} tr (wD cx inl l · · k) (.loc {v:=cJ st.env a}))
     (Mt o.dst {st with env:=Ho c (.bool hl) st.env} tr (wD cx inl l · · k) (.loc {v:=cJ st.env b}))
    |_=>aW
   |op=>Pz cx inl st.env st.aH st.fz op (Mt o.dst st tr (wD cx inl l · · k))) ρ w=Ss y-> ∃r,y=w r/\WO W7 (o::l) p tr (Q r):=by
   intro st h hw he;have plain:Pz cx inl st.env st.aH st.fz o.op (Mt o.dst st tr (wD cx inl l · · k)) ρ w=Ss y-> ∃r,y=w r/\WO W7 (o::l) p tr (Q r):=λhe=>ckS Lz Rk I h hw he
   generalize je:o.op=op at he;cases op with
   |pick c a b=>
    cases c with
    |c v=>grind
    |t c=>
     dsimp only at he;generalize hv:KV c st.env=v at he;cases v with
     |bool x=>
      have X:lk c p.env= .bool x:=by have:=h.env.lk c;rw[hv]at this;exact this
      rcases ia he with⟨rfl,he⟩|⟨rfl,he⟩
      ·have hR:=Zm h (v:= .bool YD) X
       exact C' I hR hw ⟨0,by rw[je];simp only[FJ,cd,jd.ev,X];rfl⟩ (Good.val hR.aH (fb h.env a)) he
      have hR:=Zm h (v:= .bool hl) X
      exact C' I hR hw ⟨0,by rw[je];simp only[FJ,cd,jd.ev,X];rfl⟩ (Good.val hR.aH (fb h.env b)) he
     |_=>cases he
   |_=>exact plain (by rw[je];exact he)
  have UM: ∀{st:wB},F2 st p->wanted o.guard p.env=Ss hl->wD cx inl l {st with env:=Q' o.dst .oI st.env} (Tr.idle::tr) k ρ w=Ss y-> ∃r,y=w r/\WO W7 (o::l) p tr (Q r):=by
   intro st h hw he;have hR:F2 {st with env:=Q' o.dst .oI st.env} {p with env:=oU o.dst .oI p.env}:=by
    refine⟨?_,h.aH,h.fz,h.kn⟩;cases o.dst with
    |none=>exact h.env
    |some t=>exact⟨.oI,p.env,rfl,rfl,h.env⟩
   grind[WO.skip]
  simp[wD]at he;cases U4:o.guard with
  |none=>rw[U4]at he;exact WW h (by rw[U4];rfl) he
  |some g=>
   obtain⟨c,want⟩:=g;rw[U4]at he;dsimp only at he;generalize hv:KV c st.env=v at he;cases v with
   |bool x=>
    have X:lk c p.env= .bool x:=by have:=h.env.lk c;rw[hv]at this;exact this
    have X3: ∀b,x=b->wanted o.guard p.env=Ss (b==want):=λb hb=>by rw[U4];simp[wanted,X,hb]
    cases want with
    |true=>
     simp[ww]at he;rcases ia he with⟨rfl,he⟩|⟨rfl,he⟩
     ·exact WW (Zm h (v:= .bool YD) X) (X3 YD rfl) he
     exact UM (Zm h (v:= .bool hl) X) (X3 hl rfl) he
    |false=>
     simp[AC]at he;rcases ia he with⟨rfl,he⟩|⟨rfl,he⟩
     ·exact UM (Zm h (v:= .bool YD) X) (X3 YD rfl) he
     exact WW (Zm h (v:= .bool hl) X) (X3 hl rfl) he
   |oI=>
    have X:lk c p.env= .oI:=by have:=h.env.lk c;rw[hv]at this;exact this
    exact UM h (by rw[U4];simp[wanted,X]) he
   |_=>cases he
theorem hag{e:SE}: ∀{iH:J Nat} {k:SE->jS R'} {ρ:Type} {w:R'->ρ} {y:ρ},Tf e iH k ρ w=Ss y->k (iH.map λs=>(s,KV s e)) ρ w=Ss y
 | [],k,ρ,w,y,h=>h
 |s::r,k,ρ,w,y,h=>by simp[Tf]at h;rw[Q5]at h;have:=hag h;exact this
theorem acf{s:J SB}{e:SE}{pe:Env}(h:fx s e pe): ∀(iH:J Nat),fx s (iH.map λt=>(t,KV t e)) (iH.map λt=>(t,lk t pe))
 | []=>rfl
 |t::r=>⟨_,_,rfl,h.lk t,acf h r⟩
end
mutual
theorem hm2: ∀(v:SV) (q:J Ep),Bt v (JZ v++q)=(v,q)
 | .k8,q| .undef,q| .oI,q| .fC,q| .int _ _,q| .bool _,q| .str _,q| .sl _ _,q| .nil _ _,q| .own _ _,q| .pre _ _ _ _,q| .part _ _ _ _ _,q| .pa _ _ _ _ _,q| .pb _ _ _,q| .bp _ _ _,q| .mp _,q=>rfl
 | .agg cs,q=>by simp only[Bt,JZ,zh]
 | .cT cs,q=>by simp only[Bt,JZ,zh]
 | .cj cs o,q=>by simp only[Bt,JZ,zh]
 | .fY f a b,q=>by simp only[Bt,JZ,SG,zh]
theorem zh: ∀(v:J SV) (q:J Ep),yS v (J0 v++q)=(v,q)
 | [],q=>rfl
 |x::xs,q=>by simp only[yS,J0,SG,hm2,zh]
end
theorem hbb: ∀(v:J SB) (q:J Ep),Hs v (Q8 v++q)=(v,q)
 | [],q=>rfl
 |x::xs,q=>by
  have: ∀q,VH x (Wo x++q)=(x,q):=by intro q;cases x<;>first|rfl|simp[VH,Wo,zh]
  simp[Hs,Q8,this,hbb]
theorem hw1: ∀(v:SE) (q:J Ep),Td v (Zb v++q)=(v,q)
 | [],q=>rfl
 |(t,x)::xs,q=>by simp[Td,Zb,hm2,hw1]
theorem irr(st:wB):Cf st (uP st)=st:=by have hs:=hbb st.aH [];rw[Mq]at hs;simp[Cf,uP,hw1,hs]
theorem aie{β:Type 1}: ∀(l:J PT) (c:J PT->β),rK l c=c l
 | [],_=>rfl
 |p::r,c=>by cases p<;>simp[rK,ptK,aie r]
theorem V1{β:Type 1}: ∀(l:J AK) (c:J AK->β),Xt l c=c l
 | [],_=>rfl
 |a::r,c=>by cases a<;>simp[Xt,aie,V1 r]
theorem aif{s:J SB}{o:SE}: ∀{e:SE} {pe:Env},fx s e pe->fx s (PL o e) pe
 | [],_,h=>h
 |(t,v)::r,_,⟨p,q,D,S,h3⟩=>⟨p,q,D,by cases KV t o<;>first|exact S|trivial,aif h3⟩
theorem tot{cx:Ctx}{inl:PB}(Lz:sL W7 cx)(Rk:Ts W7 inl): ∀(c:pg) (R':Type) {st:wB} {p:St} {k:mM->wB->jS R'} {ρ:Type} {w:R'->ρ} {y:ρ} {Q:R'->mM->St->Prop},
 (∀e st p ρ (w:R'->ρ) y,F2 st p->k e st ρ w=Ss y-> ∃r,y=w r/\Q r e p)->F2 st p->EU cx inl c R' st k ρ w=Ss y-> ∃r,y=w r/\WP W7 c p (Q r):=by
 intro c
 induction c with
 |skip=>
  intro R' st p k ρ w y Q hk h he;obtain⟨r,hr,hq⟩:=hk _ _ _ _ _ _ h he
  grind[WP.skip]
 |ret=>
  intro R' st p k ρ w y Q hk h he;obtain⟨r,hr,hq⟩:=hk _ _ _ _ _ _ h he
  grind[WP.ret]
 |exit id=>
  intro R' st p k ρ w y Q hk h he;obtain⟨r,hr,hq⟩:=hk _ _ _ _ _ _ h he
  grind[WP.exit]
 |region d ops iH=>
  intro R' st p k ρ w y Q hk h he;simp[EU]at he;have fin: ∀st p ρ (w:R'->ρ) y,F2 st p->Tf st.env iH (λe=>k .normal {st with env:=e}) ρ w=Ss y-> ∃r,y=w r/\Q r .normal (zq iH p):=by
   intro st p ρ w y h he;have:=hag he;have hR:F2 {st with env:=iH.map λt=>(t,KV t st.env)} (zq iH p):=⟨acf h.env iH,h.aH,h.fz,h.kn⟩
   grind
  cases d with
  |none=>
   obtain⟨r,hr,TX⟩:=Da Lz Rk ops (λst p tr ρ w y h he=>fin st p ρ w y h he) h he
   grind[WP.region]
  |some bf=>
   obtain⟨r,hr,TX⟩:=Da Lz Rk ops (Q:=λr s t=>yJ 0 (t.reverse.zip bf)=YD/\Q r .normal (zq iH s)) (λst p tr ρ w y h he=>by
    dsimp only at he;cases ho:yJ 0 (tr.reverse.zip bf)with
    |false=>rw[ho]at he;cases he
    |true=>rw[ho]at he;obtain⟨r,hr,hq⟩:=fin st p ρ w y h he;exact⟨r,hr,ho,hq⟩) h he
   grind[WP.aeQ]
 |seq a b Nk PH=>
  intro R' st p k ρ w y Q hk h he;simp[EU]at he;cases hj:cx.hrl&&jnC a with
  |false=>
   rw[hj]at he;obtain⟨r,hr,U5⟩:=Nk R' (Q:=λr=>andThen (λs=>WP W7 b s (Q r)) (Q r)) (λe st p ρ w y h he=>by
    cases e with
    |normal=>exact PH R' hk h he
    |exit i=>exact hk _ _ _ _ _ _ h he
    |ret=>exact hk _ _ _ _ _ _ h he) h he
   grind[WP.seq]
  |true=>
   rw[hj]at he;dsimp only at he;rw[V1]at he;generalize NF (uP (Zc st.env (TB a) st))=ks at he;generalize Zc st.env (TB a) st=s1 at he;cases hp:qj ks (uP s1)with
   |none=>rw[hp]at he;cases he
   |some y0=>
    rw[hp]at he;dsimp only at he;obtain⟨n,OY⟩:=hhm he;clear he;have body: ∀zr,EU cx inl a (Step (Bool×lS ks) ρ) st (λe Ap=>match e with
     | .normal=>bif Hr s1 {Ap with env:=PL st.env Ap.env}then(match qj ks (uP {Ap with env:=PL st.env Ap.env})with
      |some y'=>KX (.next (hl,y'))
      |none=>aW)else aW
     |e=>λEr w'=>k e Ap Er λr=>w' (.done (w r))) (Step (Bool×lS ks) ρ) (λz=>z)=Ss zr->
     WP W7 a p (λe s=>match zr with
      | .next y'=>e= .normal/\y'.1=hl/\F2 (Cf s1 (rH ks y'.2)) s
      | .done x=>e≠ .normal/\ ∃r,x=w r/\Q r e s):=by
     intro zr tF;obtain⟨zr',Xb,U5⟩:=Nk (Step (Bool×lS ks) ρ) (Q:=λzr e s=>match zr with
      | .next y'=>e= .normal/\y'.1=hl/\F2 (Cf s1 (rH ks y'.2)) s
      | .done x=>e≠ .normal/\ ∃r,x=w r/\Q r e s) (λe Ap p2 Er w' y2 S D7=>by
      cases e with
      |normal=>
       dsimp only at D7;obtain⟨CL,D7⟩:=dy D7;cases XC:qj ks (uP {Ap with env:=PL st.env Ap.env})with
       |none=>rw[XC]at D7;cases D7
       |some y3=>rw[XC]at D7;injection D7 with D7;refine⟨.next (hl,y3),D7.symm,rfl,rfl,?_⟩;dsimp only;rw[wG XC,hka CL];exact⟨aif S.env,S.aH,S.fz,S.kn⟩
      |exit i=>obtain⟨r,hr,hq⟩:=hk _ _ _ _ _ _ S D7;exact⟨.done (w r),hr,(by intro e;cases e),r,rfl,hq⟩
      |ret=>obtain⟨r,hr,hq⟩:=hk _ _ _ _ _ _ S D7;exact⟨.done (w r),hr,(by intro e;cases e),r,rfl,hq⟩) h tF
     grind
    cases n with
    |zero=>cases OY
    |succ n=>
     simp[tH,jX]at OY;split at OY
     ·rename_i y' tF
      obtain⟨m,e,s,dG,rfl,hy,V0⟩:=body _ tF;obtain⟨y1,y2⟩:=y';dsimp only at hy V0;subst hy;cases n with
      |zero=>cases OY
      |succ n=>
       simp[tH]at OY;split at OY
       ·rename_i y' Vl
        obtain⟨r,hr,_⟩:=PH R' hk V0 Vl;cases hr
       ·rename_i x Vl
        obtain⟨r,hr,U5⟩:=PH R' hk V0 Vl;injection OY with OY;injection hr with hr;exact⟨r,by grind,WP.seq ⟨m,.normal,s,dG,U5⟩⟩
       cases OY
     ·rename_i x tF
      injection OY with OY;obtain⟨m,e,s,dG,fk,r,hr,hq⟩:=body _ tF;refine⟨r,by grind,WP.seq ⟨m,e,s,dG,?_⟩⟩;cases e with
      |normal=>grind
      |exit i=>exact hq
      |ret=>exact hq
     cases OY
 |cond c a b Nk PH=>
  intro R' st p k ρ w y Q hk h he;simp[EU]at he;have X:=fb h.env c;generalize cJ st.env c=v at he X;cases v with
  |bool x=>
   rcases ia he with⟨rfl,he⟩|⟨rfl,he⟩
   ·obtain⟨r,hr,U5⟩:=Nk R' hk h he
    exact⟨r,hr,WP.amI X U5⟩
   obtain⟨r,hr,U5⟩:=PH R' hk h he
   exact⟨r,hr,WP.amJ X U5⟩
  |_=>cases he
 |block id b ih=>
  intro R' st p k ρ w y Q hk h he;simp[EU]at he;obtain⟨r,hr,U5⟩:=ih R' (Q:=λr=>inBlock id (Q r)) (λe st p ρ w y h he=>by
   cases e with
   |normal=>exact hk _ _ _ _ _ _ h he
   |ret=>exact hk _ _ _ _ _ _ h he
   |exit j=>
    dsimp only at he;cases hj:Md j id with
    |true=>rw[hj]at he;obtain⟨r,hr,hq⟩:=hk _ _ _ _ _ _ h he;have Nf:=If hj;exact⟨r,hr,by simpa[inBlock,Nf]using hq⟩
    |false=>
     rw[hj]at he;obtain⟨r,hr,hq⟩:=hk _ _ _ _ _ _ h he;have:j≠id:=by intro e;subst e;simp at hj
     exact⟨r,hr,by simpa[inBlock,this]using hq⟩) h he
  grind[WP.block]
 |loop live b ih=>
  intro R' st p k ρ w y Q hk h he;simp[EU]at he;cases hn:MQ cx.rk live st with
  |none=>rw[hn]at he;cases he
  |some uz=>
   rw[hn]at he;dsimp only at he;rw[V1]at he;generalize NF (uP uz)=ks at he;cases hp:qj ks (uP uz)with
   |none=>rw[hp]at he;cases he
   |some y0=>
    rw[hp]at he;dsimp only at he;obtain⟨p1,Vo,hR1⟩:=hfo h hn;have anU: ∀(VK:wB) (y':lS ks),Hr uz VK=YD->qj ks (uP VK)=Ss y'->Cf uz (rH ks y')=VK:=λVK y' D S=>by rw[wG S,hka D]
    obtain⟨n,OY⟩:=hhm he;have h0:F2 (Cf uz (rH ks y0)) p1:=by rw[wG hp,irr];exact hR1
    clear he hp hn h hR1
    induction n generalizing y0 p p1 with
    |zero=>cases OY
    |succ n ihn=>
     have body: ∀zr,EU cx inl b (Step (lS ks) ρ) (Cf uz (rH ks y0)) (λe Ap=>match e with
      | .normal=>match MQ cx.rk live Ap with
       |some VK=>bif Hr uz VK then(match qj ks (uP VK)with
        |some y'=>KX (.next y')
        |none=>aW)else aW
       |none=>aW
      |e=>λEr w'=>k e Ap Er λr=>w' (.done (w r))) (Step (lS ks) ρ) (λz=>z)=Ss zr->
      WP W7 b p1 (λe s=>match zr with
       | .next y'=>e= .normal/\ ∃p3,norm live s=Ss p3/\F2 (Cf uz (rH ks y')) p3
       | .done x=>e≠ .normal/\ ∃r,x=w r/\Q r e s):=by
      intro zr tF;obtain⟨zr',Xb,U5⟩:=ih (Step (lS ks) ρ) (Q:=λzr e s=>match zr with
       | .next y'=>e= .normal/\ ∃p3,norm live s=Ss p3/\F2 (Cf uz (rH ks y')) p3
       | .done x=>e≠ .normal/\ ∃r,x=w r/\Q r e s) (λe Ap p2 Er w' y2 S D7=>by
       cases e with
       |normal=>
        dsimp only at D7;cases An:MQ cx.rk live Ap with
        |none=>rw[An]at D7;cases D7
        |some VK=>
         rw[An]at D7;obtain⟨CL,D7⟩:=dy D7;cases XC:qj ks (uP VK)with
         |none=>rw[XC]at D7;cases D7
         |some y3=>rw[XC]at D7;injection D7 with D7;obtain⟨p3,atp,V0⟩:=hfo S An;exact⟨.next y3,D7.symm,rfl,p3,atp,by rw[anU VK y3 CL XC];exact V0⟩
       |exit i=>obtain⟨r,hr,hq⟩:=hk _ _ _ _ _ _ S D7;exact⟨.done (w r),hr,(by intro e;cases e),r,rfl,hq⟩
       |ret=>obtain⟨r,hr,hq⟩:=hk _ _ _ _ _ _ S D7;exact⟨.done (w r),hr,(by intro e;cases e),r,rfl,hq⟩) h0 tF
      subst Xb;exact U5
     simp[tH]at OY;split at OY
     ·rename_i y' tF
      obtain⟨m,e,s,dG,rfl,p3,XC,V0⟩:=body _ tF;obtain⟨r,hr,U5⟩:=ihn y' p3 XC OY V0;exact⟨r,hr,WP.again Vo ⟨m,.normal,s,dG,U5⟩⟩
     ·rename_i x tF
      injection OY with OY;obtain⟨m,e,s,dG,fk,r,hr,hq⟩:=body _ tF;refine⟨r,by rw[<-OY];exact hr,WP.again Vo ⟨m,e,s,dG,?_⟩⟩;cases e with
      |normal=>exact absurd rfl fk
      |exit i=>exact hq
      |ret=>exact hq
     cases OY
end
end Go.Vm
/- Contracts from the typed machine. -/
namespace Go.Vm
section
variable {W7 : s9} {cx : Ctx} {inl : PB}
theorem hw2{s:J SB}: ∀{l:J SV} {q:J PV} (i:Nat),RL s l q->fx s (VM i l) (Eu i q)
 | [],q,i,h=>by rw[h];rfl
 |x::xs,q,i,h=>by obtain⟨a,as,rfl,D,S⟩:=h.cons_inv;exact⟨a,Eu _ as,rfl,D,hw2 _ S⟩
theorem acg{st:wB}{p:St}(h:F2 st p){r:RV}{v:SV}(hr:VL st r=Ss v): ∃q,Mc p r=Ss q/\R st.aH v q:=by
 cases r with
 |tmp t=>injection hr with hr;subst hr;exact⟨_,rfl,h.env.lk t⟩
 |cell t agg=>
  simp[VL]at hr;have CL:=h.env.lk t;split at hr
  ·rename_i u n off hv
   rw[hv]at CL;rw[cX]at hr;split at hr
   ·rename_i cs dh
    obtain⟨q,D,S⟩:=h.aH.box dh;obtain⟨x,h3,h4⟩:=AG S hr;refine⟨x,?_,h4⟩;simp only[Mc,show lk t p.env=_ from CL,v8,D,h3];rfl
   cases hr
  ·rename_i cs off hv
   rw[hv]at CL;obtain⟨q,D,S⟩:=CL;obtain⟨x,h3,h4⟩:=AG S hr;refine⟨x,?_,h4⟩;simp only[Mc,D,v8,h3];rfl
  cases hr
theorem h1b{st:wB}{p:St}(h:F2 st p): ∀{l:J RV} {vs:J SV},F1 st l=Ss vs-> ∃q,uG p l=Ss q/\RL st.aH vs q
 | [],vs,hr=>by injection hr with hr;subst hr;exact⟨[],rfl,rfl⟩
 |r::l,vs,hr=>by
  simp[F1]at hr;split at hr
  ·rename_i v U1 D S
   injection hr with hr;subst hr;obtain⟨q,h3,h4⟩:=acg h D;obtain⟨qs,h5,h6⟩:=h1b h S;exact⟨q::qs,by simp[uG,h3,h5],RL.cons h4 h6⟩
  cases hr
theorem ntr{s:J SB}{vs:J SV}{q:J PV}(h:RL s vs q):R s (J1 vs) (results1 q):=by
 match vs,q,h with
 | [],q,h=>rw[h];exact⟨[],rfl,rfl⟩
 | [v],q,h=>obtain⟨a,as,rfl,D,S⟩:=h.cons_inv;rw[S];exact D
 |v::u::r,q,h=>have yN:=h;obtain⟨a,as,rfl,D,S⟩:=h.cons_inv;obtain⟨b,bs,rfl,h3,h4⟩:=S.cons_inv;exact⟨_,rfl,yN⟩
theorem E3(Lz:sL W7 cx)(Rk:Ts W7 inl){f:FuncId}{x:ay}(hf:W7 f=Ss (.code x)){R':Type}{args:J SV}{s:J SB}{z:J Nat}{k:SV->J SB->J Nat->jS R'}{ρ:Type}{w:R'->ρ}{y:ρ}{pa:J PV}{ps:dp}
 {Q:R'->PV->dp->J Nat->Prop} (ha:RL s args pa) (hS:dj s ps) (he:Xy cx inl x R' args s z k ρ w=Ss y)
 (hk: ∀v s' z' p E2 Er (w':R'->Er) y',R s' v p->dj s' E2->k v s' z' Er w'=Ss y'-> ∃r,y'=w' r/\Q r p E2 z'): ∃r,y=w r/\OI W7 f pa ps z (λp E2 z'=>Q r p E2 z'):=by
 obtain⟨hn,he⟩:=dy he;have fin: ∀st p Er (w':R'->Er) y',F2 st p->(match F1 st x.res with
  |some vs=>k (J1 vs) st.aH st.fz
  |none=>aW) Er w'=Ss y'-> ∃r,y'=w' r/\ ∃vs,uG p x.res=Ss vs/\Q r (results1 vs) p.aH p.fz:=by
  intro st p Er w' y' h he;cases hr:F1 st x.res with
  |none=>rw[hr]at he;cases he
  |some vs=>rw[hr]at he;obtain⟨q,D,S⟩:=h1b h hr;obtain⟨r,h3,h4⟩:=hk _ _ _ _ _ _ _ _ (ntr S) h.aH he;exact⟨r,h3,q,D,by rw[h.fz];exact h4⟩
 obtain⟨r,hr,U5⟩:=tot Lz Rk x.code R' (Q:=λr=>aaD x λp E2 z'=>Q r p E2 z') (p:={env:=Eu 0 pa,aH:=ps,fz:=z,kn:=h1 ps}) (λe st p Er w' y' h he=>by
  cases e with
  |normal=>exact fin st p Er w' y' h he
  |ret=>exact fin st p Er w' y' h he
  |exit i=>cases he) ⟨hw2 0 ha,hS,rfl,hS.len⟩ he
 exact⟨r,hr,OI.of hf (by rw[ha.sG];exact hn) U5⟩
theorem adN{α:Type}{l m r:J α}{i:Int}(h:FY l i m=Ss r):0<=i/\i.toNat<=h1 l/\h1 m=1/\h1 l+1<=1048576/\r=l.take i.toNat++m++l.drop i.toNat:=by
 unfold FY at h
 grind
theorem nd'{e:Nat}{args:J SV}{s:J SB}{z:J Nat}{a:anE}(h:Uo e args s z=Ss a):
 ∃x u x2 m,args=[.own a.t x,.int .i64 a.i,.own u x2]/\nth s a.t=Ss (.arr a.r a.l)/\nth s u=Ss (.arr a.r m)/\a.m=m/\h1 a.r=e/\Md a.t u=hl/\has z a.t=hl:=by
 unfold Uo at h;split at h
 case h_2=>cases h
 split at h
 case h_2=>cases h
 split at h
 case h_2=>cases h
 split at h
 case h_2=>cases h
 rename_i m' hm;cases hc:(Md _ e&&_&&_)with
 |false=>rw[hc]at h;cases h
 |true=>rw[hc]at h;injection h with h;subst h;simp[]at hc;obtain⟨rfl,rfl⟩:=wE hm;exact⟨_,_,_,_,rfl,by assumption,by assumption,rfl,hc.1.1,hc.1.2,hc.2⟩
theorem adO {e:Nat} {f:FuncId} (hf:W7 f=Ss (.OG (QC e))) {R':Type} {args:J SV} {s:J SB} {z:J Nat} {k:SV->J SB->J Nat->jS R'} {ρ:Type} {w:R'->ρ} {y:ρ} {pa:J PV} {ps:dp}
 {Q:R'->PV->dp->J Nat->Prop} (ha:RL s args pa) (hS:dj s ps) (he:Oy e args s z k ρ w=Ss y)
 (hk: ∀v s' z' p E2 Er (w':R'->Er) y',R s' v p->dj s' E2->k v s' z' Er w'=Ss y'-> ∃r,y'=w' r/\Q r p E2 z'): ∃r,y=w r/\OI W7 f pa ps z (fun p E2 z'=>Q r p E2 z'):=by
 unfold Oy at he;cases hA:Uo e args s z with
 |none=>rw [hA] at he;cases he
 |some a=>
 rw [hA] at he;obtain ⟨l',I,he⟩:=dw he;obtain ⟨x,u,x2,m0,rfl,ht,hu,hm,S9,Z1,hz⟩:=nd' hA;obtain ⟨t,q,l,i,m⟩:=a;dsimp only at*;subst hm S9;obtain ⟨i0,il,m1,rJ,rfl⟩:=adN I;obtain ⟨F,pr0,rfl,h0,ha⟩:=ha;obtain ⟨p1,pr1,rfl,D,ha⟩:=ha;obtain ⟨p2,pr2,rfl,S,ha⟩:=ha;obtain rfl:=ha;obtain rfl:=D;have aw:s[t]? =Ss (.arr q l):=by rw [<- cX];exact ht
 have KQ:s[u]? =Ss (.arr q m):=by rw [<- cX];exact hu
 obtain ⟨e0,n0,rfl,o0⟩:=h0;obtain ⟨e2,n2,rfl,o2⟩:=S;obtain ⟨rfl,rfl⟩:e0=h1 q/\n0=(h1 l):=by
  rcases o0 with ⟨r1,l1,a,b,c⟩|a
  · rw [aw] at a;injection a with a;injection a with a1 a2;subst a1;subst a2;exact ⟨b,c⟩
  grind
 obtain ⟨rfl,rfl⟩:e2=h1 q/\n2=(h1 m):=by
  rcases o2 with ⟨r1,l1,a,b,c⟩|a
  · rw [KQ] at a;injection a with a;injection a with a1 a2;subst a1;subst a2;exact ⟨b,c⟩
  grind
 obtain ⟨b1,Sc,V3⟩:=hS.at_ t _ aw;obtain ⟨b2,Vl,UN⟩:=hS.at_ u _ KQ;have UN:=UN;subst V3 UN;have fJ:(Ly [t] (s.set t .dead)).length=(h1 s):=by rw [C2];simp
 obtain ⟨L,hL⟩: ∃L,L=l.take i.toNat++m++l.drop i.toNat:=⟨_,rfl⟩;rw [<- hL] at he;have G:=Good.put hS (l:=[.arr q L]) (ql:=[.arr (h1 q) (L.map (RT.pv q))]) (v:= .own (h1 s) hl)
  (p:= .own (h1 s) (h1 q) 0 (h1 L) (h1 L) hl) (rd:=[]) aw (.inr rfl) rfl rfl
  (fun j b hj=>by
   cases j with
   |zero=>simp at hj;subst hj;exact ⟨_,rfl,rfl⟩
   |succ j=>simp at hj)
  ⟨h1 q,h1 L,rfl,.inl ⟨q,L,by grind,rfl,rfl⟩⟩
 have H9:(h1 L)=h1 l+1:=by
  grind
 obtain ⟨rr,hr,hq⟩:=hk _ _ _ _ _ _ _ _ G.v G.aH he;refine ⟨rr,hr,1,_,_,_,?_,hq⟩;rw [xH];have mP:Pc (h1 l+1) gX=YD:=by simp [gX];omega
 have PQ:Pc i.toNat (h1 l)=YD:=by simpa using il
 have UO:L.map (RT.pv q)=(l.map (RT.pv q)).take i.toNat++m.map (RT.pv q)++(l.map (RT.pv q)).drop i.toNat:=by simp_all
 simp [step,hf,QC,Sc,Vl,m1,Z1,hz,i0,mP,il,H9,hS.len,mO,BW,UO]
theorem asy{α:Type}{l m r:J α}(h:Y9 l m=Ss r):1<=h1 l+h1 m/\h1 l+h1 m<=1048576/\r=l++m:=by
 unfold Y9 at h
 grind
theorem ihl{args:J SV}{s:J SB}{z:J Nat}{a:anF}(h:RD args s z=Ss a):
 ∃cap x m,args=[.part a.t 0 2 cap x]/\nth s a.t=Ss (.box [.sl a.r a.l,.sl a.r m])/\a.m=m/\h1 a.r=1/\has z a.t=hl:=by
 unfold RD at h;split at h
 case h_2=>cases h
 split at h
 case h_2=>cases h
 split at h
 case h_2=>cases h
 rename_i m' hm;cases hc:(Md _ 1&&Md _ 0&&Md _ 2&&_)with
 |false=>rw[hc]at h;cases h
 |true=>rw[hc]at h;injection h with h;subst h;obtain⟨rfl,rfl⟩:=wE hm;simp_all
theorem ihr{r:J PT}(h:(h1 r)=1)(l:J _):CQ (l.map (RT.pv r))=YD:=by
 unfold CQ;rw[YH];intro x X;obtain⟨a,_,rfl⟩:=YC.1 X
 match r,h with
 | [p],_=>cases p<;>rfl
theorem hes {f:FuncId} (hf:W7 f=Ss (.OG QA)) {R':Type} {args:J SV} {s:J SB} {z:J Nat} {k:SV->J SB->J Nat->jS R'} {ρ:Type} {w:R'->ρ} {y:ρ} {pa:J PV} {ps:dp}
 {Q:R'->PV->dp->J Nat->Prop} (ha:RL s args pa) (hS:dj s ps) (he:UJ args s z k ρ w=Ss y)
 (hk: ∀v s' z' p E2 Er (w':R'->Er) y',R s' v p->dj s' E2->k v s' z' Er w'=Ss y'-> ∃r,y'=w' r/\Q r p E2 z'): ∃r,y=w r/\OI W7 f pa ps z (fun p E2 z'=>Q r p E2 z'):=by
 unfold UJ at he;cases hA:RD args s z with
 |none=>rw [hA] at he;cases he
 |some a=>
 rw [hA] at he;obtain ⟨l',I,he⟩:=dw he;obtain ⟨cap,x,m0,rfl,ht,hm,S9,hz⟩:=ihl hA;obtain ⟨t,q,l,m⟩:=a;subst hm;obtain ⟨hp,rJ,rfl⟩:=asy I;obtain ⟨F,pr0,rfl,h0,ha⟩:=ha;obtain rfl:=ha;have aw:s[t]? =Ss (.box [.sl q l,.sl q m]):=by rw [<- cX];exact ht
 obtain ⟨e0,rfl,o0⟩:=h0;obtain rfl:e0=1:=by
  rcases o0 with ⟨r1,l1,a,b⟩|a|⟨_,a,b⟩
  · grind
  · grind
  exact b
 obtain ⟨b1,Sc,V3⟩:=hS.at_ t _ aw;obtain ⟨ps1,rfl,p1,q1,rfl,Vo,p2,q2,rfl,XJ,rfl⟩:=V3;subst Vo XJ;have fJ:(Ly [t] (s.set t .dead)).length=(h1 s):=by rw [C2];simp
 obtain ⟨L,hL⟩: ∃L,L=l++m:=⟨_,rfl⟩;rw [<- hL] at he;have G:=Good.put hS (l:=[.arr q L]) (ql:=[.arr (h1 q) (L.map (RT.pv q))]) (v:= .own (h1 s) hl)
  (p:= .own (h1 s) (h1 q) 0 (h1 L) (h1 L) hl) (rd:=[]) aw (.inr rfl) rfl rfl
  (fun j b hj=>by
   cases j with
   |zero=>simp at hj;subst hj;exact ⟨_,rfl,rfl⟩
   |succ j=>simp at hj)
  ⟨h1 q,h1 L,rfl,.inl ⟨q,L,by grind,rfl,rfl⟩⟩
 have H9:(h1 L)=h1 l+(h1 m):=by rw [hL];simp
 obtain ⟨rr,hr,hq⟩:=hk _ _ _ _ _ _ _ _ G.v G.aH he;refine ⟨rr,hr,1,_,_,_,?_,hq⟩;rw [xH];have mP:Pc (h1 l+h1 m) gX=YD:=by simp [gX];omega
 have UO:L.map (RT.pv q)=l.map (RT.pv q)++m.map (RT.pv q):=by grind
 have hc:(Md 1 1&&Md 0 0&&Md 2 2&&!has z t&&CQ (l.map (RT.pv q))&&CQ (m.map (RT.pv q))&&Pc 1 ((l.map (RT.pv q)).length+(m.map (RT.pv q)).length)&&Pc ((l.map (RT.pv q)).length+(m.map (RT.pv q)).length) gX&&(Md (h1 q) 1||(l.map (RT.pv q)).isEmpty)&&(Md (h1 q) 1||(m.map (RT.pv q)).isEmpty))=YD:=by simp_all [ihr,]
 simp only [step,hf];unfold QA
 dsimp only;rw [Sc];dsimp only;rw [hc];simp [hS.len,mO,BW,UO,H9,S9]
theorem hsl: ∀(p:PT) (a:p.T),IC p (p.pv a)=Ss a
 | .i k,a=>by have:iA k k=YD:=hZ.2 rfl;simp[IC,PT.pv,this]
 | .b,a=>rfl
theorem hxo: ∀(r:J PT) (a:RT r),OX r (RT.pv r a)=Ss a
 | [],a=>rfl
 | [p],a=>hsl p a
 |p::q::r,a=>by
  show(match IC p _,OX (q::r) _ with
   |some a,Ss b=>Ss _
   |_,_=>KN)=_
  rw[hsl,hxo _]
theorem ai5(r:J PT): ∀l:J _,KY r (l.map (RT.pv r))=Ss l
 | []=>rfl
 |a::l=>by
  show(match OX r _,KY r _ with
   |some a,Ss l=>Ss _
   |_,_=>KN)=_
  rw[hxo,ai5 r l]
theorem afP{s:J SB}{g:O FuncId}{a:J SV}{p:J PV}(h:K0 g a=YD)(hr:RL s a p):Li g p=YD:=by
 unfold K0 at h;split at h
 ·obtain rfl:=hr
  rfl
 ·obtain⟨F,pr,rfl,h0,hr⟩:=hr
  obtain rfl:=hr;obtain⟨x,y,rfl,X,hy⟩:=h0;obtain rfl:=X;obtain rfl:=hy;exact h
 cases h
theorem adQ{r:J PT}{g:O FuncId}{args:J SV}{s:J SB}{z:J Nat}{t:Nat}{o:O Nat}{l:J _}(h:N4 r g args s z=Ss (t,o,l)):
 ∃x a,args=x::a/\nth s t=Ss (.arr r l)/\has z t=hl/\K0 g a=YD/\((o=KN/\ ∃ex,x= .own t ex)\/ ∃len cap ex,o=Ss len/\x= .pre t len cap ex):=by
 unfold N4 at h;split at h
 ·split at h
  ·split at h
   ·rename_i hm
    cases hc:(!has z _&&K0 g _)with
    |false=>rw[hc]at h;cases h
    |true=>
     rw[hc]at h;simp[]at h;obtain⟨rfl,rfl,rfl⟩:=h;simp[]at hc
     grind[wE]
   cases h
  cases h
 ·split at h
  ·split at h
   ·rename_i hm
    cases hc:(!has z _&&K0 g _)with
    |false=>rw[hc]at h;cases h
    |true=>
     rw[hc]at h;simp[]at h;obtain⟨rfl,rfl,rfl⟩:=h;simp[]at hc
     grind[wE]
   cases h
  cases h
 cases h
theorem alo{α:Type}{f:J α->O _}{l m:J α}(h:KU f l=Ss m):(h1 l)<=1048576/\f l=Ss m/\h1 m=(h1 l):=by
 unfold KU at h
 grind
theorem n3i{α:Type}{f:J α->O _}{n:Nat}{l m:J α}(h:FZ f n l=Ss m):n<=h1 l/\ ∃m',KU f (l.take n)=Ss m'/\m=m'++l.drop n:=by
 unfold FZ at h;split at h
 ·rename_i hn
  cases hm:KU f _ with
  |none=>grind
  |some m'=>
   grind
 cases h
theorem ini{q:Tt}{f:FuncId}(hf:W7 f=Ss (.OG (Q9 q))){R':Type}{args:J SV}{s:J SB}{z:J Nat}{k:SV->J SB->J Nat->jS R'}{ρ:Type}{w:R'->ρ}{y:ρ}{pa:J PV}{ps:dp}
 {Q:R'->PV->dp->J Nat->Prop} (ha:RL s args pa) (hS:dj s ps) (he:UK q args s z k ρ w=Ss y)
 (hk: ∀v s' z' p E2 Er (w':R'->Er) y',R s' v p->dj s' E2->k v s' z' Er w'=Ss y'-> ∃r,y'=w' r/\Q r p E2 z'): ∃r,y=w r/\OI W7 f pa ps z (λp E2 z'=>Q r p E2 z'):=by
 have key: ∀(t len:Nat) (l m':J (RT q.r)) (ex:Bool) (cap:Nat) (pr:J PV) (a:J SV),s[t]? =Ss (.arr q.r l)->has z t=hl->K0 q.g a=YD->RL s a pr->pa= .own t (h1 q.r) 0 len cap ex::pr->len<=h1 l->KU q.fn (l.take len)=Ss m'->
  k (.cT []) (jf.tL s {v:= .cT [],wr:=[(t,.arr q.r (m'++l.drop len))]}) z ρ w=Ss y-> ∃r,y=w r/\OI W7 f pa ps z (λp E2 z'=>Q r p E2 z'):=by
  intro t len l m' ex cap pr a ht hz hg har S3 fJ LL he;subst S3;obtain⟨s1,s2,s3⟩:=alo LL;obtain⟨b1,Sc,V3⟩:=hS.at_ t _ ht;have V3:=V3;subst V3;have H9:(l.take len).length=len:=by grind
  have U2:(m'++l.drop len).length=(h1 l):=by grind
  have G:=Good.put hS (l:=[]) (ql:=[]) (v:= .cT []) (rd:=[]) ht (.inl ⟨_,rfl,U2⟩) rfl rfl
   (λj b hj=>by simp at hj) ⟨[],rfl,rfl⟩
  obtain⟨rr,hr,hq⟩:=hk _ _ _ _ _ _ _ _ G.v G.aH he;refine⟨rr,hr,1,_,_,_,?_,hq⟩;rw[xH];have hg':=afP hg har;have hrt:KY q.r ((l.map (RT.pv q.r)).take len)=Ss (l.take len):=by rw[<-SH];exact ai5 q.r _
  have PQ:Pc len (h1 l)=YD:=by simpa using fJ
  have PK:Pc len gX=YD:=by simp[gX];omega
  have hbe:Md (h1 m') (l.take len).length=YD:=by simp_all
  simp only[step,hf,Q9,Sc,YJ,Sy,PQ,PK,hz,hg',hrt,s2,hbe,Bool.not_false,Mr,if_true,hi,mO,BW,Pu,vk]
 unfold UK at he;cases hA:N4 q.r q.g args s z with
 |none=>rw[hA]at he;cases he
 |some u=>
  obtain⟨t,o,l⟩:=u;rw[hA]at he;obtain⟨x,a,rfl,ht,hz,hg,h⟩:=adQ hA;obtain⟨F,pr,rfl,h0,ha⟩:=ha;rw[cX]at ht;rcases h with⟨rfl,ex,rfl⟩|⟨len,cap,ex,rfl,rfl⟩
  ·obtain⟨m,hm,he⟩:=dw he
   obtain⟨e0,n0,rfl,o0⟩:=h0;obtain⟨rfl,rfl⟩:e0=h1 q.r/\n0=(h1 l):=by
    rcases o0 with⟨r1,l1,a,b,c⟩|a
    ·rw[ht]at a;injection a with a;injection a with a1 a2;subst a1;cases a2;exact⟨b,c⟩
    rw[ht]at a;cases a
   refine key t (h1 l) l m ex (h1 l) pr a ht hz hg ha rfl (h9 _) (by rw[List.take_length];exact hm) ?_
   grind
  obtain⟨m,hm,he⟩:=dw he
  obtain⟨e0,rfl,o0⟩:=h0;obtain rfl:e0=(h1 q.r):=by
   rcases o0 with⟨r1,l1,a,b⟩|a|⟨_,a,_⟩
   ·rw[ht]at a;injection a with a;injection a with a1 a2;subst a1;exact b
   ·rw[ht]at a;cases a
   grind
  obtain⟨hn,m',LL,rfl⟩:=n3i hm;exact key t len l m' ex cap pr a ht hz hg ha rfl hn LL he
theorem Rn(Lz:sL W7 cx): ∀n,Ts W7 (Wp cx n)
 |0=>λf args s z R' k ρ w y pa ps Q _ _ h _=>by cases h
 |n+1=>λf args s z R' k ρ w y pa ps Q ha hS h hk=>by
  simp[Wp]at h;cases X:cx.code f with
  |none=>rw[X]at h;cases h
  |some x=>
   rw[X]at h;cases x with
   |code x=>exact E3 Lz (Rn Lz n) (Lz.code f _ X) ha hS h hk
   |ins e=>exact adO (Lz.code f _ X) ha hS h hk
   |TA q=>exact ini (Lz.code f _ X) ha hS h hk
   |cat=>exact hes (Lz.code f _ X) ha hS h hk
def Zt:Kd->Bool->Bool
 | .own,b=>b
 |_,b=>!b
def aj1(kd:Kd){β:Type}(res:Arg β)(b:β)(p:PV)(ps:dp)(z:J Nat):Prop:=
 match kd with
 | .pure=>p.tg=YD/\zB (res.enc b)=Ss p
 | .eT=>p.tg=hl/\ ∃q,H7 ps p=Ss q/\zB (res.enc b)=Ss q
 | .own=> ∀nx,∃F p' q seen,H8 ps z nx [] p=Ss (p',q,seen)/\zB (res.enc b)=Ss F/\M9 nx F=Ss (p',q)
mutual
theorem g2'{s:J SB}: ∀{v:SV} {p:PV},R s v p->Hq v=YD->zB v=Ss p
 | .int _ _,p,h,_| .bool _,p,h,_| .str _,p,h,_=>by rw[show p=_ from h];rfl
 | .agg cs,p,h,hn=>by obtain⟨q,rfl,h⟩:=h;simp only[zB,Ni h hn]
 | .cT cs,p,h,hn=>by obtain⟨q,rfl,h⟩:=h;simp only[zB,Ni h hn]
 | .k8,_,_,h| .undef,_,_,h| .oI,_,_,h| .fC,_,_,h| .sl _ _,_,_,h| .nil _ _,_,_,h| .own _ _,_,_,h| .pre _ _ _ _,_,_,h| .part _ _ _ _ _,_,_,h| .pa _ _ _ _ _,_,_,h| .pb _ _ _,_,_,h| .bp _ _ _,_,_,h| .cj _ _,_,_,h| .fY _ _ _,_,_,h| .mp _,_,_,h=>by cases h
theorem Ni{s:J SB}: ∀{v:J SV} {p:J PV},RL s v p->yR v=YD->yG v=Ss p
 | [],p,h,_=>by rw[show p=_ from h];rfl
 |x::xs,p,h,hn=>by obtain⟨a,as,rfl,D,S⟩:=h.cons_inv;simp only[yR,IR]at hn;exact gA.2 ⟨_,_,rfl,g2' D hn.1,Ni S hn.2⟩
end
theorem alr{kd:Kd}{β:Type}{res:Arg β}{v:SV}{s:J SB}{z:J Nat}{p:PV}{ps:dp}{ρ:Type}{w:β->ρ}{y:ρ}(hv:R s v p)(hS:dj s ps)(h:Oz kd res v s z ρ w=Ss y):
 ∃b,y=w b/\aj1 kd res b p ps z:=by
 unfold Oz at h;cases kd with
 |pure=>obtain⟨D,S⟩:=dy h;obtain⟨b,h3,h4⟩:=cq S;injection h4 with h4;exact⟨b,h4.symm,hkn hv D,res.law h3 (g2' hv D)⟩
 |eT=>obtain⟨D,S⟩:=zg h;obtain⟨u,h3,h4⟩:=cq S;obtain⟨b,h5,h6⟩:=cq h4;injection h6 with h6;obtain⟨q,h7,h8⟩:=aib hS hv h3;exact⟨b,h6.symm,hv2 hv D h3,q,h7,res.law h5 h8⟩
 |own=>obtain⟨u,h3,h4⟩:=cq h;obtain⟨b,h5,h6⟩:=cq h4;injection h6 with h6;refine⟨b,h6.symm,λnx=>?_⟩;obtain⟨F,p',q,h7,h8,ab0⟩:=ab' hS nx hv h3;exact⟨F,p',q,u.2,ab0,res.law h5 h7,h8⟩
theorem dj.nil:dj [] []:=⟨rfl,λt b h=>by simp at h⟩
theorem mQ.of{f:FuncId}{x:ay}{α β:Type}{args:bY α}{res:Arg β}{kd:Kd}{fn:α->O β}{ow:Bool}(hf:W7 f=Ss (.code x))(ho:Zt kd ow=YD)(Lz:sL W7 cx)
 (h: ∀a,Xz cx x args res kd a=fn a):mQ W7 f ⟨args,res,fn,kd,ow⟩:=by
 intro a b as pa aH fz hb S3 hex;have hb:fn a=Ss b:=hb;rw[<-h a]at hb;obtain⟨r,hr,n,v,s,z,dG,I⟩:=E3 Lz (Rn Lz 8) hf (Nb S3) dj.nil hb (λv s' z' p E2 Er w' y' hv hS hk=>alr hv hS hk);have PN:=hr;subst PN;cases kd with
 |pure=>
  obtain⟨D,S⟩:=I;have HP:ow=hl:=by simpa[Zt]using ho
  subst HP;refine⟨n,{v:=v,rd:=gJ _ as},?_,v,S,rfl⟩;simp[iJ,hex,hf,dG,D,]
 |eT=>
  obtain⟨D,q,S,h3⟩:=I;have HP:ow=hl:=by simpa[Zt]using ho
  subst HP;refine⟨n,{v:=q,rd:=gJ _ as,fr:=gJ _ as},?_,q,h3,rfl⟩;simp[iJ,hex,hf,dG,D,S]
 |own=>have HP:=ho;subst HP;obtain⟨F,p',q,seen,D,S,h3⟩:=I (h1 aH);refine⟨n,{v:=p',news:=q,rd:=gJ _ as},?_,F,p',q,S,h3,rfl⟩;simp[iJ,hex,hf,dG,D]
theorem aaV: ∀(s:J SB) (q:J Ep),(Hs s q).1.length=h1 s
 | [],q=>rfl
 |b::r,q=>by simp[Hs,aaV r]
mutual
theorem R.take{s:J SB}{k:Nat}: ∀{v:SV} {p:PV},R s v p->(∀t∈Xu BU v,t<k)->R (s.take k) v p
 | .k8,_,_,_=>trivial
 | .undef,_,h,_| .oI,_,h,_| .fC,_,h,_| .int _ _,_,h,_| .bool _,_,h,_| .str _,_,h,_| .sl _ _,_,h,_| .nil _ _,_,h,_| .bp _ _ _,_,h,_| .mp _,_,h,_=>h
 | .agg cs,_,h,ht=>by obtain⟨q,rfl,h⟩:=h;exact⟨q,rfl,RL.Nj h ht⟩
 | .cT cs,_,h,ht=>by obtain⟨q,rfl,h⟩:=h;exact⟨q,rfl,RL.Nj h ht⟩
 | .cj cs o,_,h,ht=>by obtain⟨q,rfl,h⟩:=h;exact⟨q,rfl,RL.Nj h ht⟩
 | .fY f a b,_,h,ht=>by obtain⟨pa,pb,rfl,D,S⟩:=h;exact⟨pa,pb,rfl,RL.Nj D (λt h=>ht t (Pg _ h)),RL.Nj S (λt h=>ht t (Sv _ h))⟩
 | .own t ex,_,h,ht=>by
  obtain⟨e,n,rfl,dU⟩:=h;have hk:=ht t (g'.2 rfl);refine⟨e,n,rfl,?_⟩;rcases dU with⟨r,l,D,S,h3⟩|D
  ·exact .inl ⟨r,l,by rw[NE hk];exact D,S,h3⟩
  exact .inr (by rw[NE hk];exact D)
 | .pre t a b c,_,h,ht=>by
  obtain⟨e,rfl,dU⟩:=h;have hk:=ht t (g'.2 rfl);refine⟨e,rfl,?_⟩;rcases dU with⟨r,l,D,S⟩|D
  ·exact .inl ⟨r,l,by rw[NE hk];exact D,S⟩
  exact .inr (by rw[NE hk];exact D)
 | .part t o a b c,_,h,ht=>by
  obtain⟨e,rfl,dU⟩:=h;have hk:=ht t (g'.2 rfl);refine⟨e,rfl,?_⟩;rcases dU with⟨r,l,D,S⟩|D
  ·exact .inl ⟨r,l,by rw[NE hk];exact D,S⟩
  exact .inr (by rw[NE hk];exact D)
 | .pa t r i a o,_,h,ht=>by
  obtain⟨rfl,dU⟩:=h;have hk:=ht t (SK ..);refine⟨rfl,?_⟩;rcases dU with⟨l,D,S⟩|D
  ·exact .inl ⟨l,by rw[NE hk];exact D,S⟩
  exact .inr (by rw[NE hk];exact D)
 | .pb t i o,_,h,ht=>by
  obtain⟨e,rfl,dU⟩:=h;have hk:=ht t (SK ..);refine⟨e,rfl,?_⟩;rcases dU with⟨r,l,D,S⟩|D
  ·exact .inl ⟨r,l,by rw[NE hk];exact D,S⟩
  exact .inr (by rw[NE hk];exact D)
theorem RL.Nj{s:J SB}{k:Nat}: ∀{v:J SV} {p:J PV},RL s v p->(∀t∈yQ BU v,t<k)->RL (s.take k) v p
 | [],_,h,_=>h
 |x::xs,_,h,ht=>by obtain⟨a,as,rfl,D,S⟩:=h.cons_inv;exact RL.cons (R.take D (λt h=>ht t (Pg _ h))) (RL.Nj S (λt h=>ht t (Sv _ h)))
end
theorem ats{R' ρ:Type}{w:R'->ρ}{y:ρ}: ∀{s s':J SB} {k:jS R'},K1 s s' k ρ w=Ss y->k ρ w=Ss y/\h1 s'=h1 s/\ ∀(t:Nat) (x z:SB),s[t]? =Ss x->s'[t]? =Ss z->TW x z
 | [],[],k,h=>⟨h,rfl,λt x z h=>by simp at h⟩
 | [],_::_,k,h=>by cases h
 |_::_,[],k,h=>by cases h
 |x::xs,y'::ys,k,h=>by
  have step: ∀(_:K1 xs ys k ρ w=Ss y) (_:TW x y'),k ρ w=Ss y/\(y'::ys).length=(x::xs).length/\ ∀(t:Nat) (a b:SB),(x::xs)[t]? =Ss a->(y'::ys)[t]? =Ss b->TW a b:=by
   intro h X;obtain⟨D,S,h3⟩:=ats h
   grind
  cases x with
  |arr r l=>
   cases y' with
   |arr q m=>obtain⟨hr,S⟩:=dy h;obtain⟨I,h3⟩:=lT S;exact step h3 ⟨EM hr,by simpa using I⟩
   |_=>cases h
  |dead=>cases y' with
   |dead=>exact step h trivial
   |_=>cases h
  |box cs=>cases y' with
   |box _=>exact step h trivial
   |_=>cases h
  |set l=>cases y' with
   |set _=>exact step h trivial
   |_=>cases h
  |nq p l=>cases y' with
   |nq _ _=>exact step h trivial
   |_=>cases h
theorem ai6: ∀{s:J SB},MS s=YD-> ∀(t:Nat) (b:SB),s[t]? =Ss b->F0 b=YD
 | [],_,t,b,h=>by simp at h
 |x::xs,hs,0,b,h=>by simp[MS,]at hs;grind
 |x::xs,hs,t+1,b,h=>by simp[MS,]at hs;exact ai6 hs.2 t b (by simpa using h)
theorem jg.of{f:FuncId}{x:ay}{wd:Bool}{ka ko:J AK}{ta:J SV}{tb to:J SB}{tv:SV}{fn:lS ka->O _}(hf:W7 f=Ss (.code x))(Lz:sL W7 cx)
 (h: ∀a,as9 wd cx x ka ta tb ko tv to a=fn a):jg W7 f ⟨ka,ta,tb,ko,tv,to,fn⟩:=by
 intro a b pa ps hb ha hS;rw[show(⟨ka,ta,tb,ko,tv,to,fn⟩:eZ).fn a=fn a from rfl,<-h a]at hb;have fJ:(eZ.sa ⟨ka,ta,tb,ko,tv,to,fn⟩ a).length=(h1 tb):=aaV _ _;obtain⟨r,hr,n,v,s,z,dG,hz,hq⟩:=E3 Lz (Rn Lz 8) hf (Q:=λ(r:lS ko) p E2 z'=>z'=[]/\lM (h1 tb) p E2=YD/\
  R (eZ.sb ⟨ka,ta,tb,ko,tv,to,fn⟩ r) (eZ.vb ⟨ka,ta,tb,ko,tv,to,fn⟩ r) p/\dj (eZ.sb ⟨ka,ta,tb,ko,tv,to,fn⟩ r) _/\
  (eZ.sb ⟨ka,ta,tb,ko,tv,to,fn⟩ r).length=(eZ.sa ⟨ka,ta,tb,ko,tv,to,fn⟩ a).length/\
  ∀(t:Nat) (x y:SB),(eZ.sa ⟨ka,ta,tb,ko,tv,to,fn⟩ a)[t]? =Ss x->(eZ.sb ⟨ka,ta,tb,ko,tv,to,fn⟩ r)[t]? =Ss y->TW x y) ha hS hb (λv s' z' p E2 Er w' y' hv NK hk=>by
  cases z' with
  |cons _ _=>cases hk
  |nil=>
   obtain⟨hc,hk⟩:=dy hk;simp[]at hc;obtain⟨⟨⟨⟨c1,c2⟩,c3⟩,c4⟩,c5⟩:=hc;obtain⟨hk,f1,f2⟩:=ats hk;obtain⟨r,hr,hk⟩:=cq hk;injection hk with hk;have hu:R s' (bif wd then Py s' v else v) p:=by
    cases wd with
    |true=>exact aaQ hv
    |false=>exact hv
   generalize (bif wd then Py s' v else v)=u at c1 c3 c4 hr hu;have OM:=wG hr;have Mz:eZ.vb ⟨ka,ta,tb,ko,tv,to,fn⟩ r=u:=by show(Bt tv _).1=u;rw[OM,LO _ c1]
   have Qc:eZ.sb ⟨ka,ta,tb,ko,tv,to,fn⟩ r=s'.take (h1 tb):=by show(Hs to _).1=_;rw[OM,LO _ c1];have:=IM [] c2;rw[Mq]at this;rw[this]
   unfold ah6 at c3;rw[YH]at c3;have No:=λt ht=>by simpa using c3 t (Pg _ ht)
   have hkb:=λb hb t ht=>by simpa using c3 t (Sv _ (Ze.2 ⟨b,hb,ht⟩))
   have CS:dj (s'.take (h1 tb)) (E2.take (h1 tb)):=⟨by simp[NK.len],λt x X=>by
    have iY:t<(h1 tb):=by have:=(PP.1 X).1;rw[al]at this;omega
    have ao:=X;rw[NE iY]at ao;obtain⟨q,q1,q2⟩:=NK.at_ t x ao;refine⟨q,by rw[NE iY];exact q1,?_⟩;cases x with
    |box cs=>obtain⟨pc,rfl,Qu⟩:=q2;exact⟨pc,rfl,RL.Nj Qu (hkb _ (YI X))⟩
    |_=>exact q2⟩
   refine⟨r,hk.symm,rfl,?_,by rw[Mz,Qc];exact R.take hu No,by rw[Qc];exact CS,by rw[Qc];exact f1,by rw[Qc];exact f2⟩;unfold lM;rw[YH];intro t ht;rw[List.mem_append]at ht;rcases ht with ht|ht
   ·rw[<-iy (λ_=>rfl) hu c4]at ht
    simpa using No t ht
   rw[Ze]at ht
   obtain⟨q,hq,ht⟩:=ht;obtain⟨j,hj,he⟩:=D8 hq;have Vb:j<(s'.take (h1 tb)).length:=by rw[<-CS.len];exact hj
   obtain⟨x,X⟩: ∃x,(s'.take (h1 tb))[j]? =Ss x:=⟨_,Y Vb⟩;obtain⟨q',q1,q2⟩:=CS.at_ j x X;rw[Y hj,he]at q1;injection q1 with q1;subst q1;rw[<-Rf q2 (ai6 c5 j x X)]at ht;simpa using hkb x (YI X) t ht)
 grind
theorem m1S{f:FuncId}{r:J PT}(hf:W7 f=Ss (.p7 hl (iK (h1 r))))(l:J _)(I:(h1 l)<=1048576){as:J PV}{aH:dp}{fz:J Nat}(hex:L9 aH (JE aH deep) as=Ss [.sl (h1 r) hl (l.map (RT.pv r))]):
 ∃n x,iJ W7 (run W7 n) hl f as aH fz=Ss x/\aic .own (h1 aH) (gJ (kq aH deep) as) (.sl r l) x:=by
 refine⟨0,{v:= .own (h1 aH) (h1 r) 0 (h1 l) (h1 l) hl,news:=[.arr (h1 r) _],rd:=gJ _ as},?_,.sl (h1 r) hl _,.own (h1 aH) (h1 r) 0 (h1 l) (h1 l) hl,[.arr (h1 r) (l.map (RT.pv r))],rfl,by simp[M9,],rfl⟩;simp[iJ,hex,hf];cases l with
 |nil=>rfl
 |cons a l=>
  have S:Pc ((l.map (RT.pv r)).length+1) gX=YD:=by simp[gX]at I ⊢;omega
  simp only[KL,iK,Sy,S,SN,if_true,H8];simp[has]
theorem mQ.clone{f:FuncId}{n:Nat}{r:J PT}(hf:W7 f=Ss (.p7 hl (iK n)))(hn:n=h1 r):mQ W7 f (JB.clone r):=by
 intro(a:J _) (b:J _) as pa aH fz hb S3 hex;subst hn;obtain⟨rfl,I⟩:=Hw hb;have Yl:pa=[.sl (h1 r) hl (b.map (RT.pv r))]:=by
  have:Ss [PV.sl (h1 r) hl _]=Ss pa:=S3
  grind
 subst Yl;exact m1S hf b I hex
theorem mQ.XB{f:FuncId}(hf:W7 f=Ss (.p7 hl Hd)):mQ W7 f JB.XB:=by
 intro a b as pa aH fz hb S3 hex;obtain⟨x,y,c⟩:=a;have KK:wF x y c=Ss b:=hb;unfold wF at KK;cases hc:(aa (0<=x)&&aa (0<=y)&&aa (0<=c)&&aa (c<=1))with
 |false=>grind
 |true=>
  rw[hc]at KK;injection KK with KK;subst KK;simp[]at hc;obtain⟨⟨⟨D,S⟩,h3⟩,h4⟩:=hc;obtain⟨x,rfl⟩:=WF D;obtain⟨y,rfl⟩:=WF S;obtain⟨c,rfl⟩:=WF h3;have Yl:pa=[.int .u64 (.ofNat x),.int .u64 (.ofNat y),.int .u64 (.ofNat c)]:=by have:=S3;exact(SJ this).symm
  subst Yl;have hcb:Pc c 1=YD:=by simp;omega
  refine⟨0,{v:= .cT [.int .u64 _,.int .u64 _],rd:=gJ _ as},?_,_,rfl,rfl⟩;simp[iJ,hex,hf,Hd,hcb,];rfl
theorem jg.zero{f:FuncId}{c:eZ}(h: ∀a,c.fn a=KN):jg W7 f c:=λa b pa ps hb=>by grind
theorem mQ.zero{f:FuncId}{c:JB}(h: ∀a,c.fn a=KN):mQ W7 f c:=λa b as pa aH fz hb=>by grind
end
end Go.Vm
/- What comes in to a law, as typed values; a law from a contract. -/
namespace Go.Vm
open Go.ChangeShapes Go.WideShapes Go.ChangeAt Go.RowKit
def PT.wf:(p:PT)->p.T->Prop
 | .i k,n=>(Lit.int k n).wf=YD
 | .b,_=>True
def RT.wf:(r:J PT)->RT r->Prop
 | [],_=>True
 | [p],a=>p.wf a
 |p::q::r,a=>p.wf a.1/\RT.wf (q::r) a.2
def oV(r:J PT)(vs:J SV):Prop:= ∃a:RT r,vs=RT.sv r a/\RT.wf r a
def Mu(r:J PT)(vs:J SV):Prop:= ∃l:J (RT r),vs=[.sl r l]/\ ∀a∈l,RT.wf r a
def OZ:J (J SV->Prop)->J SV->Prop
 | [],vs=>vs=[]
 |K::Ks,vs=> ∃a b,vs=a++b/\K a/\OZ Ks b
theorem oV.cons{p:PT}: ∀{r:J PT} {a b:J SV},oV [p] a->oV r b->oV (p::r) (a++b)
 | [],a,b,⟨x,X,wx⟩,⟨y,hy,_⟩=>⟨x,by rw[X,hy];rfl,wx⟩
 |q::r,a,b,⟨x,X,wx⟩,⟨y,hy,m3S⟩=>⟨(x,y),by rw[X,hy];rfl,wx,m3S⟩
theorem oV.split{p q:PT}{r:J PT}{vs:J SV}:oV (p::q::r) vs-> ∃a b,vs=a++b/\oV [p] a/\oV (q::r) b
 |⟨x,X,wx⟩=>⟨[p.sv x.1],RT.sv (q::r) x.2,X,⟨x.1,rfl,wx.1⟩,⟨x.2,rfl,wx.2⟩⟩
theorem oV.app: ∀{r s:J PT} {a b:J SV},oV r a->oV s b->oV (r++s) (a++b)
 | [],s,a,b,⟨x,X,_⟩,h=>by have:a=[]:=X;subst this;exact h
 | [p],s,a,b,h,k=>oV.cons h k
 |p::q::r,s,a,b,h,k=>by
  obtain⟨a1,a2,rfl,D,S⟩:=oV.split h
  rw[SG];exact oV.cons D (oV.app S k)
theorem pJ: ∀{rs:J (J PT)} {vs:J SV},OZ (rs.map oV) vs->oV rs.flatten vs
 | [],vs,h=>by have:vs=[]:=h;subst this;exact⟨(),rfl,trivial⟩
 |r::rs,vs,⟨a,b,D,S,h3⟩=>by subst D;rw[List.flatten_cons];exact oV.app S (pJ h3)
def cU (P : Program) (t : TypeId) (K : J SV -> Prop) : Prop :=
  ∀ (H : Type) (enc : TypeId × Value -> H) (w : World) (EL : Nat) (cs : J Value) (x : DataW H × J MemPlace), DataW.trod enc P w 0 (fun _ => YD) YD EL t cs = Ss x ->
    ∃ vs q, K vs /\ yG vs = Ss q /\ gW (Q3 w) jy q cs
section
variable {P : Program}
theorem cU.mono{t:TypeId}{K hys:J SV->Prop}(h:cU P t K)(hk: ∀vs,K vs->hys vs):cU P t hys:=λH enc w EL cs x X=>by obtain⟨vs,q,D,S,h3⟩:=h H enc w EL cs x X;exact⟨vs,q,hk vs D,S,h3⟩
theorem cU.int{t:TypeId}{k:IntKind}(ht:P.underlying t=Ss (.int k)):cU P t (oV [.i k]):=λH enc w EL cs x h=>by obtain⟨n,rfl,_,hw⟩:=DataW.trod_int ht h;exact⟨[.int k n],[.int k n],⟨n,rfl,hw⟩,rfl,.cons _ _ _ _ (.int k n) .nil⟩
theorem cU.bool{t:TypeId}(ht:P.underlying t=Ss .bool):cU P t (oV [.b]):=λH enc w EL cs x h=>by obtain⟨b,rfl,_⟩:=DataW.trod_bool ht h;exact⟨[.bool b],[.bool b],⟨b,rfl,trivial⟩,rfl,.cons _ _ _ _ (.bool b) .nil⟩
def fB(P:Program):J Field->J (J SV->Prop)->Nat->Prop
 | [],[],_=>True
 |f::fs,K::Ks,off=>f.offset=off/\cU P f.type K/\fB P fs Ks (off+P.cellsOf f.type)
 |_,_,_=>False
theorem fB.nil{off:Nat}:fB P [] [] off:=trivial
theorem fB.cons{f:Field}{fs:J Field}{K:J SV->Prop}{Ks:J (J SV->Prop)}{off:Nat}(D:f.offset=off)(S:cU P f.type K)(h3:fB P fs Ks (off+P.cellsOf f.type)):fB P (f::fs) (K::Ks) off:=⟨D,S,h3⟩
def Cj(P:Program):J Field->Nat
 | []=>0
 |f::fs=>P.cellsOf f.type+Cj P fs
theorem him{im:Im}{loc:Loc}: ∀{p:J PV} {vs:J Value} {q:J PV} {us:J Value},gW im loc p vs->gW im loc q us->gW im loc (p++q) (vs++us)
 | [],[],_,_,.nil,h=>h
 |_::_,_::_,_,_,.cons x v xs ws h hs,k=> .cons x v _ _ h (him hs k)
theorem hkv{H:Type}{enc:TypeId×Value->H}{w:World}{n:Nat}{cs:J Value}: ∀{fs:J Field} {Ks:J (J SV->Prop)} {off:Nat},fB P fs Ks off->h1 cs=off+Cj P fs->
 (∀f∈fs,∃x,DataW.trod enc P w 0 (λ_=>YD) YD n f.type ((cs.drop f.offset).take (P.cellsOf f.type))=Ss x)-> ∃vs q,OZ Ks vs/\yG vs=Ss q/\gW (Q3 w) jy q (cs.drop off)
 | [],[],off,_,I,_=>⟨[],[],rfl,rfl,by rw[List.drop_eq_nil_of_le (by simp[Cj]at I;omega)];exact .nil⟩
 |f::fs,K::Ks,off,⟨D,S,h3⟩,I,X=>by
  obtain⟨x,Pq⟩:=X f (by simp);obtain⟨vs,q,k1,k2,k3⟩:=S H enc w n _ x Pq;obtain⟨U1,q',k1',k2',P5⟩:=hkv (n:=n) h3 (by simp only[Cj]at I;omega) (λg hg=>X g (by simp[hg]));refine⟨vs++U1,q++q',⟨vs,U1,rfl,k1,k1'⟩,Hu k2 k2',?_⟩;rw[D]at k3;have:cs.drop off=(cs.drop off).take (P.cellsOf f.type)++cs.drop (off+P.cellsOf f.type):=by rw[<-List.drop_drop,List.take_append_drop]
  rw[this];exact him k3 P5
 | [],_::_,_,h,_,_=>h.elim
 |_::_,[],_,h,_,_=>h.elim
theorem cU.struct{t:TypeId}{fs:Array Field}{Ks:J (J SV->Prop)}(ht:P.underlying t=Ss (.struct fs))(hF:fB P fs.toList Ks 0)(hc:P.cellsOf t=Cj P fs.toList):cU P t (OZ Ks):=λH enc w EL cs x h=>by
 obtain⟨xs,n,rfl,_,I,hxl,yN⟩:=DataW.trod_struct ht h;have:=hkv (P:=P) (enc:=enc) (w:=w) (n:=n) (cs:=cs) hF (by omega) (λf hf=>by
  obtain⟨i,N,he⟩:=List.mem_iff_getElem.1 hf;have yD:i<fs.size:=by simpa using N
  have hg:fs[i]? =Ss f:=by rw[KO yD];simpa using he
  have:=yN i f hg;rw[Y (by omega)]at this;exact⟨_,this⟩)
 rwa [Mp]at this
theorem RT.vrl{r:J PT}{a:RT r}{q:J PV}(h:yG (RT.sv r a)=Ss q):q=RT.pv r a:=by rw[RT.PA]at h;exact(SJ h).symm
theorem gW.nth{im:Im}{loc:Loc}: ∀{p:J PV} {vs:J Value},gW im loc p vs-> ∀(k:Nat) (c:PV),p[k]? =Ss c-> ∃v,vs[k]? =Ss v/\VR im loc c v
 |_::_,_::_,.cons x v xs ws h hs,0,c,hc=>by simp at hc;subst hc;exact⟨v,by simp,h⟩
 |_::_,_::_,.cons x v xs ws h hs,k+1,c,hc=>by obtain⟨u,D,S⟩:=gW.nth hs k c (by simpa using hc);exact⟨u,by simpa using D,S⟩
theorem cU.slice{t e:TypeId}{r:J PT}(ht:P.underlying t=Ss (.slice e))(he:cU P e (oV r))(hc:P.cellsOf e=h1 r)(hr:0<h1 r):cU P t (Mu r):=λH enc w EL cs x h=>by
 rcases Go.Deep.open_slice ht h with⟨rfl,_⟩|⟨a,len,cap,m,n,QJ,a35,rfl,_,I,hm,hmm,_,X⟩
 ·exact⟨[.sl r []],[.sl (h1 r) hl []],⟨[],rfl,by simp⟩,rfl,.cons _ _ _ _ (.sl (h1 r) hl [] KN 0 (h9 _) (λh=>by cases h) (λh=>absurd rfl h)) .nil⟩
 have Iq:len<=m:=by rw[hmm];split<;>omega
 have each: ∀i,i<len-> ∃A:RT r,RT.wf r A/\ ∃Pb,w.cells? 0 (a.add (i*h1 r)) (h1 r)=Ss Pb/\gW (Q3 w) jy (RT.pv r A) Pb:=by intro i N;obtain⟨Pb,D,S⟩:=X i (by omega);obtain⟨vs,q,⟨A,hA,q1S⟩,k2,k3⟩:=he H enc w n Pb _ S;subst hA;rw[RT.vrl k2]at k3;rw[hc]at D;exact⟨A,q1S,Pb,D,k3⟩
 have ch: ∃A:Nat->RT r,∀i,i<len->RT.wf r (A i)/\ ∃Pb,w.cells? 0 (a.add (i*h1 r)) (h1 r)=Ss Pb/\gW (Q3 w) jy (RT.pv r (A i)) Pb:=by
  classical
  refine⟨λi=>if h:i<len then(each i h).choose else RT.zero r,λi N=>?_⟩;simp only[dif_pos N];exact(each i N).choose_spec
 obtain⟨A,hA⟩:=ch;refine⟨[.sl r ((tA len).map A)],[.sl (h1 r) hl (((tA len).map A).map (RT.pv r))],⟨_,rfl,λx X=>?_⟩,rfl,.cons _ _ _ _ ?_ .nil⟩
 ·obtain⟨i,N,rfl⟩:=YC.1 X
  exact(hA i (List.mem_range.1 N)).1
 have fJ:(((tA len).map A).map (RT.pv r)).length=len:=by simp
 have:=VR.sl (im:=Q3 w) (loc:=jy) (h1 r) hl (((tA len).map A).map (RT.pv r)) (Ss a) cap (by rw[fJ];exact I) (λh=>by cases h) (λfk=>by
  have SD:0<len:=by
   rcases Tj len with h|h
   ·subst h;exact absurd rfl fk
   exact h
  obtain⟨_,cs0,h0,_⟩:=hA 0 SD;obtain⟨_,UZ,OR⟩:=Zg h0;obtain⟨b,off,spot⟩:=a;have anX:spot=KN:=by have D:=OR 0 hr;rw[Y (by omega)]at D;simpa[Addr.add]using World.cell?_spot D
  subst anX;refine⟨b,off,rfl,λi row Ef=>?_⟩;simp only[List.map_map,SM,Xc]at Ef;obtain⟨j,hj,rfl⟩:=Ef;have Vb:=dE hj;have:j=i:=by rw[List.getElem?_range (by simpa using Vb)]at hj;exact(SJ hj).symm
  subst this;have anY:j<len:=by simpa using Vb
  obtain⟨_,Pb,D,S⟩:=hA j anY;obtain⟨_,Pf,OL⟩:=Zg D;refine⟨RT.EV r (A j),λk c hk=>?_⟩;obtain⟨v,hv,wc⟩:=gW.nth S k c hk;have hkr:k<(h1 r):=by
   have:=dE hk
   rwa [Function.comp,RT.EV]at this
  have cc:=OL k hkr;rw[hv]at cc;rw[Go.WideShapes.add_plain,Go.WideShapes.add_plain]at cc;have Va:c.plain=YD:=YH.1 (RT.plain r (A j)) c (YI hk);exact⟨v,wc.plain Va,ln1 cc⟩)
 rw[fJ]at this;exact this
theorem cU.atr{t:TypeId}{fs:Array Field}{K:J SV->Prop}(h:cU P t K)(ht:P.underlying t=Ss (.struct fs)){H:Type}{enc:TypeId×Value->H}{w:World}{uM:Nat}{v:Value}{d:DataW H}{p:J MemPlace}
 (hv:Value.okWide P w .any uM t v) (hd:DataW.Trod enc P w 0 (λ_=>YD) YD t v d p): ∃vs q,K vs/\yG vs=Ss q/\VR (Q3 w) jy (.agg q) v:=by
 obtain⟨cs,rfl,_⟩:=okWide_struct ht hv;obtain⟨EL,hf⟩:=hd;obtain⟨vs,q,k1,k2,k3⟩:=h H enc w EL _ _ hf;exact⟨vs,q,k1,k2,.agg q _ k3⟩
theorem cU.att{t e:TypeId}{r:J PT}(h:cU P t (Mu r))(ht:P.underlying t=Ss (.slice e)){H:Type}{enc:TypeId×Value->H}{w:World}{uM:Nat}{v:Value}{d:DataW H}{p:J MemPlace}
 (hv:Value.okWide P w .any uM t v) (hd:DataW.Trod enc P w 0 (λ_=>YD) YD t v d p): ∃l:J (RT r),(∀a∈l,RT.wf r a)/\VR (Q3 w) jy (.sl (h1 r) hl (l.map (RT.pv r))) v:=by
 obtain⟨a,len,cap,rfl⟩:=okWide_slice ht hv;obtain⟨EL,hf⟩:=hd;obtain⟨vs,q,⟨l,rfl,hw⟩,k2,k3⟩:=h H enc w EL _ _ hf;have hq:q=[.sl (h1 r) hl (l.map (RT.pv r))]:=by have:yG [SV.sl r l]=Ss [.sl (h1 r) hl (l.map (RT.pv r))]:=rfl;rw[this]at k2;exact(SJ k2).symm
 subst hq;refine⟨l,hw,?_⟩;generalize yL:(Value.slice a len cap).cells.toList=cs at k3;have:cs=[Value.slice a len cap]:=by rw[<-yL];rfl
 subst this;cases k3 with
 |cons _ _ _ _ D _=>exact D
theorem wf_i64{n:Int}(h:(Lit.int .i64 n).wf=YD): -9223372036854775808<=n/\n<9223372036854775808:=by
 simp only[Lit.wf,IR,decide_eq_true_eq]at h;have e1:IntKind.i64.min= -9223372036854775808:=by decide
 have e2:IntKind.i64.max=9223372036854775807:=by decide
 rw[e1,e2]at h;omega
end
theorem mQ.atu{W7:s9}{f:FuncId}{x:ay}{α:Type}{A:bY α}{fn:α->O Bool}(h:mQ W7 f ⟨A,Arg.bool,fn,.pure,hl⟩)(hf:W7 f=Ss (.code x)){a:α}(hb:fn a=Ss YD){ps:J PV}(hp:yG (A.enc a)=Ss ps)(X:L9 [] (JE [] deep) ps=Ss ps):
 ∃n s z,run W7 n (.func f ps [] [])=Ss (.func (.bool YD) s z):=by
 obtain⟨n,r,D,p,S,rfl⟩:=h a YD ps ps [] [] hb hp X;have WX:p= .bool YD:=(SJ S).symm;subst WX;refine⟨n,?_⟩;simp only[iJ,X,hf]at D;split at D
 ·rename_i v s z hr
  simp only[Su,if_false]at D;split at D
  ·injection D with D
   injection D with D;subst D;exact⟨s,z,hr⟩
  rename_i hn
  split at D
  ·rename_i v' hv
   injection D with D;injection D with D;subst D;exfalso;cases v with
   |bool b=>exact hn rfl
   |int _ _|str _|sl _ _ _=>injection hv with hv;cases hv
   |agg cs=>simp only[H7,Xc]at hv;obtain⟨_,_,hv⟩:=hv;cases hv
   |cT cs=>simp only[H7,Xc]at hv;obtain⟨_,_,hv⟩:=hv;cases hv
   |own t e off len cap ex=>simp only[H7]at hv;split at hv<;>first|(injection hv with hv;cases hv)|cases hv
   |_=>cases hv
  cases D
 cases D
end Go.Vm
/- What comes in to a law, by the codes of its types. -/
namespace Go.Vm
def KC{α:Type}(C:bM α)(W:α->Prop)(vs:J SV):Prop:= ∃c,vs=C.enc c/\W c
section
variable {α β : Type} {C : bM α} {QJ : bM β} {W : α -> Prop} {V : β -> Prop} {Ks : J (J SV -> Prop)}
theorem KC.one(vs:J SV):OZ [KC C W] vs->KC C W vs
 |⟨_,_,h,k,e⟩=>by rw[h,show _=[]from e,Mq];exact k
theorem KC.cons(k: ∀vs,OZ Ks vs->KC QJ V vs)(vs:J SV):OZ (KC C W::Ks) vs->KC (C.prod QJ) (λp=>W p.1/\V p.2) vs
 |⟨_,_,h,⟨x,e,w⟩,m⟩=>by obtain⟨y,e',v⟩:=k _ m;exact⟨(x,y),by rw[h,e,e'];rfl,w,v⟩
theorem KC.K2{f:α->β}{g:β->α}{h: ∀a,g (f a)=a}(k: ∀vs,OZ Ks vs->KC C W vs)(hw: ∀a,W a->V (f a))(vs:J SV)(m:OZ Ks vs):KC (C.K2 f g h) V vs:=by obtain⟨x,e,w⟩:=k _ m;exact⟨f x,by rw[e];exact congrArg C.enc (h x).symm,hw _ w⟩
theorem fB.co{P:Program}{f:Field}{fs:J Field}{K:J SV->Prop}{off:Nat}(S:cU P f.type K)(h3:fB P fs Ks (off+P.cellsOf f.type))(D:f.offset=off:=by kernel_rfl):fB P (f::fs) (K::Ks) off:=⟨D,S,h3⟩
theorem fB.unE{P:Program}{f:Field}{fs:J Field}{r:J PT}{off:Nat}(S:cU P f.type (oV r))(h3:fB P fs Ks (off+P.cellsOf f.type))(D:f.offset=off:=by kernel_rfl):fB P (f::fs) (KC (bM.row r) (RT.wf r)::Ks) off:=⟨D,S,h3⟩
theorem fB.ci{P:Program}{f:Field}{fs:J Field}{k:IntKind}{off:Nat}(S:cU P f.type (oV [.i k]))(h3:fB P fs Ks (off+P.cellsOf f.type))(D:f.offset=off:=by kernel_rfl):fB P (f::fs) (KC (bM.int k) (PT.wf (.i k))::Ks) off:=⟨D,S,h3⟩
theorem fB.cb{P:Program}{f:Field}{fs:J Field}{off:Nat}(S:cU P f.type (oV [.b]))(h3:fB P fs Ks (off+P.cellsOf f.type))(D:f.offset=off:=by kernel_rfl):fB P (f::fs) (KC bM.bool (PT.wf .b)::Ks) off:=⟨D,S,h3⟩
theorem fB.cl{P:Program}{f:Field}{fs:J Field}{r:J PT}{off:Nat}(S:cU P f.type (Mu r))(h3:fB P fs Ks (off+P.cellsOf f.type))(D:f.offset=off:=by kernel_rfl):fB P (f::fs) (KC (bM.sl r) (λl=> ∀a∈l,RT.wf r a)::Ks) off:=⟨D,S,h3⟩
theorem cU.st{P:Program}{t:TypeId}{fs:Array Field}{K:J SV->Prop}(ht:P.underlying t=Ss (.struct fs))(hF:fB P fs.toList Ks 0)(hk: ∀vs,OZ Ks vs->K vs)(hc:P.cellsOf t=Cj P fs.toList:=by kernel_rfl):cU P t K:=(cU.struct ht hF hc).mono hk
theorem cU.Zj{P:Program}{t e:TypeId}{r:J PT}(ht:P.underlying t=Ss (.slice e))(he:cU P e (oV r))(hc:P.cellsOf e=(h1 r):=by kernel_rfl)(hr:0<(h1 r):=by decide):cU P t (Mu r):= .slice ht he hc hr
end
end Go.Vm
/- A function that puts the rows of a slice in order: what is asked of it in a program, and that the table's entry is then right. -/
namespace Go.Vm
theorem ImO: ∀{p:PT} {x:PV} {a:p.T},IC p x=Ss a->x=p.pv a
 | .i k,.int l n,a,h=>by
  have h:(bif iA l k then Ss n else KN)=Ss a:=h;cases hk:iA l k with
  |false=>rw[hk]at h;cases h
  |true=>rw[hk]at h;obtain rfl:=hZ.1 hk;injection h with h;subst h;rfl
 | .b,.bool x,a,h=>by have h:Ss x=Ss a:=h;injection h with h;subst h;rfl
theorem dum: ∀{r:J PT} {x:J PV} {a:RT r},OX r x=Ss a->x=RT.pv r a
 | [],[],a,h=>rfl
 | [],_::_,a,h=>by cases h
 | [p],[v],a,h=>by rw[ImO (show IC p v=Ss a from h)];rfl
 | [p],[],a,h=>by cases h
 | [p],_::_::_,a,h=>by cases h
 |p::q::r,[],a,h=>by cases h
 |p::q::r,v::vs,a,h=>by
  have h:(match IC p v,OX (q::r) vs with
   |some a,Ss b=>Ss (a,b)
   |_,_=>KN)=Ss a:=h
  cases D:IC p v with
  |none=>rw[D]at h;cases h
  |some x=>
   cases S:OX (q::r) vs with
   |none=>rw[D,S]at h;cases h
   |some y=>rw[D,S]at h;injection h with h;subst h;rw[ImO D,dum S];rfl
theorem hno{r:J PT}: ∀{x:J (J PV)} {l:J (RT r)},KY r x=Ss l->x=l.map (RT.pv r)
 | [],l,h=>by injection h with h;subst h;rfl
 |v::vs,l,h=>by
  have h:(match OX r v,KY r vs with
   |some a,Ss l=>Ss (a::l)
   |_,_=>KN)=Ss l:=h
  cases D:OX r v with
  |none=>rw[D]at h;cases h
  |some x=>
   cases S:KY r vs with
   |none=>rw[D,S]at h;cases h
   |some y=>rw[D,S]at h;injection h with h;subst h;rw[dum D,hno S];rfl
def UP:O FuncId->J Value
 |none=>[]
 |some g=>[.func (.func g) ⟨[]⟩ ⟨[]⟩]
structure E4(P:Program)(f:FuncId)(q:Tt):Prop where
 some_: ∀(b off c:Nat) (l m:List (RT q.r)) (arr:Array Value) (el:TypeId) (w:World),0<h1 l->h1 l<=c->h1 l<=1048576->q.fn l=Ss m->h1 m=h1 l->w.heap[b]? =Ss (.cells arr el (0,0))->
  cw (λk=>arr[k]?) off (h1 q.r) (l.map (RT.pv q.r))->off+h1 l*h1 q.r<=arr.size->
  Calls P f ⟨.slice (Ss ⟨b,off,KN⟩) (h1 l) c::UP q.g⟩ w λx w'=>x= .returned (.tuple #[])/\(∃fin:Array Value,fin.size=arr.size/\w'.heap[b]? =Ss (.cells fin el (0,0))/\cw (λk=>fin[k]?) off (h1 q.r) (m.map (RT.pv q.r))/\
   ∀j:Nat,off+h1 l*h1 q.r<=j->fin[j]? =arr[j]?)/\(∀b':Nat,b'<w.heap.size->b'≠b->w'.heap[b']? =w.heap[b']?)/\w.heap.size<=w'.heap.size/\w'.os=w.os/\Tape w w'/\w'.output=w.output
 none_: ∀(a:Option Addr) (c:Nat) (w:World),Calls P f ⟨.slice a 0 c::UP q.g⟩ w λx w'=>x= .returned (.tuple #[])/\w'=w
theorem aj4{im:Im}{loc:Loc}{g:O FuncId}{r:J PV}{us:J Value}(h:Li g r=YD)(hu:gW im loc r us):us=UP g:=by
 unfold Li at h;split at h
 ·cases hu;rfl
 ·rename_i g h'
  have:h'=g:=by simpa using h
  subst this;cases hu with
  |cons _ a _ b D S=>
   cases S;cases D with
   |fY _ _ _ a2 bs ha hb=>cases ha;cases hb;rfl
 cases h
theorem q3S{im:Im}{loc:Loc}{aH:dp}{fz:J Nat}{w w':World}{t e:Nat}{li:LI}{rows yC:J Row}{arr fin:Array Value}{el:TypeId}(pY:SR im loc aH fz w)(I:loc t=Ss li)(dh:aH[t]? =Ss (.arr e rows))(fk:rows≠[])(hf:has fz t=hl)
 (_ha:w.heap[li.eK]? =Ss (.cells arr el (0,0))) (hw:w'.heap[li.eK]? =Ss (.cells fin el (0,0))) (Bm: ∀b':Nat,b'<w.heap.size->b'≠li.eK->w'.heap[b']? =w.heap[b']?) (yB:w.heap.size<=w'.heap.size) (ho:w'.os=w.os) (ht:Tape w w') (hp:w'.output=w.output)
 (he:li.aT=e) (hn:li.n=h1 yC) (fJ:(h1 yC)=h1 rows) (hfs:fin.size=li.sz) (yM:li.sh+h1 yC*e<=li.sz) (hr:cw (λk=>fin[k]?) li.sh e yC):
 B6 im loc aH w (.cT []) (aH.set t (.arr e yC)) fz im loc w' (.tuple #[]):=by
 have YU:t<(h1 aH):=(PP.1 dh).1;have O5:yC≠[]:=by intro h;subst h;rw[List.length_nil]at fJ;exact fk (Mg.1 fJ.symm)
 have Se:(pT.arr e rows).cu=YD:=tC fk;have TQ:(pT.arr e yC).cu=YD:=tC O5;have Mk:=pY.free t li _ I dh Se hf;have old: ∀{u:Nat} {k:pT},(aH.set t (.arr e yC))[u]? =Ss k->(u=t/\k= .arr e yC)\/(u≠t/\aH[u]? =Ss k):=by
  intro u k h;rw[KJ]at h;split at h
  ·rename_i e1;subst e1;first|(rw[Do YU]at h;injection h with h;exact .inl ⟨rfl,h.symm⟩)|(injection h with h;exact .inl ⟨rfl,h.symm⟩)
  rename_i fk;exact .inr ⟨λe=>fk e.symm,h⟩
 have Ur: ∀{u:Nat} {k:pT},(aH.set t (.arr e yC))[u]? =Ss k->k.cu=YD-> ∃k0,aH[u]? =Ss k0/\k0.cu=YD:=by
  intro u k h hs;rcases old h with⟨rfl,rfl⟩|⟨_,h⟩
  ·exact⟨_,dh,Se⟩
  exact⟨k,h,hs⟩
 have lt: ∀{b:Nat} {o:Obj},w.heap[b]? =Ss o->b<w.heap.size:=λh=>(Ih.1 h).1
 exact {
  kx:= .refl _,fA:= .refl _
  vr:= .cT _ _ .nil
  sr:={
   bZ:=λb o hb=>by
    have D:=pY.bZ b o hb;have S:b≠li.eK:=λh=>by rw[h,Mk]at hb;cases hb
    rw[Bm b (lt D) S];exact D
   eK:=λu lu hu=>by
    obtain⟨k,hk,hb⟩:=pY.eK u lu hu
    by_cases e1:u=t
    ·subst e1
     rw[I]at hu;injection hu with hu;subst hu;exact⟨_,List.getElem?_set_self YU,he,hn,λ_=>⟨fin,el,hw,hfs,yM,hr⟩⟩
    refine⟨k,by rw[List.getElem?_set_ne (λh=>e1 h.symm)];exact hk,hb.iH (.refl _) (.refl _) λhs=>?_⟩
    exact Bm _ (hb.lt hs) λh=>e1 (pY.mE _ _ _ _ _ _ hu I hk dh hs Se h)
   mE:=λu v lu lv k k' hu hv hk OS hs Eh h=>by obtain⟨k0,a,b⟩:=Ur hk hs;obtain⟨k1,c,d⟩:=Ur OS Eh;exact pY.mE _ _ _ _ _ _ hu hv a c b d h
   free:=λu lu k hu hk hs hz=>by obtain⟨k0,a,b⟩:=Ur hk hs;exact pY.free _ _ _ hu a b hz}
  os:=ho,tape:=ht,output:=hp,size:=yB
  frame:=λb hb h=>Bm b hb λS=>h t li _ I dh Se S.symm
  fG:=λb o h=> .inl h
  uB:=λu lu h=> .inl h
  own:=λu lu k hu hk hs=>by obtain⟨k0,a,b⟩:=Ur hk hs;exact .inr ⟨u,lu,k0,hu,a,b,rfl⟩}
theorem noK{im:Im}{loc:Loc}{aH:dp}{fz:J Nat}{w:World}(pY:SR im loc aH fz w):B6 im loc aH w (.cT []) aH fz im loc w (.tuple #[]) where
 kx:= .refl _
 fA:= .refl _
 vr:= .cT _ _ .nil
 sr:=pY
 os:=rfl
 tape:= .refl _
 output:=rfl
 size:=h9 _
 frame:=λ_ _ _=>rfl
 fG:=λ_ _ h=> .inl h
 uB:=λ_ _ h=> .inl h
 own:=λt li k I hk hs=> .inr ⟨t,li,k,I,hk,hs,rfl⟩
theorem Ij.TA{P:Program}{f:FuncId}{q:Tt}{fn:Func}{c:Code}(hf:P.funcs[f]? =Ss fn)(yE:(fn.name== "runtime.NumGoroutine")=hl)(hb:fn.body=Ss c)(h0:q.fn []=Ss [])(H:E4 P f q):Ij P f (Q9 q):=by
 refine⟨fn,c,hf,yE,hb,?_⟩;intro args aH fz v B7 QS hp im loc w us pY FO;unfold Q9 at hp;split at hp
 case h_2=>cases hp
 rename_i t e1 off len cap ex r;split at hp
 case h_2=>cases hp
 rename_i e3 rows dh;split at hp
 case isFalse=>cases hp
 rename_i hc;simp only[IR,Nat.beq_eq,Bool.not_eq_true',Nat.ble_eq]at hc;obtain⟨⟨⟨⟨⟨q1,rfl⟩,fJ⟩,mP⟩,Vi⟩,hg⟩:=hc;subst q1;have mP:len<=1048576:=mP;split at hp
 case h_2=>cases hp
 rename_i l UZ;split at hp
 case h_2=>cases hp
 rename_i m hm;split at hp
 case isFalse=>cases hp
 rename_i U2;have U2:(h1 m)=(h1 l):=by simpa using U2
 injection hp with hp;simp only[Pv]at hp;obtain⟨rfl,rfl,rfl⟩:=hp;have qg:=hno UZ;have H9:(h1 l)=len:=by have:=congrArg List.length qg;rw[al,YJ]at this;omega
 obtain⟨x0,Y4,rfl,Q2,FO⟩: ∃x0 Y4,us=x0::Y4/\VR im loc (.own t (h1 q.r) 0 len cap ex) x0/\gW im loc r Y4:=by cases FO with|cons _ a _ b D S=>exact⟨a,b,rfl,D,S⟩
 obtain rfl:=aj4 hg FO;obtain⟨li,a,eL,rfl,I,he,JK,Ui,W8,_,Lu⟩:=Q2.kW;obtain⟨k1,lL,Az⟩:=pY.eK t li I;rw[dh]at lL;injection lL with lL;subst lL;obtain⟨b1,b2,b3⟩:=Az;obtain rfl:(h1 q.r)=e3:=by rw[<-b1,he]
 refine .inr ⟨lQ hf yE hb,?_⟩;rcases Tj len with hz|SD
 ·subst hz
  obtain rfl:l=[]:=Mg.1 H9;rw[h0]at hm;injection hm with hm;subst hm;refine(H.none_ a eL w).mono λx w' ⟨X,hw⟩=>⟨_,X,im,loc,?_⟩
  subst hw;have:aH.set t (.arr (h1 q.r) (([]:J (RT q.r)).map (RT.pv q.r)++rows.drop 0))=aH:=by
   apply Vg;intro j;rw[KJ];split
   ·rename_i e;subst e;rw[Do (PP.1 dh).1,dh];rfl
   rfl
  rw[this];exact noK pY
 have xJ:rows≠[]:=by intro h;subst h;simp at fJ;omega
 obtain⟨arr,el,GB,UY,Sz,dU⟩:=b3 xJ;obtain⟨Nl,rfl,yM⟩:li.n≠0/\a=Ss ⟨li.eK,li.sh,KN⟩/\li.sh+eL*h1 q.r<=li.sz:=by
  rcases Lu with h|⟨D,S,h3⟩
  ·omega
  exact⟨D,by simpa using S,by simpa using h3⟩
 have rJ:len*h1 q.r<=h1 rows*(h1 q.r):=Nat.mul_le_mul_right _ fJ;subst H9;refine(H.some_ li.eK li.sh eL l m arr el w SD (by omega) (by omega) hm U2 GB (by rw[<-qg];exact dU.take _) (by omega)).mono λx w' ⟨X,⟨fin,f1,f2,f3,f4⟩,Bm,yB,ho,XK,Ng⟩=>⟨_,X,im,loc,?_⟩
 have hL:(m.map (RT.pv q.r)++rows.drop (h1 l)).length=(h1 rows):=by simp only[List.length_append,YJ,List.length_drop,U2];omega
 refine q3S pY I dh xJ Vi GB f2 Bm yB ho XK Ng b1 (by rw[hL];exact b2) hL (by rw[f1];exact UY) (by rw[hL];exact Sz) ?_;refine f3.append ?_;rw[YJ,U2];intro i r hr;obtain⟨g1,g2⟩:=(dU.drop (h1 l)) i r hr;refine⟨g1,λj c hc=>?_⟩;obtain⟨v,v1,v2⟩:=g2 j c hc;refine⟨v,v1,?_⟩;show fin[_]? =Ss v;rw[f4 _ (by omega)];exact v2
end Go.Vm
/- slices.Sort of numbers: the table's entry, by what the library's law says of the function. -/
namespace Go.Vm
theorem J'(a:Int): ∀l:J Int,(Vz a l).Perm (a::l)
 | []=> .refl _
 |b::r=>by
  unfold Vz;cases aa (a<=b)
  ·exact((J' a r).cons b).trans (.swap a b r)
  exact .refl _
theorem Db: ∀l:J Int,(tK l).Perm l
 | []=> .refl _
 |a::r=>(J' a _).trans ((Db r).cons a)
theorem hli(a:Int): ∀{l:J Int},l.Pairwise (· <= ·)->(Vz a l).Pairwise (· <= ·)
 | [],_=>by simp[Vz]
 |b::r,h=>by
  obtain⟨D,S⟩:=Ml.1 h;unfold Vz;cases hc:aa (a<=b)
  ·have hc: ¬a<=b:=by simpa using hc
   refine Ml.2 ⟨λx X=>?_,hli a S⟩
   grind[J']
  refine Ml.2 ⟨λx X=>?_,h⟩
  grind
theorem Dc: ∀l:J Int,(tK l).Pairwise (· <= ·)
 | []=> .nil
 |a::r=>hli a (Dc r)
theorem F7(l:J Int):(tK l).length=(h1 l):=(Db l).length_eq
theorem ev'(l:J Int):l.mergeSort (λx y=>decide (x<=y))=tK l:=by
 refine List.Perm.eq_of_pairwise (le:=(· <= ·)) (λa b _ _ D S=>Int.le_antisymm D S) ?_ (Dc l) ((List.mergeSort_perm _ _).trans (Db l).symm)
 grind[List.pairwise_mergeSort]
theorem EvP {P:Program} {f:FuncId}
 (H1: ∀(eK off cap:Nat) (zs:J Int) (w:World),Sort.Holds (Value.int .i64) w eK off zs.toArray->eK<w.heap.size->h1 zs<4611686018427387904->
  Calls P f #[.slice (Ss ⟨eK,off,KN⟩) (h1 zs) cap] w fun e w'=>e= .returned (.tuple #[])/\ ∃n os,w'=Sort.grow (Sort.putRow (Value.int .i64) (Sort.ahead w n) eK off (zs.mergeSort fun x y=>decide (x<=y)).toArray) os)
 (b off c:Nat) (l:J Int) (arr:Array Value) (el:TypeId) (w:World) (mP:(h1 l)<=1048576) (hw:w.heap[b]? =Ss (.cells arr el (0,0)))
 (dU:cw (fun k=>arr[k]?) off 1 (l.map (RT.pv [.i .i64]))) (yM:off+h1 l*1<=arr.size):
 Calls P f #[.slice (Ss ⟨b,off,KN⟩) (h1 l) c] w fun x w'=>x= .returned (.tuple #[])/\(∃fin:Array Value,fin.size=arr.size/\w'.heap[b]? =Ss (.cells fin el (0,0))/\cw (fun k=>fin[k]?) off 1 ((tK l).map (RT.pv [.i .i64]))/\
  ∀j:Nat,off+h1 l*1<=j->fin[j]? =arr[j]?)/\(∀b':Nat,b'<w.heap.size->b'≠b->w'.heap[b']? =w.heap[b']?)/\w.heap.size<=w'.heap.size/\w'.os=w.os/\Tape w w'/\w'.output=w.output:=by
 have anZ:=(Ih.1 hw).1;have cells: ∀(j:Nat),j<h1 l->arr[off+j]? =Ss (.int .i64 (l.toArray)[j]!):=fun j hj=>by
  have D:(l.map (RT.pv [.i .i64]))[j]? =Ss (RT.pv [.i .i64] l[j]):=by rw [SM,Y hj];rfl
  obtain ⟨_,S⟩:=dU j _ D;obtain ⟨v,v1,v2⟩:=S 0 (.int .i64 l[j]) rfl;injection v1 with v1;subst v1;rw [show off+j*1+0=off+j by omega] at v2;have:(l.toArray)[j]! =l[j]:=by rw [getElem!_pos _ j (by simpa using hj)];simp
  rw [this];exact v2
 have hH:Sort.Holds (Value.int .i64) w b off l.toArray:=fun j hj=>by
  have hj:j<(h1 l):=by simpa using hj
  refine ⟨?_,?_⟩
  · simp only [World.cell?,hw];exact cells j hj
  simp [World.frozen?,hw]
 refine (H1 b off c l w hH anZ (by omega)).mono fun x w' ⟨X,n,os,Vx⟩=>⟨X,?_⟩
 subst Vx;rw [ev'];have U2:=F7 l;have hp:(Sort.putRow (Value.int .i64) (Sort.ahead w n) b off (tK l).toArray).heap=w.heap.modify b (Sort.onCells (Sort.putCells (Value.int .i64) off (tK l).toArray)):=rfl;have yB:(w.heap.modify b (Sort.onCells (Sort.putCells (Value.int .i64) off (tK l).toArray))).size=w.heap.size:=Array.size_modify;have OP: ∀k:Nat,k<w.heap.size->(Sort.grow (Sort.putRow (Value.int .i64) (Sort.ahead w n) b off (tK l).toArray) os).heap[k]? =(w.heap.modify b (Sort.onCells (Sort.putCells (Value.int .i64) off (tK l).toArray)))[k]?:=fun k hk=>by
  show (_++os)[k]? =_;rw [hp,Array.getElem?_append,Do (by rw [yB];exact hk)]
 refine ⟨⟨Sort.putCells (Value.int .i64) off (tK l).toArray arr,by simp [Sort.putCells],?_,?_,?_⟩,fun k hk fk=>?_,?_,rfl,⟨rfl,Nat.le_add_right _ _⟩,rfl⟩
 · rw [OP b anZ,h2,Do rfl,hw];rfl
 · intro i r hr
   rw [SM,Xc] at hr;obtain ⟨a,ha,rfl⟩:=hr;have N:=(PP.1 ha).1;refine ⟨rfl,fun j c hc=>?_⟩;cases j with
   |succ j=>cases hc
   |zero=>
    injection hc with hc;subst hc;refine ⟨_,rfl,?_⟩;show (Sort.putCells _ _ _ _)[off+i*1+0]? =_;rw [show off+i*1+0=off+i by omega];unfold Sort.putCells;rw [YB,KO (by omega),hi,Do ⟨by omega,by simp;omega⟩,show off+i-off=i by omega];have:((tK l).toArray)[i]! =a:=by rw [getElem!_pos _ i (by simpa using N)];have:=(PP.1 ha).2;simpa using this
    rw [this]
 · intro j hj
   have hj:off+h1 l<=j:=by omega
   unfold Sort.putCells;rw [YB];cases arr[j]? with
   |none=>rfl
   |some x=>rw [hi,EQ];intro h;have:=h.2;simp [] at this;omega
 · rw [OP k hk,h2,EQ (fun h=>fk h.symm)]
 simp
theorem E4.int {P:Program} {f:FuncId}
 (H1: ∀(eK off cap:Nat) (zs:J Int) (w:World),Sort.Holds (Value.int .i64) w eK off zs.toArray->eK<w.heap.size->h1 zs<4611686018427387904->
  Calls P f #[.slice (Ss ⟨eK,off,KN⟩) (h1 zs) cap] w fun e w'=>e= .returned (.tuple #[])/\ ∃n os,w'=Sort.grow (Sort.putRow (Value.int .i64) (Sort.ahead w n) eK off (zs.mergeSort fun x y=>decide (x<=y)).toArray) os)
 (g1S: ∀(p:O Addr) (cap:Nat) (w:World),Calls P f #[.slice p 0 cap] w fun e w'=>e= .returned (.tuple #[])/\w'=w):E4 P f VI where
 none_ a c w:=g1S a c w
 some_ b off c l m arr el w _ _ mP NZ _ hw dU yM:=by
  obtain rfl:tK l=m:=by injection NZ
  exact EvP H1 b off c l arr el w mP hw dU yM
end Go.Vm
