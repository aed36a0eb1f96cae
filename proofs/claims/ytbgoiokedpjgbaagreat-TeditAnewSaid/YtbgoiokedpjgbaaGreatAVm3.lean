/- The logical machine, part 3: SvCod, SvRel, SvOps1, SvOps2, SvOps3, SvOps4, SvNorm, SvCall, SvFp, SvRun, SvCon, SvLaw. -/
import Derived.Test.YtbgoiokedpjgbaaGreatAVm2
open Nat renaming eq_of_beq_eq_true->pp,ble->IR,beq->M2,le_of_ble_eq_true->PP,beq_refl->adB,lt_or_ge->aeb,zero_add->aet,beq_eq->aeF,min_eq_left->afe,le_refl->afn,blt->agd,eq_zero_or_pos->ajj,le_of_lt->ak4,sub_self->alD
open Bool renaming and_eq_true->rc,false_eq_true->NE,not_eq_true'->ad5,and_self->adA,not_false->ae7,and_true->aex,not_true->ajh,or_eq_true->alB,true->alI,false->alJ
open List renaming getElem?_eq_some_iff->ut,getElem?_append_left->v6,getElem?_append_right->ww,getElem?_eq_getElem->Do,getElem?_take_of_lt->EQ,getElem?_set->If,length_cons->ad6,append_assoc->ad9,append_nil->adc,length_map->ady,map_cons->adz,replicate->adF,length_take->adG,map_take->adH,take_of_length_le->adI,all_eq_true->adJ,drop_zero->adK,getElem?_cons_succ->adL,map_append->adN,mem_of_getElem?->ae8,getElem?_eq_none_iff->aeh,map_drop->aei,mem_cons_self->aej,mem_singleton->ael,length_eq_zero_iff->aem,mem_append_right->aev,mem_cons_of_mem->aey,mem_append_left->aez,getElem_of_mem->aeD,length_append->aeK,getElem?_cons_zero->aeU,cons_append->afc,nodup_cons->afi,take_succ_cons->aig,all_cons->ajg,cons_beq_cons->aji,range->ak0,map_set->ak2,ext_getElem?->akN,map_nil->akT,flatMap_cons->al0,mem_map->al1,any_eq_true->al4,length_drop->al5,mem_flatMap->al9,all_append->ala,mem_append->alt,any_cons->alC,all_map->alE,length->alF
open Option.some renaming injEq->AC,inj->adP
open Int renaming eq_ofNat_of_zero_le->UV,ofNat->adQ,le_trans->aeE
open Prod.mk renaming injEq->acl
open Option renaming map_eq_some_iff->adC,isSome_iff_exists->aeS,getD_none->aeY,getD_some->al3,some->alG,none->alH
open Go.World renaming cells?_some->al2
open Decidable renaming decide->alK
/- The types of arguments and results, as cells. -/
namespace Go.Vm
theorem pC {r q:List PT} {l:List (RT r)} {m:List (RT q)} (h:sU r q l=alG m): ∃e:r=q,m=e▸l:=by
 unfold sU at h;split at h
 · rename_i hs
   injection h with h;exact ⟨vW hs,h.symm⟩
 cases h
theorem BQ {r q:List PT} {l:List (RT r)} {m:List (RT q)} (h:sU r q l=alG m):r=q/\m.map (RT.pv q)=l.map (RT.pv r)/\alF m=(alF l):=by obtain ⟨rfl,rfl⟩:=pC h;exact ⟨rfl,rfl,rfl⟩
theorem eX {x:SV} {xs:List SV} {ps:List PV}:qJ (x::xs)=alG ps↔ ∃p qs,ps=p::qs/\sW x=alG p/\qJ xs=alG qs:=by
 simp only [qJ];constructor
 · intro h
   split at h
   · rename_i y ys h1 h2
     injection h with h;exact ⟨y,ys,h.symm,h1,h2⟩
   cases h
 rintro ⟨p,qs,rfl,h1,h2⟩
 rw [h1,h2]
theorem AS: ∀{xs ys:List SV} {p q:List PV},qJ xs=alG p->qJ ys=alG q->qJ (xs++ys)=alG (p++q)
 | [],ys,p,q,h,k=>by simp only [qJ,AC] at h;subst h;exact k
 |x::xs,ys,p,q,h,k=>by obtain ⟨a,as,rfl,h1,h2⟩:=eX.1 h;exact eX.2 ⟨a,as++q,rfl,h1,AS h2 k⟩
theorem PT.p5: ∀{p:PT} {v:SV} {a:p.T},p.of v=alG a->v=p.sv a
 | .i k,.int l n,a,h=>by
  simp only [PT.of] at h;cases hk:fO l k with
  |false=>rw [hk] at h;cases h
  |true=>rw [hk] at h;injection h with h;subst h;rw [fE.1 hk];rfl
 | .b,.bool x,a,h=>by injection h with h;subst h;rfl
 | .i k,.bool _,a,h=>by cases h
 | .b,.int _ _,a,h=>by cases h
 | .i _,.jk,a,h| .i _,.undef,a,h| .i _,.jR,a,h| .i _,.eg,a,h| .i _,.str _,a,h| .i _,.agg _,a,h| .i _,.cj _,a,h| .i _,.sl _ _,a,h| .i _,.nil _ _,a,h| .i _,.own _ _,a,h| .i _,.pre _ _ _ _,a,h| .i _,.part _ _ _ _ _,a,h| .i _,.pa _ _ _ _ _,a,h| .i _,.pb _ _ _,a,h| .i _,.bp _ _ _,a,h| .i _,.bO _ _,a,h| .i _,.eO _ _ _,a,h| .i _,.mp _,a,h=>by cases h
 | .b,.jk,a,h| .b,.undef,a,h| .b,.jR,a,h| .b,.eg,a,h| .b,.str _,a,h| .b,.agg _,a,h| .b,.cj _,a,h| .b,.sl _ _,a,h| .b,.nil _ _,a,h| .b,.own _ _,a,h| .b,.pre _ _ _ _,a,h| .b,.part _ _ _ _ _,a,h| .b,.pa _ _ _ _ _,a,h| .b,.pb _ _ _,a,h| .b,.bp _ _ _,a,h| .b,.bO _ _,a,h| .b,.eO _ _ _,a,h| .b,.mp _,a,h=>by cases h
theorem RT.p5: ∀{r:List PT} {vs:List SV} {a:RT r},RT.of r vs=alG a->vs=RT.sv r a
 | [],[],a,_=>rfl
 | [p],[v],a,h=>by have:=PT.p5 (p:=p) h;rw [this];rfl
 |p::q::r,v::vs,a,h=>by
  simp only [RT.of] at h;split at h
  · rename_i x y h1 h2
    injection h with h;subst h;rw [PT.p5 h1,RT.p5 h2];rfl
  cases h
 | [],_::_,a,h=>by simp [RT.of] at h
 | [p],[],a,h=>by simp [RT.of] at h
 | [p],_::_::_,a,h=>by simp [RT.of] at h
 |_::_::_,[],a,h=>by simp [RT.of] at h
theorem PT.Ih (p:PT) (a:p.T):sW (p.sv a)=alG (p.pv a):=by cases p<;>rfl
theorem RT.Ih: ∀(r:List PT) (a:RT r),qJ (RT.sv r a)=alG (RT.pv r a)
 | [],_=>rfl
 | [p],a=>eX.2 ⟨_,_,rfl,PT.Ih p a,rfl⟩
 |p::q::r,a=>eX.2 ⟨_,_,rfl,PT.Ih p a.1,RT.Ih (q::r) a.2⟩
theorem RT.wQ: ∀(r:List PT) (a:RT r),(RT.pv r a).length=alF r
 | [],_=>rfl
 | [p],a=>rfl
 |p::q::r,a=>by simp [RT.pv,RT.wQ (q::r) a.2]
theorem RT.JI: ∀(r:List PT) (a:RT r),(RT.sv r a).length=alF r
 | [],_=>rfl
 | [p],a=>rfl
 |p::q::r,a=>by simp [RT.sv,RT.JI (q::r) a.2]
theorem Ii: ∀(n:Nat) {vs:List SV} {ps:List PV},qJ vs=alG ps-> ∃p q,ps=p++q/\qJ (vs.take n)=alG p/\qJ (vs.drop n)=alG q
 |0,vs,ps,h=>⟨[],ps,rfl,by simp [qJ],by simpa using h⟩
 |n+1,[],ps,h=>⟨[],ps,rfl,by simp [qJ],by simpa using h⟩
 |n+1,v::vs,ps,h=>by obtain ⟨p,qs,rfl,h1,h2⟩:=eX.1 h;obtain ⟨a,b,rfl,h3,h4⟩:=Ii n h2;exact ⟨p::a,b,rfl,by rw [aig];exact eX.2 ⟨p,a,rfl,h1,h3⟩,by simpa using h4⟩
def cA.int (k:IntKind):cA Int where
 enc n:=[.int k n]
 dec vs:=match vs with
  | .int l n::r=>bif fO l k then alG (n,r) else alH
  |_=>alH
 law:=fun {vs a rest ps} h hp=>by
  split at h
  · rename_i l n r
    cases hk:fO l k with
    |false=>rw [hk] at h;cases h
    |true=>rw [hk] at h;simp only [lc,AC,acl] at h;obtain ⟨rfl,rfl⟩:=h;obtain ⟨p,qs,rfl,h1,h2⟩:=eX.1 hp;rw [fE.1 hk] at h1;exact ⟨[p],qs,rfl,eX.2 ⟨p,[],rfl,h1,rfl⟩,h2⟩
  cases h
def cA.bool:cA Bool where
 enc n:=[.bool n]
 dec vs:=match vs with
  | .bool n::r=>alG (n,r)
  |_=>alH
 law:=fun {vs a rest ps} h hp=>by
  split at h
  · simp only [AC,acl] at h
    obtain ⟨rfl,rfl⟩:=h;obtain ⟨p,qs,rfl,h1,h2⟩:=eX.1 hp;exact ⟨[p],qs,rfl,eX.2 ⟨p,[],rfl,h1,rfl⟩,h2⟩
  cases h
def PG (r:List PT):SV->Option (List (RT r))
 | .sl q l=>sU q r l
 | .nil e c=>bif M2 e (alF r)&&!c then alG [] else alH
 |_=>alH
theorem Ij {r:List PT} {v:SV} {l:List (RT r)} {p:PV} (h:PG r v=alG l) (hp:sW v=alG p):sW (.sl r l)=alG p:=by
 cases v with
 |sl q m=>obtain ⟨rfl,h2,_⟩:=BQ h;rw [<- hp];simp only [sW,h2]
 |nil e c=>
  simp only [PG] at h;cases hc:(M2 e (alF r)&&!c) with
  |false=>rw [hc] at h;cases h
  |true=>rw [hc] at h;injection h with h;subst h;simp only [rc,aeF,ad5] at hc;obtain ⟨rfl,rfl⟩:=hc;rw [<- hp];rfl
 |_=>cases h
def cA.sl (r:List PT):cA (List (RT r)) where
 enc l:=[.sl r l]
 dec vs:=match vs with
  |v::rest=>match PG r v with
   |some l=>alG (l,rest)
   |none=>alH
  | []=>alH
 law:=fun {vs a rest ps} h hp=>by
  split at h
  · split at h
    · rename_i v r' x l hl
      simp only [AC,acl] at h;obtain ⟨rfl,rfl⟩:=h;obtain ⟨p,qs,rfl,h1,h2⟩:=eX.1 hp;exact ⟨[p],qs,rfl,eX.2 ⟨p,[],rfl,Ij hl h1,rfl⟩,h2⟩
    cases h
  cases h
def cA.row (r:List PT):cA (RT r) where
 enc:=RT.sv r
 dec vs:=match RT.of r (vs.take (alF r)) with
  |some a=>alG (a,vs.drop (alF r))
  |none=>alH
 law:=fun {vs a rest ps} h hp=>by
  split at h
  · rename_i x hx
    simp only [AC,acl] at h;obtain ⟨rfl,rfl⟩:=h;obtain ⟨p,q,rfl,h1,h2⟩:=Ii (alF r) hp;rw [RT.p5 hx] at h1;exact ⟨p,q,rfl,h1,h2⟩
  cases h
def cA.prod {α β:Type} (A:cA α) (B:cA β):cA (α×β) where
 enc p:=A.enc p.1++B.enc p.2
 dec vs:=match A.dec vs with
  |some p=>match B.dec p.2 with
   |some q=>alG ((p.1,q.1),q.2)
   |none=>alH
  |none=>alH
 law:=fun {vs a rest ps} h hp=>by
  split at h
  · rename_i p hA
    split at h
    · rename_i q hB
      simp only [AC,acl] at h;obtain ⟨rfl,rfl⟩:=h;obtain ⟨p1,p2,rfl,h1,h2⟩:=A.law (a:=p.1) (rest:=p.2) hA hp;obtain ⟨q1,q2,rfl,h3,h4⟩:=B.law (a:=q.1) (rest:=q.2) hB h2;exact ⟨p1++q1,q2,by simp,AS h1 h3,h4⟩
    cases h
  cases h
def cA.iso {α β:Type} (A:cA α) (f:α->β) (g:β->α) (h: ∀a,g (f a)=a):cA β where
 enc b:=A.enc (g b)
 dec vs:=match A.dec vs with
  |some p=>alG (f p.1,p.2)
  |none=>alH
 law:=fun {vs a rest ps} hd hp=>by
  split at hd
  · rename_i p hA
    simp only [AC,acl] at hd;obtain ⟨rfl,rfl⟩:=hd;rw [h];exact A.law hA hp
  cases hd
def Arg.int (k:IntKind):Arg Int where
 enc n:= .int k n
 dec v:=match v with
  | .int l n=>bif fO l k then alG n else alH
  |_=>alH
 law:=fun {v a p} h hp=>by
  split at h
  · rename_i l n
    cases hk:fO l k with
    |false=>rw [hk] at h;cases h
    |true=>rw [hk] at h;injection h with h;subst h;rw [fE.1 hk] at hp;exact hp
  cases h
def Arg.bool:Arg Bool where
 enc n:= .bool n
 dec v:=match v with
  | .bool n=>alG n
  |_=>alH
 law:=fun {v a p} h hp=>by
  split at h
  · injection h with h;subst h;exact hp
  cases h
def Arg.sl (r:List PT):Arg (List (RT r)) where
 enc l:= .sl r l
 dec:=PG r
 law:=Ij
def Arg.agg {α:Type} (A:cA α):Arg α where
 enc a:= .agg (A.enc a)
 dec v:=match v with
  | .agg cs=>match A.dec cs with
   |some p=>match p.2 with
    | []=>alG p.1
    |_=>alH
   |none=>alH
  |_=>alH
 law:=fun {v a p} h hp=>by
  split at h
  · rename_i cs
    split at h
    · rename_i q hA
      obtain ⟨x,rest⟩:=q;dsimp only at h;cases rest with
      |cons _ _=>cases h
      |nil=>
       injection h with h;subst h;simp only [sW] at hp;cases hc:qJ cs with
       |none=>rw [hc] at hp;cases hp
       |some l=>rw [hc] at hp;injection hp with hp;subst hp;obtain ⟨p1,p2,rfl,h1,h2⟩:=A.law hA hc;simp only [qJ,AC] at h2;subst h2;simp only [sW,h1,adc]
    cases h
  cases h
def Arg.ref {α:Type} (A:cA α):Arg α where
 enc a:= .bO (A.enc a) 0
 dec v:=match v with
  | .bO cs 0=>match A.dec cs with
   |some p=>match p.2 with
    | []=>alG p.1
    |_=>alH
   |none=>alH
  |_=>alH
 law:=fun {v a p} h hp=>by
  split at h
  · rename_i cs
    split at h
    · rename_i q hA
      obtain ⟨x,rest⟩:=q;dsimp only at h;cases rest with
      |cons _ _=>cases h
      |nil=>
       injection h with h;subst h;simp only [sW] at hp;cases hc:qJ cs with
       |none=>rw [hc] at hp;cases hp
       |some l=>rw [hc] at hp;injection hp with hp;subst hp;obtain ⟨p1,p2,rfl,h1,h2⟩:=A.law hA hc;simp only [qJ,AC] at h2;subst h2;simp only [sW,h1,adc]
    cases h
  cases h
def au.nil:au Unit where
 enc _:=[]
 dec vs:=match vs with
  | []=>alG ()
  |_=>alH
 law:=fun {vs a ps} h hp=>by
  split at h
  · exact hp
  cases h
def au.one {α:Type} (A:Arg α):au α where
 enc a:=[A.enc a]
 dec vs:=match vs with
  | [v]=>A.dec v
  |_=>alH
 law:=fun {vs a ps} h hp=>by
  split at h
  · obtain ⟨p,qs,rfl,h1,h2⟩:=eX.1 hp
    exact eX.2 ⟨p,qs,rfl,A.law h h1,h2⟩
  cases h
def au.cons {α β:Type} (A:Arg α) (B:au β):au (α×β) where
 enc a:=A.enc a.1::B.enc a.2
 dec vs:=match vs with
  |v::r=>match A.dec v with
   |some x=>match B.dec r with
    |some y=>alG (x,y)
    |none=>alH
   |none=>alH
  | []=>alH
 law:=fun {vs a ps} h hp=>by
  split at h
  · split at h
    · rename_i x hx
      split at h
      · rename_i y hy
        injection h with h;subst h;obtain ⟨p,qs,rfl,h1,h2⟩:=eX.1 hp;exact eX.2 ⟨p,qs,rfl,A.law hx h1,B.law hy h2⟩
      cases h
    cases h
  cases h
def Arg.cj {α:Type} (A:au α):Arg α where
 enc a:= .cj (A.enc a)
 dec v:=match v with
  | .cj vs=>A.dec vs
  |_=>alH
 law:=fun {v a p} h hp=>by
  split at h
  · rename_i vs
    simp only [sW] at hp;cases hc:qJ vs with
    |none=>rw [hc] at hp;cases hp
    |some l=>rw [hc] at hp;injection hp with hp;subst hp;simp only [sW,A.law h hc]
  cases h
def Arg.eO {α:Type} (f:FuncId) (A:au α):Arg α where
 enc a:= .eO f [] (A.enc a)
 dec v:=match v with
  | .eO g [] b=>bif M2 g f then A.dec b else alH
  |_=>alH
 law:=fun {v a p} h hp=>by
  split at h
  · rename_i g b
    cases hg:M2 g f with
    |false=>rw [hg] at h;cases h
    |true=>
     rw [hg] at h;have:=pp hg;subst this;simp only [sW,qJ] at hp ⊢;cases hc:qJ b with
     |none=>rw [hc] at hp;cases hp
     |some l=>rw [hc] at hp;rw [A.law h hc];exact hp
  cases h
def tR.clone (r:List PT):tR:=⟨.one (.sl r),.sl r,bV,.own,alJ⟩
def pD (a b c:Int):Option (Int×Int):=bif alK (0<=a)&&alK (0<=b)&&alK (0<=c)&&alK (c<=1) then alG ((a+b+c)%18446744073709551616,(a+b+c) / 18446744073709551616) else alH
def tR.PH:tR:=⟨.cons (.int .u64) (.cons (.int .u64) (.one (.int .u64))),.cj (.cons (.int .u64) (.one (.int .u64))),fun a=>pD a.1 a.2.1 a.2.2,.pure,alJ⟩
def Lz:List (Nat×tR)->FuncId->List tR
 | [],_=>[]
 |(g,c)::r,f=>bif M2 g f then c::Lz r f else Lz r f
def LA:List (Nat×dQ)->FuncId->List dQ
 | [],_=>[]
 |(g,c)::r,f=>bif M2 g f then c::LA r f else LA r f
def JJ:List (Nat×Cd)->FuncId->Option Cd
 | [],_=>alH
 |(g,c)::r,f=>bif M2 g f then alG c else JJ r f
def iE (lp:Option Nat) (c:List (Nat×tR)) (p:List (Nat×dQ)) (x:List (Nat×Cd)) (rk:List (Nat×List PT)):Ctx:=⟨lp,Lz c,LA p,JJ x,rk⟩
end Go.Vm
/- What a typed value says of a value of the logical machine. -/
namespace Go.Vm
def OwnAt (s:List SB) (t e n:Nat):Prop:=(∃r l,s[t]? =alG (.arr r l)/\e=alF r/\n=alF l)\/s[t]? =alG .dead
def Ad (s:List SB) (t e:Nat):Prop:=(∃r l,s[t]? =alG (.arr r l)/\e=alF r)\/s[t]? =alG .dead\/(∃cs,s[t]? =alG (.box cs)/\e=1)
def TK (s:List SB) (t:Nat) (r:List PT) (i:Int) (a:RT r):Prop:=(∃l,s[t]? =alG (.arr r l)/\aH l i=alG a)\/s[t]? =alG .dead
def afj (s:List SB) (t:Nat) (i:Int):Prop:=(∃r l,s[t]? =alG (.arr r l)/\(aH l i).isSome=alI)\/s[t]? =alG .dead
mutual
def R (s:List SB):SV->PV->Prop
 | .jk,_=>True
 | .undef,v=>v= .undef
 | .jR,v=>v= .jR
 | .eg,v=>v= .eg
 | .int k n,v=>v= .int k n
 | .bool b,v=>v= .bool b
 | .str x,v=>v= .str x
 | .agg cs,v=> ∃ps,v= .agg ps/\RL s cs ps
 | .cj cs,v=> ∃ps,v= .cj ps/\RL s cs ps
 | .sl r l,v=>v= .sl (alF r) alJ (l.map (RT.pv r))
 | .nil e c,v=>v= .sl e c []
 | .own t ex,v=> ∃e n,v= .own t e 0 n n ex/\OwnAt s t e n
 | .pre t len cap ex,v=> ∃e,v= .own t e 0 len cap ex/\Ad s t e
 | .part t off len cap ex,v=> ∃e,v= .own t e off len cap ex/\Ad s t e
 | .pa t r i a off,v=>v= .ptr t (alF r) i.toNat off/\TK s t r i a
 | .pb t i off,v=> ∃e,v= .ptr t e i.toNat off/\afj s t i
 | .bp t n off,v=>v= .ptr t n 0 off
 | .bO cs off,v=> ∃ps,v= .bO ps off/\RL s cs ps
 | .eO f a b,v=> ∃pa pb,v= .eO f pa pb/\RL s a pa/\RL s b pb
 | .mp t,v=>v= .mp t
def RL (s:List SB):List SV->List PV->Prop
 | [],ps=>ps=[]
 |x::xs,ps=> ∃p q,ps=p::q/\R s x p/\RL s xs q
end
def tT:List Int->PV
 | [a]=> .int .i64 a
 |l=> .agg (l.map (.int .i64))
def BS (k:List Int):PV×PV:=(tT k,.bool alI)
def Eh (p:PT) (a:RT [.i .i64,p]):PV×PV:=(.int .i64 a.1,p.pv a.2)
def RB (s:List SB):SB->ky->Prop
 | .arr r l,b=>b= .arr (alF r) (l.map (RT.pv r))
 | .box cs,b=> ∃ps,b= .box ps/\RL s cs ps
 | .set l,b=>b= .map (l.map BS)
 | .bA p l,b=>b= .map (l.map (Eh p))
 | .dead,b=>b= .dead
structure cN (s:List SB) (p:cK):Prop where
 len:(alF p)=alF s
 at_: ∀(t:Nat) (b:SB),s[t]? =alG b-> ∃q,p[t]? =alG q/\RB s b q
def ek (s:List SB):SE->Env->Prop
 | [],e=>e=[]
 |(t,v)::r,e=> ∃p q,e=(t,p)::q/\R s v p/\ek s r q
structure Ae (st:qH) (p:St):Prop where
 env:ek st.aD st.env p.env
 aD:cN st.aD p.aD
 fz:p.fz=st.fz
 kn:p.kn=st.kn
theorem mR: ∀(s l:List SB),apS s l=s++l
 | [],_=>rfl
 |b::r,l=>by simp [apS,mR r l]
theorem BT: ∀(s:List SB) (t:Nat) (b:SB),TF s t b=s.set t b
 | [],_,_=>by simp [TF]
 |_::_,0,_=>rfl
 |x::r,n+1,b=>by simp [TF,BT r n b]
theorem RL.nil {s:List SB}:RL s [] []:=rfl
theorem RL.cons {s:List SB} {x:SV} {xs:List SV} {p:PV} {q:List PV} (h:R s x p) (k:RL s xs q):RL s (x::xs) (p::q):=⟨p,q,rfl,h,k⟩
theorem RL.cons_inv {s:List SB} {x:SV} {xs:List SV} {ps:List PV} (h:RL s (x::xs) ps): ∃p q,ps=p::q/\R s x p/\RL s xs q:=h
theorem RL.ny {s:List SB}: ∀{xs:List SV} {ps:List PV},RL s xs ps->alF ps=alF xs
 | [],ps,h=>by rw [show ps=[] from h];rfl
 |x::xs,ps,h=>by obtain ⟨p,q,rfl,_,h2⟩:=h.cons_inv;simp [h2.ny]
theorem RL.append {s:List SB}: ∀{xs:List SV} {ps:List PV},RL s xs ps-> ∀{ys:List SV} {qs:List PV},RL s ys qs->RL s (xs++ys) (ps++qs)
 | [],ps,h,_,_,k=>by rw [show ps=[] from h];exact k
 |x::xs,ps,h,_,_,k=>by obtain ⟨p,q,rfl,h1,h2⟩:=h.cons_inv;exact RL.cons h1 (h2.append k)
theorem RL.take {s:List SB}: ∀{xs:List SV} {ps:List PV},RL s xs ps-> ∀n,RL s (xs.take n) (ps.take n)
 | [],ps,h,n=>by rw [show ps=[] from h];simp;exact RL.nil
 |x::xs,ps,h,0=>by simp;exact RL.nil
 |x::xs,ps,h,n+1=>by obtain ⟨p,q,rfl,h1,h2⟩:=h.cons_inv;exact RL.cons h1 (h2.take n)
theorem RL.drop {s:List SB}: ∀{xs:List SV} {ps:List PV},RL s xs ps-> ∀n,RL s (xs.drop n) (ps.drop n)
 | [],ps,h,n=>by rw [show ps=[] from h];simp;exact RL.nil
 |x::xs,ps,h,0=>h
 |x::xs,ps,h,n+1=>by obtain ⟨p,q,rfl,h1,h2⟩:=h.cons_inv;exact h2.drop n
theorem RL.nth {s:List SB}: ∀{xs:List SV} {ps:List PV},RL s xs ps-> ∀{n:Nat} {v:SV},Vm.nth xs n=alG v-> ∃p,ps[n]? =alG p/\R s v p
 | [],_,_,_,_,e=>by cases e
 |x::xs,ps,h,0,v,e=>by obtain ⟨p,q,rfl,h1,_⟩:=h.cons_inv;injection e with e;subst e;exact ⟨p,rfl,h1⟩
 |x::xs,ps,h,n+1,v,e=>by obtain ⟨p,q,rfl,_,h2⟩:=h.cons_inv;obtain ⟨p',h3,h4⟩:=h2.nth (n:=n) e;exact ⟨p',by simpa using h3,h4⟩
mutual
theorem NY (s:List SB): ∀v:PV,R s (WT v) v
 | .undef=>rfl
 | .jR=>rfl
 | .eg=>rfl
 | .int _ _=>rfl
 | .bool _=>rfl
 | .str _=>rfl
 | .agg cs=>⟨cs,rfl,wR s cs⟩
 | .cj cs=>⟨cs,rfl,wR s cs⟩
 | .sl e c rows=>by
  cases rows with
  |nil=>exact rfl
  |cons _ _=>trivial
 | .eO f a b=>⟨a,b,rfl,wR s a,wR s b⟩
 | .own .. =>trivial
 | .ptr .. =>trivial
 | .bO .. =>trivial
 | .mp _=>trivial
theorem wR (s:List SB): ∀l:List PV,RL s (BJ l) l
 | []=>rfl
 |x::xs=>RL.cons (NY s x) (wR s xs)
end
theorem ek.lk {s:List SB}: ∀{e:SE} {p:Env},ek s e p-> ∀t,R s (Hm t e) (Vm.lk t p)
 | [],p,h,t=>by rw [show p=[] from h];rfl
 |(u,v)::r,p,h,t=>by
  obtain ⟨q,qs,rfl,h1,h2⟩:=h;simp only [Hm,Vm.lk];cases hb:M2 u t with
  |true=>exact h1
  |false=>exact ek.lk h2 t
theorem ek.AO {s:List SB}: ∀{e:SE} {p:Env},ek s e p-> ∀{t:Nat} {v:SV},R s v (Vm.lk t p)->ek s (Vm.AO t v e) p
 | [],p,h,t,v,_=>h
 |(u,x)::r,p,h,t,v,hv=>by
  obtain ⟨q,qs,rfl,h1,h2⟩:=h;simp only [Vm.AO];simp only [Vm.lk] at hv;cases hb:M2 u t with
  |true=>rw [hb] at hv;exact ⟨q,qs,rfl,hv,h2⟩
  |false=>rw [hb] at hv;exact ⟨q,qs,rfl,h1,ek.AO h2 hv⟩
theorem dX {s:List SB} {e:SE} {p:Env} (h:ek s e p): ∀x:fS,R s (cf e x) (x.ev p)
 | .t n=>h.lk n
 | .c v=>NY s v
theorem zt {s:List SB} {e:SE} {p:Env} (h:ek s e p): ∀l:List fS,RL s (jW e l) (EH p l)
 | []=>rfl
 |x::xs=>RL.cons (dX h x) (zt h xs)
def Fr (bad:List Nat) (s s':List SB):Prop:= ∀(t:Nat) (b:SB),s[t]? =alG b->match b with
 | .arr r l=>(∃l',s'[t]? =alG (.arr r l')/\alF l'=alF l/\(has bad t=alJ->l'=l))\/s'[t]? =alG .dead
 | .dead=>s'[t]? =alG .dead
 | .box _=>(∃cs,s'[t]? =alG (.box cs))\/s'[t]? =alG .dead
 |_=>True
theorem Fr.refl (bad:List Nat) (s:List SB):Fr bad s s:=fun t b h=>by
 cases b with
 |arr r l=>exact .inl ⟨l,h,rfl,fun _=>rfl⟩
 |dead=>exact h
 |box cs=>exact .inl ⟨cs,h⟩
 |_=>trivial
theorem Fr.app (bad:List Nat) (s l:List SB):Fr bad s (s++l):=fun t b h=>by
 have h':(s++l)[t]? =alG b:=by have:=(ut.1 h).1;rw [v6 this];exact h
 cases b with
 |arr r l=>exact .inl ⟨l,h',rfl,fun _=>rfl⟩
 |dead=>exact h'
 |box cs=>exact .inl ⟨cs,h'⟩
 |_=>trivial
theorem Fr.trans {bad:List Nat} {a b c:List SB} (h:Fr bad a b) (k:Fr bad b c):Fr bad a c:=fun t x hx=>by
 have h1:=h t x hx;cases x with
 |arr r l=>
  rcases h1 with ⟨l',h2,h3,h4⟩|h2
  · have k1:=k t _ h2
    rcases k1 with ⟨l2,k2,k3,k4⟩|k2
    · exact .inl ⟨l2,k2,k3.trans h3,fun hb=>(k4 hb).trans (h4 hb)⟩
    exact .inr k2
  exact .inr (k t _ h2)
 |dead=>exact k t _ h1
 |box cs=>
  rcases h1 with ⟨c2,h2⟩|h2
  · exact k t _ h2
  exact .inr (k t _ h2)
 |_=>trivial
theorem DT {α:Type} {l m:List α} {i:Int} (h:(aH l i).isSome=alI) (hl:(alF m)=alF l):(aH m i).isSome=alI:=by
 cases i with
 |ofNat n=>simp only [aH] at h ⊢;rw [aeS] at h;obtain ⟨a,ha⟩:=h;have:=(ut.1 ha).1;rw [Do (by omega)];rfl
 |negSucc n=>simp [aH] at h
mutual
theorem R.fr {bad:List Nat} {s s':List SB} (hf:Fr bad s s'): ∀{v:SV} {p:PV},R s v p->R s' (We bad v) p
 | .jk,_,_=>trivial
 | .undef,_,h=>h
 | .jR,_,h=>h
 | .eg,_,h=>h
 | .int _ _,_,h=>h
 | .bool _,_,h=>h
 | .str _,_,h=>h
 | .agg cs,_,h=>by obtain ⟨ps,rfl,h⟩:=h;exact ⟨ps,rfl,RL.fr hf h⟩
 | .cj cs,_,h=>by obtain ⟨ps,rfl,h⟩:=h;exact ⟨ps,rfl,RL.fr hf h⟩
 | .sl _ _,_,h=>h
 | .nil _ _,_,h=>h
 | .own t ex,_,h=>by
  obtain ⟨e,n,rfl,h⟩:=h;refine ⟨e,n,rfl,?_⟩;rcases h with ⟨r,l,h1,h2,h3⟩|h1
  · rcases hf t _ h1 with ⟨l',k1,k2,_⟩|k1
    · exact .inl ⟨r,l',k1,h2,by rw [h3,k2]⟩
    exact .inr k1
  exact .inr (hf t _ h1)
 | .pre t len cap ex,_,h=>by
  obtain ⟨e,rfl,h⟩:=h;refine ⟨e,rfl,?_⟩;rcases h with ⟨r,l,h1,h2⟩|h1|⟨cs,h1,h2⟩
  · rcases hf t _ h1 with ⟨l',k1,_,_⟩|k1
    · exact .inl ⟨r,l',k1,h2⟩
    exact .inr (.inl k1)
  · exact .inr (.inl (hf t _ h1))
  rcases hf t _ h1 with ⟨c2,k1⟩|k1
  · exact .inr (.inr ⟨c2,k1,h2⟩)
  exact .inr (.inl k1)
 | .part t off len cap ex,_,h=>by
  obtain ⟨e,rfl,h⟩:=h;refine ⟨e,rfl,?_⟩;rcases h with ⟨r,l,h1,h2⟩|h1|⟨cs,h1,h2⟩
  · rcases hf t _ h1 with ⟨l',k1,_,_⟩|k1
    · exact .inl ⟨r,l',k1,h2⟩
    exact .inr (.inl k1)
  · exact .inr (.inl (hf t _ h1))
  rcases hf t _ h1 with ⟨c2,k1⟩|k1
  · exact .inr (.inr ⟨c2,k1,h2⟩)
  exact .inr (.inl k1)
 | .pa t r i a off,_,h=>by
  obtain ⟨rfl,h⟩:=h;simp only [We];cases hb:has bad t with
  |true=>
   refine ⟨_,rfl,?_⟩;rcases h with ⟨l,h1,h2⟩|h1
   · rcases hf t _ h1 with ⟨l',k1,k2,_⟩|k1
     · exact .inl ⟨r,l',k1,DT (by rw [h2];rfl) k2⟩
     exact .inr k1
   exact .inr (hf t _ h1)
  |false=>
   refine ⟨rfl,?_⟩;rcases h with ⟨l,h1,h2⟩|h1
   · rcases hf t _ h1 with ⟨l',k1,_,k3⟩|k1
     · exact .inl ⟨l',k1,by rw [k3 hb];exact h2⟩
     exact .inr k1
   exact .inr (hf t _ h1)
 | .pb t i off,_,h=>by
  obtain ⟨e,rfl,h⟩:=h;refine ⟨e,rfl,?_⟩;rcases h with ⟨r,l,h1,h2⟩|h1
  · rcases hf t _ h1 with ⟨l',k1,k2,_⟩|k1
    · exact .inl ⟨r,l',k1,DT h2 k2⟩
    exact .inr k1
  exact .inr (hf t _ h1)
 | .bp _ _ _,_,h=>h
 | .bO cs off,_,h=>by obtain ⟨ps,rfl,h⟩:=h;exact ⟨ps,rfl,RL.fr hf h⟩
 | .eO f a b,_,h=>by obtain ⟨pa,pb,rfl,h1,h2⟩:=h;exact ⟨pa,pb,rfl,RL.fr hf h1,RL.fr hf h2⟩
 | .mp _,_,h=>h
theorem RL.fr {bad:List Nat} {s s':List SB} (hf:Fr bad s s'): ∀{v:List SV} {p:List PV},RL s v p->RL s' (TE bad v) p
 | [],_,h=>h
 |x::xs,_,h=>by obtain ⟨p,q,rfl,h1,h2⟩:=h.cons_inv;exact RL.cons (R.fr hf h1) (RL.fr hf h2)
end
mutual
theorem PI: ∀v:SV,We [] v=v
 | .jk| .undef| .jR| .eg| .int _ _| .bool _| .str _| .sl _ _| .nil _ _| .own _ _| .pre _ _ _ _| .part _ _ _ _ _| .pb _ _ _| .bp _ _ _| .mp _=>rfl
 | .agg cs=>by simp only [We,uo cs]
 | .cj cs=>by simp only [We,uo cs]
 | .bO cs _=>by simp only [We,uo cs]
 | .eO _ a b=>by simp only [We,uo a,uo b]
 | .pa t r i a off=>by simp [We,has]
theorem uo: ∀v:List SV,TE [] v=v
 | []=>rfl
 |x::xs=>by simp only [TE,PI x,uo xs]
end
theorem R.ext {s s':List SB} (hf:Fr [] s s') {v:SV} {p:PV} (h:R s v p):R s' v p:=by
 have:=R.fr hf h
 rwa [PI] at this
theorem RL.ext {s s':List SB} (hf:Fr [] s s') {v:List SV} {p:List PV} (h:RL s v p):RL s' v p:=by
 have:=RL.fr hf h
 rwa [uo] at this
theorem RB.fr {bad:List Nat} {s s':List SB} (hf:Fr bad s s') {b:SB} {p:ky} (h:RB s b p):RB s' (WY bad b) p:=by
 cases b with
 |box cs=>obtain ⟨ps,rfl,h⟩:=h;exact ⟨ps,rfl,RL.fr hf h⟩
 |_=>exact h
theorem RB.ext {s s':List SB} (hf:Fr [] s s') {b:SB} {p:ky} (h:RB s b p):RB s' b p:=by
 cases b with
 |box cs=>obtain ⟨ps,rfl,h⟩:=h;exact ⟨ps,rfl,RL.ext hf h⟩
 |_=>exact h
theorem ek.fr {bad:List Nat} {s s':List SB} (hf:Fr bad s s'): ∀{e:SE} {p:Env},ek s e p->ek s' (dgE bad e) p
 | [],_,h=>h
 |(t,v)::r,_,h=>by obtain ⟨p,q,rfl,h1,h2⟩:=h;exact ⟨p,q,rfl,R.fr hf h1,ek.fr hf h2⟩
theorem ek.ext {s s':List SB} (hf:Fr [] s s'): ∀{e:SE} {p:Env},ek s e p->ek s' e p
 | [],_,h=>h
 |(t,v)::r,_,h=>by obtain ⟨p,q,rfl,h1,h2⟩:=h;exact ⟨p,q,rfl,R.ext hf h1,ek.ext hf h2⟩
theorem cN.app {s:List SB} {p:cK} (h:cN s p) {l:List SB} {q:cK} (hl:(alF q)=alF l) (hb: ∀(j:Nat) (b:SB),l[j]? =alG b-> ∃x,q[j]? =alG x/\RB (s++l) b x):cN (s++l) (p++q) where
 len:=by simp [h.len,hl]
 at_:=fun t b ht=>by
  rcases aeb t (alF s) with dV|V8
  · rw [v6 dV] at ht
    obtain ⟨x,h1,h2⟩:=h.at_ t b ht;exact ⟨x,by rw [v6 (by rw [h.len];exact dV)];exact h1,h2.ext (Fr.app [] s l)⟩
  rw [ww V8] at ht
  obtain ⟨x,h1,h2⟩:=hb _ b ht;exact ⟨x,by rw [ww (by rw [h.len];exact V8),h.len];exact h1,h2⟩
theorem sd (ts:List Nat): ∀(s:List SB) (t:Nat),(CC ts s)[t]? =(s[t]?).map (WY ts)
 | [],t=>by simp [CC]
 |b::r,0=>by simp [CC]
 |b::r,t+1=>by simp [CC,sd ts r t]
theorem wS (ts:List Nat): ∀(s:List SB),(CC ts s).length=alF s
 | []=>rfl
 |b::r=>by simp [CC,wS ts r]
theorem Fr.dg {bad ts:List Nat} {s s':List SB} (h:Fr bad s s'):Fr bad s (CC ts s'):=fun t b hb=>by
 have h1:=h t b hb;cases b with
 |arr r l=>
  rcases h1 with ⟨l',h2,h3,h4⟩|h2
  · exact .inl ⟨l',by rw [sd,h2];rfl,h3,h4⟩
  exact .inr (by rw [sd,h2];rfl)
 |dead=>show (CC ts s')[t]? =_;rw [sd,h1];rfl
 |box cs=>
  rcases h1 with ⟨c2,h2⟩|h2
  · exact .inl ⟨TE ts c2,by rw [sd,h2];rfl⟩
  exact .inr (by rw [sd,h2];rfl)
 |_=>trivial
theorem Ik {s:List SB}: ∀(r:List PT) (a:RT r),RL s (RT.sv r a) (RT.pv r a)
 | [],_=>rfl
 | [p],a=>by refine RL.cons ?_ RL.nil;cases p<;>rfl
 |p::q::r,a=>by refine RL.cons ?_ (Ik (q::r) a.2);cases p<;>rfl
theorem zu {s:List SB}: ∀(r:List PT) (a:RT r) {ps:List PV},RL s (RT.sv r a) ps->ps=RT.pv r a
 | [],_,ps,h=>h
 | [p],a,ps,h=>by obtain ⟨x,q,rfl,h1,h2⟩:=h.cons_inv;have Ra:q=[]:=h2;subst Ra;cases p<;>(have M8:=h1;simp only [PT.sv,R] at M8;rw [M8];rfl)
 |p::q::r,a,ps,h=>by obtain ⟨x,qs,rfl,h1,h2⟩:=h.cons_inv;rw [zu (q::r) a.2 h2];cases p<;>(have M8:=h1;simp only [PT.sv,R] at M8;rw [M8];rfl)
theorem RT.plain: ∀(r:List PT) (a:RT r),(RT.pv r a).all PV.plain=alI
 | [],_=>rfl
 | [p],a=>by cases p<;>rfl
 |p::q::r,a=>by have:=RT.plain (q::r) a.2;cases p<;>(simp only [RT.pv,ajg,this,aex];rfl)
theorem R.cells {s:List SB} {v:SV} {p:PV} (h:R s v p) (hj:v≠ .jk):RL s v.cells p.cells:=by
 cases v with
 |jk=>exact absurd rfl hj
 |agg cs=>obtain ⟨ps,rfl,h⟩:=h;exact h
 |undef=>rw [show p= .undef from h];exact RL.cons rfl RL.nil
 |jR=>rw [show p= .jR from h];exact RL.cons rfl RL.nil
 |eg=>rw [show p= .eg from h];exact RL.cons rfl RL.nil
 |int k n=>rw [show p= .int k n from h];exact RL.cons rfl RL.nil
 |bool b=>rw [show p= .bool b from h];exact RL.cons rfl RL.nil
 |str x=>rw [show p= .str x from h];exact RL.cons rfl RL.nil
 |sl r l=>rw [show p=_ from h];exact RL.cons rfl RL.nil
 |nil e c=>rw [show p=_ from h];exact RL.cons rfl RL.nil
 |bp t n o=>rw [show p=_ from h];exact RL.cons rfl RL.nil
 |mp t=>rw [show p=_ from h];exact RL.cons rfl RL.nil
 |cj cs=>obtain ⟨ps,rfl,h⟩:=h;exact RL.cons ⟨ps,rfl,h⟩ RL.nil
 |own t ex=>obtain ⟨e,n,rfl,h⟩:=h;exact RL.cons ⟨e,n,rfl,h⟩ RL.nil
 |pre t a b c=>obtain ⟨e,rfl,h⟩:=h;exact RL.cons ⟨e,rfl,h⟩ RL.nil
 |part t o a b c=>obtain ⟨e,rfl,h⟩:=h;exact RL.cons ⟨e,rfl,h⟩ RL.nil
 |pa t r i a o=>obtain ⟨rfl,h⟩:=h;exact RL.cons ⟨rfl,h⟩ RL.nil
 |pb t i o=>obtain ⟨e,rfl,h⟩:=h;exact RL.cons ⟨e,rfl,h⟩ RL.nil
 |bO cs o=>obtain ⟨ps,rfl,h⟩:=h;exact RL.cons ⟨ps,rfl,h⟩ RL.nil
 |eO f a b=>obtain ⟨pa,pb,rfl,h⟩:=h;exact RL.cons ⟨pa,pb,rfl,h⟩ RL.nil
theorem R.qu {s:List SB} {v:SV} {p:PV} (h:R s v p) (ho:v.qu=alI):p.qu=alI:=by
 cases v with
 |jk|undef|jR|agg _|cj _=>cases ho
 |eg|int _ _|bool _|str _|sl _ _|nil _ _|bp _ _ _|mp _=>rw [show p=_ from h];rfl
 |own t ex=>obtain ⟨e,n,rfl,h⟩:=h;rfl
 |pre t a b c=>obtain ⟨e,rfl,h⟩:=h;rfl
 |part t o a b c=>obtain ⟨e,rfl,h⟩:=h;rfl
 |pa t r i a o=>obtain ⟨rfl,h⟩:=h;rfl
 |pb t i o=>obtain ⟨e,rfl,h⟩:=h;rfl
 |bO cs o=>obtain ⟨ps,rfl,h⟩:=h;rfl
 |eO f a b=>obtain ⟨pa,pb,rfl,h⟩:=h;rfl
theorem RL.yu {s:List SB}: ∀{cs:List SV} {ps:List PV},RL s cs ps->Vm.yu cs=alI->ps.all PV.qu=alI
 | [],ps,h,_=>by rw [show ps=[] from h];rfl
 |x::xs,ps,h,ho=>by obtain ⟨p,q,rfl,h1,h2⟩:=h.cons_inv;simp only [Vm.yu,rc] at ho;simp only [ajg,rc];exact ⟨h1.qu ho.1,h2.yu ho.2⟩
theorem R.stored {s:List SB} {v:SV} {p:PV} {w:List SV} (h:R s v p) (hs:v.stored=alG w): ∃q,p.stored=alG q/\RL s w q:=by
 unfold SV.stored at hs;cases ha:Vm.yu v.cells with
 |false=>rw [ha] at hs;cases hs
 |true=>
  rw [ha] at hs;injection hs with hs;subst hs;have hj:v≠ .jk:=by intro e;subst e;cases ha
  have hc:=h.cells hj;exact ⟨p.cells,by unfold PV.stored;rw [ls (hc.yu ha)],hc⟩
theorem R.ofRow {s:List SB} {v:SV} {p:PV} {r:List PT} {a:RT r} (h:R s v p) (hr:RT.of r v.cells=alG a):p.cM=alG (RT.pv r a)/\alF v.cells=(alF r):=by
 have hc:=RT.p5 hr;have hl:(alF v.cells)=(alF r):=by rw [hc,RT.JI]
 refine ⟨?_,hl⟩;have hj:v≠ .jk:=by
  intro e;subst e;cases r with
  |nil=>simp [SV.cells,RT.of] at hr
  |cons p q=>cases q with
   |nil=>cases p<;>simp [SV.cells,RT.of,PT.of] at hr
   |cons _ _=>simp only [SV.cells,RT.of] at hr;split at hr<;>cases hr<;>(rename_i x y h1 h2;simp at h2)
 have h1:=h.cells hj;rw [hc] at h1;have h2:=zu r a h1;unfold PV.cM;rw [h2,ls (RT.plain r a)]
theorem uq {s:List SB} {agg:Option Nat} {off:Nat} {cs:List SV} {ps:List PV} {v:SV} (h:RL s cs ps) (hp:z8 agg off cs=alG v): ∃p,part agg off ps=alG p/\R s v p:=by
 cases agg with
 |none=>obtain ⟨p,h1,h2⟩:=h.nth hp;exact ⟨p,h1,h2⟩
 |some n=>
  simp only [z8] at hp;cases hb:IR (off+n) (alF cs) with
  |false=>rw [hb] at hp;cases hp
  |true=>
   rw [hb] at hp;injection hp with hp;subst hp;have:off+n<=(alF ps):=by rw [h.ny];exact PP hb
   exact ⟨.agg ((ps.drop off).take n),by simp only [part,ls this],_,rfl,(h.drop off).take n⟩
theorem zw {s:List SB} {off:Nat} {new old:List SV} {pn po:List PV} (h:RL s new pn) (k:RL s old po):RL s (pZ off new old) (ou off pn po):=by unfold pZ ou;rw [h.ny];exact ((k.take off).append h).append (k.drop _)
theorem PJ {s:List SB} {ps:cK} {v:SV} {p:PV} {r:List PT} {l:List (RT r)} (hs:cN s ps) (h:R s v p) (hc:Aa s v=alG ⟨r,l⟩):
 rowsOf ps (alF r) p=alG (l.map (RT.pv r))/\jg p=wO v:=by
 cases v with
 |sl q m=>
  have CO:(⟨q,m⟩:Rows)=⟨r,l⟩:=by injection hc
  cases CO;rw [show p=_ from h];refine ⟨?_,rfl⟩;cases l with
  |nil=>rfl
  |cons a l=>simp [rowsOf]
 |own t ex=>
  simp only [Aa,cC] at hc;split at hc
  · rename_i q m cy
    have CO:(⟨q,m⟩:Rows)=⟨r,l⟩:=by injection hc
    cases CO;obtain ⟨e,n,rfl,dm⟩:=h;rcases dm with ⟨q',m',h1,rfl,rfl⟩|h1
    · rw [cy] at h1
      injection h1 with h1;cases h1;obtain ⟨b,h2,h3⟩:=hs.at_ t _ cy;rw [show b=_ from h3] at h2;refine ⟨?_,rfl⟩;simp only [rowsOf,adB,if_true,h2,adK];rw [adI (by simp)]
    rw [cy] at h1;cases h1
  cases hc
 |pre t len cap ex=>
  simp only [Aa,cC] at hc;split at hc
  · rename_i q m cy
    have CO:(⟨q,m.take len⟩:Rows)=⟨r,l⟩:=by injection hc
    cases CO;obtain ⟨e,rfl,dm⟩:=h;rcases dm with ⟨q',m',h1,rfl⟩|h1|⟨_,h1,_⟩
    · rw [cy] at h1
      injection h1 with h1;cases h1;obtain ⟨b,h2,h3⟩:=hs.at_ t _ cy;rw [show b=_ from h3] at h2;refine ⟨?_,rfl⟩;simp only [rowsOf,adB,if_true,h2];simp
    · rw [cy] at h1;cases h1
    rw [cy] at h1;cases h1
  cases hc
 |part t off len cap ex=>
  simp only [Aa,cC] at hc;split at hc
  · rename_i q m cy
    have CO:(⟨q,(m.drop off).take len⟩:Rows)=⟨r,l⟩:=by injection hc
    cases CO;obtain ⟨e,rfl,dm⟩:=h;rcases dm with ⟨q',m',h1,rfl⟩|h1|⟨_,h1,_⟩
    · rw [cy] at h1
      injection h1 with h1;cases h1;obtain ⟨b,h2,h3⟩:=hs.at_ t _ cy;rw [show b=_ from h3] at h2;refine ⟨?_,rfl⟩;simp only [rowsOf,adB,if_true,h2];simp
    · rw [cy] at h1;cases h1
    rw [cy] at h1;cases h1
  cases hc
 |_=>cases hc
end Go.Vm
/- Operation by operation: what the typed machine does, the logical machine does; the easy ones. -/
namespace Go.Vm
structure Good (s:List SB) (ps:cK) (sr:gp) (pr:ov):Prop where
 rd:pr.rd=sr.rd
 fr:pr.fr=sr.fr
 wr:pr.wr.map (·.1)=yz sr.wr
 nw:wD pr.wr=alI
 nl:(alF pr.news)=alF sr.news
 aD:cN (sr.nV s) (KL (gC pr.wr ps) pr.news)
 v:R (sr.nV s) sr.v pr.v
 fra:Fr (yz sr.wr) s (sr.nV s)
section
variable {s : List SB} {ps : cK}
theorem Good.val (hS:cN s ps) {v:SV} {p:PV} {rd fr:List Nat} (hv:R s v p):Good s ps {v,rd,fr} {v:=p,rd,fr} where
 rd:=rfl
 fr:=rfl
 wr:=rfl
 nw:=rfl
 nl:=rfl
 aD:=by simp only [gp.nV,mR,adc,gC,KL];exact hS
 v:=by simp only [gp.nV,mR,adc];exact hv
 fra:=by simp only [gp.nV,mR,adc];exact Fr.refl _ _
theorem Good.news (hS:cN s ps) {v:SV} {p:PV} {l:List SB} {q:cK} {rd:List Nat} (hl:(alF q)=alF l) (hb: ∀(j:Nat) (b:SB),l[j]? =alG b-> ∃x,q[j]? =alG x/\RB (s++l) b x) (hv:R (s++l) v p):
 Good s ps {v,news:=l,rd} {v:=p,news:=q,rd} where
 rd:=rfl
 fr:=rfl
 wr:=rfl
 nw:=rfl
 nl:=hl
 aD:=by simp only [gp.nV,mR,gC,rR];exact hS.app hl hb
 v:=by simp only [gp.nV,mR];exact hv
 fra:=by simp only [gp.nV,mR];exact Fr.app _ _ _
theorem Good.new (hS:cN s ps) {v:SV} {p:PV} {b:SB} {q:ky} {rd:List Nat} (hb:RB (s++[b]) b q) (hv:R (s++[b]) v p):Good s ps {v,news:=[b],rd} {v:=p,news:=[q],rd}:=
 Good.news hS rfl (fun j x h=>by
  cases j with
  |zero=>simp at h;subst h;exact ⟨q,rfl,hb⟩
  |succ j=>simp at h) hv
def PK (b0 b:SB):Prop:=
 match b0 with
 | .arr r l=>(∃l',b= .arr r l'/\alF l'=alF l)\/b= .dead
 | .dead=>b= .dead
 | .box _=>(∃cs,b= .box cs)\/b= .dead
 |_=>True
theorem Fr.set {t:Nat} {b0 b:SB} (h0:s[t]? =alG b0) (hk:PK b0 b):Fr [t] s (s.set t b):=fun u x hu=>by
 by_cases M9:t=u
 · subst M9
   rw [h0] at hu;injection hu with hu;subst hu;have dV:=(ut.1 h0).1;have hb:(s.set t b)[t]? =alG b:=by simp [dV]
   cases b0 with
   |arr r l=>
    rcases hk with ⟨l',rfl,hl⟩|rfl
    · exact .inl ⟨l',hb,hl,fun h=>by simp [has] at h⟩
    exact .inr hb
   |dead=>rw [show b= .dead from hk] at hb ⊢;exact hb
   |box cs=>
    rcases hk with ⟨c2,rfl⟩|rfl
    · exact .inl ⟨c2,hb⟩
    exact .inr hb
   |_=>trivial
 have hb:(s.set t b)[u]? =alG x:=by rw [If];simp [M9,hu]
 cases x with
 |arr r l=>exact .inl ⟨l,hb,rfl,fun _=>rfl⟩
 |dead=>exact hb
 |box cs=>exact .inl ⟨cs,hb⟩
 |_=>trivial
theorem cN.put (hS:cN s ps) {t:Nat} {b0 b:SB} {q:ky} (h0:s[t]? =alG b0) (hk:PK b0 b) (hq:RB (CC [t] (s.set t b)) (WY [t] b) q):cN (CC [t] (s.set t b)) (ps.set t q) where
 len:=by simp [wS,hS.len]
 at_:=fun u x hu=>by
  have dV:=(ut.1 h0).1;rw [sd] at hu
  by_cases M9:t=u
  · subst M9
    have hb:(s.set t b)[t]? =alG b:=by simp [dV]
    rw [hb] at hu;simp at hu;subst hu;exact ⟨q,by rw [If];simp [hS.len,dV],hq⟩
  rw [If] at hu
  simp only [M9,if_false,adC] at hu;obtain ⟨y,hy,rfl⟩:=hu;obtain ⟨q',h1,h2⟩:=hS.at_ u y hy;exact ⟨q',by rw [If];simp [M9,h1],h2.fr (Fr.dg (Fr.set h0 hk))⟩
theorem Good.put (hS:cN s ps) {v:SV} {p:PV} {t:Nat} {b0 b:SB} {q:ky} {l:List SB} {ql:cK} {rd:List Nat} (h0:s[t]? =alG b0) (hk:PK b0 b) (hq:RB (CC [t] (s.set t b)) (WY [t] b) q)
 (hl:(alF ql)=alF l) (hb: ∀(j:Nat) (x:SB),l[j]? =alG x-> ∃y,ql[j]? =alG y/\RB (CC [t] (s.set t b)++l) x y) (hv:R (CC [t] (s.set t b)++l) v p):
 Good s ps {v,wr:=[(t,b)],news:=l,rd} {v:=p,wr:=[(t,q)],news:=ql,rd} where
 rd:=rfl
 fr:=rfl
 wr:=rfl
 nw:=rfl
 nl:=hl
 aD:=by simp only [gp.nV,mR,gC,rR,yz,ry,BT];exact (hS.put h0 hk hq).app hl hb
 v:=by simp only [gp.nV,mR,yz,ry,BT];exact hv
 fra:=by simp only [gp.nV,mR,yz,ry,BT];exact (Fr.dg (Fr.set h0 hk)).trans (Fr.app _ _ _)
theorem Good.TL (hS:cN s ps) {t:Nat} {b0 b:SB} {q:ky} {rd:List Nat} (h0:s[t]? =alG b0) (hk:PK b0 b) (hq:RB (CC [t] (s.set t b)) (WY [t] b) q):
 Good s ps {v:= .undef,wr:=[(t,b)],rd} {v:= .undef,wr:=[(t,q)],rd}:=
 Good.put hS h0 hk hq rfl (fun j x h=>by simp at h) rfl
end
section
variable {R' ρ : Type} {w : R' -> ρ} {y : ρ}
theorem bR {α:Type} {x:Option α} {k:α->gM R'} (h:lT x k ρ w=alG y): ∃a,x=alG a/\k a ρ w=alG y:=by
 cases x with
 |none=>cases h
 |some a=>exact ⟨a,rfl,h⟩
theorem cU {α:Type} {x:Option α} {k:α->gM R'} (h:lG x k ρ w=alG y): ∃a,x=alG a/\k a ρ w=alG y:=NH h
theorem fF {c:Bool} {a b:gM R'} (h:gR c a b ρ w=alG y):(c=alI/\a ρ w=alG y)\/(c=alJ/\b ρ w=alG y):=NI h
theorem db {c:Bool} {a:gM R'} (h:(bif c then a else aM) ρ w=alG y):c=alI/\a ρ w=alG y:=by
 cases c
 · cases h
 exact ⟨rfl,h⟩
theorem sF {c:Bool} {a:gM R'} (h:(bif c then aM else a) ρ w=alG y):c=alJ/\a ρ w=alG y:=by
 cases c
 · exact ⟨rfl,h⟩
 cases h
theorem iP {c:Bool} {a:gM R'} (h:gR c a aM ρ w=alG y):c=alI/\a ρ w=alG y:=by
 rcases fF h with ⟨h1,h2⟩|⟨_,h2⟩
 · exact ⟨h1,h2⟩
 cases h2
theorem wT {c:Bool} {a:gM R'} (h:gR c aM a ρ w=alG y):c=alJ/\a ρ w=alG y:=by
 rcases fF h with ⟨_,h2⟩|⟨h1,h2⟩
 · cases h2
 exact ⟨h1,h2⟩
end
def hY {R':Type} (s:List SB) (ps:cK) (po:Option ov) (k:gp->gM R') (ρ:Type) (w:R'->ρ) (y:ρ):Prop:=
 ∃sr pr,po=alG pr/\Good s ps sr pr/\k sr ρ w=alG y
section
variable {R' ρ : Type} {w : R' -> ρ} {y : ρ} {s : List SB} {ps : cK} {e : SE} {pe : Env} {z : List Nat} {k : gp -> gM R'}
theorem hY.val (hS:cN s ps) {po:Option ov} {v:SV} {p:PV} (h:k {v} ρ w=alG y) (hp:po=alG {v:=p}) (hv:R s v p):hY s ps po k ρ w y:=
 ⟨_,_,hp,Good.val hS hv,h⟩
theorem hY.rd (hS:cN s ps) {po:Option ov} {v:SV} {p:PV} {rd:List Nat} (h:k {v,rd} ρ w=alG y) (hp:po=alG {v:=p,rd}) (hv:R s v p):hY s ps po k ρ w y:=
 ⟨_,_,hp,Good.val hS hv,h⟩
theorem nD (hE:ek s e pe) {x:fS} {a:IntKind} {n:Int} (h:cf e x= .int a n):x.ev pe= .int a n:=by have:=dX hE x;rw [h] at this;exact this
theorem BU (hE:ek s e pe) {x:fS} {b:Bool} (h:cf e x= .bool b):x.ev pe= .bool b:=by have:=dX hE x;rw [h] at this;exact this
theorem Rb (hE:ek s e pe) {x:fS} {v:SV} (h:cf e x=v):R s v (x.ev pe):=by have:=dX hE x;rwa [h] at this
theorem LB (k:IntKind):fO k k=alI:=by cases k<;>rfl
theorem NZ (hS:cN s ps) {op:BinOp} {a:IntKind} {m n:Int} (h:NL op a m n (ofV k) ρ w=alG y): ∃p,arith op a m n=alG p/\hY s ps (alG {v:=p}) k ρ w y:=by
 cases op with
 |quo=>
  obtain ⟨h1,h2⟩:=wT h;have hn:n≠0:=by intro e;subst e;cases h1
  exact ⟨_,by simp only [arith,lw hn],hY.val hS h2 rfl rfl⟩
 |rem=>
  obtain ⟨h1,h2⟩:=wT h;have hn:n≠0:=by intro e;subst e;cases h1
  exact ⟨_,by simp only [arith,lw hn],hY.val hS h2 rfl rfl⟩
 |shl=>cases h
 |shr=>cases h
 |_=>exact ⟨_,rfl,hY.val hS h rfl rfl⟩
theorem W5 (hE:ek s e pe) (hS:cN s ps) {op:BinOp} {a b:fS} (h:mQ e s z (.bin op a b) k ρ w=alG y):hY s ps (bI pe ps z (.bin op a b)) k ρ w y:=by
 simp only [mQ] at h;generalize ha:cf e a=va at h;cases va with
 |int ka m=>
  generalize hb:cf e b=vb at h;cases vb with
  |int kb n=>
   have h1:=nD hE ha;have h2:=nD hE hb;have key:(op≠ .shl)->(op≠ .shr)->(bif fO ka kb then NL op ka m n (ofV k) else aM) ρ w=alG y->hY s ps (bI pe ps z (.bin op a b)) k ρ w y:=by
    intro n1 n2 h;obtain ⟨hk,h⟩:=db h;obtain ⟨p,hp,hs⟩:=NZ hS h;have:bI pe ps z (.bin op a b)=alG {v:=p}:=by simp only [bI,h1,h2];cases op<;>first|exact absurd rfl n1|exact absurd rfl n2|(simp only [QA,hk,if_true,hp];rfl)
    rw [this];exact hs
   cases op with
   |shl=>
    obtain ⟨hc,h⟩:=wT h;have CO: ¬n<0:=by simpa using hc
    exact hY.val hS h (by simp only [bI,h1,h2,QA,CD,lw CO];rfl) rfl
   |shr=>
    obtain ⟨hc,h⟩:=wT h;have CO: ¬n<0:=by simpa using hc
    exact hY.val hS h (by simp only [bI,h1,h2,QA,CD,lw CO];rfl) rfl
   |_=>exact key (by intro e;cases e) (by intro e;cases e) h
  |_=>cases h
 |_=>cases h
theorem TM (hE:ek s e pe) (hS:cN s ps) {neg:Bool} {a b:fS} (h:mQ e s z (.KE neg a b) k ρ w=alG y):hY s ps (bI pe ps z (.KE neg a b)) k ρ w y:=by
 simp only [mQ] at h;generalize ha:cf e a=va at h;cases va with
 |bool x=>
  generalize hb:cf e b=vb at h;cases vb with
  |bool x'=>refine hY.val hS h ?_ rfl;simp only [bI,BU hE ha,BU hE hb];cases neg<;>rfl
  |_=>cases h
 |_=>cases h
theorem TN: ∀{xs ys:List SV} {ps qs:List PV} {r:Bool},RL s xs ps->RL s ys qs->eqS xs ys=alG r->dK ps qs=alG r
 | [],[],ps,qs,r,h1,h2,h=>by rw [show ps=[] from h1,show qs=[] from h2];exact h
 |x::xs,b::ys,ps,qs,r,h1,h2,h=>by
  obtain ⟨p,ps,rfl,a1,a2⟩:=h1.cons_inv;obtain ⟨q,qs,rfl,b1,b2⟩:=h2.cons_inv;simp only [eqS] at h;split at h
  · rename_i ka m kb n
    have a1':p= .int ka m:=a1;have b1':q= .int kb n:=b1;subst a1' b1';cases hk:fO ka kb with
    |false=>rw [hk] at h;cases h
    |true=>
     rw [hk] at h;have hc:rh (.int ka m) (.int kb n)=alG (m==n):=by simp only [rh,hk,if_true]
     simp only [dK,hc];cases xs with
     |nil=>
      cases ys with
      |nil=>simp only [lc,AC] at h;subst h;rw [show ps=[] from a2,show qs=[] from b2];cases m==n<;>rfl
      |cons _ _=>cases h
     |cons x2 xs2=>
      simp only [lc] at h;split at h
      · rename_i r' hr
        injection h with h;subst h;rw [TN a2 b2 hr];cases m==n<;>rfl
      cases h
  cases h
 | [],_::_,ps,qs,r,h1,h2,h=>by cases h
 |_::_,[],ps,qs,r,h1,h2,h=>by cases h
theorem W6 (hE:ek s e pe) (hS:cN s ps) {n:Nat} {neg:Bool} {a b:fS} (h:mQ e s z (.eqc n neg a b) k ρ w=alG y):hY s ps (bI pe ps z (.eqc n neg a b)) k ρ w y:=by
 simp only [mQ] at h;generalize ha:cf e a=va at h;cases va with
 |agg xs=>
  generalize hb:cf e b=vb at h;cases vb with
  |agg ys=>obtain ⟨hl,h⟩:=db h;obtain ⟨r,hr,h⟩:=bR h;obtain ⟨p,hp,h1⟩:=Rb hE ha;obtain ⟨q,hq,h2⟩:=Rb hE hb;refine hY.val hS h ?_ rfl;simp only [bI,hp,hq,h1.ny,h2.ny];rw [ls hl,TN h1 h2 hr];cases neg<;>rfl
  |_=>cases h
 |_=>cases h
theorem afk (hE:ek s e pe) (hS:cN s ps) {op:UnOp} {a:fS} (h:mQ e s z (.un op a) k ρ w=alG y):hY s ps (bI pe ps z (.un op a)) k ρ w y:=by
 simp only [mQ] at h;cases op with
 |neg=>
  dsimp only at h;generalize ha:cf e a=va at h;cases va with
  |int ka n=>exact hY.val hS h (by simp only [bI,nD hE ha];rfl) rfl
  |_=>cases h
 |not=>
  dsimp only at h;generalize ha:cf e a=va at h;cases va with
  |bool b=>exact hY.val hS h (by simp only [bI,BU hE ha];rfl) rfl
  |_=>cases h
 |_=>cases h
theorem TO (hE:ek s e pe) (hS:cN s ps) {a:IntKind} {x:fS} (h:mQ e s z (.conv a x) k ρ w=alG y):hY s ps (bI pe ps z (.conv a x)) k ρ w y:=by
 simp only [mQ] at h;generalize ha:cf e x=va at h;cases va with
 |int ka n=>exact hY.val hS h (by simp only [bI,nD hE ha]) rfl
 |_=>cases h
theorem W7 (hE:ek s e pe) (hS:cN s ps) {x:fS} (h:mQ e s z (.len x) k ρ w=alG y):hY s ps (bI pe ps z (.len x)) k ρ w y:=by
 simp only [mQ] at h;have hx:=dX hE x;generalize cf e x=v at h hx;cases v with
 |nil e' c=>exact hY.val hS h (by simp only [bI,show x.ev pe= .sl e' c [] from hx];rfl) rfl
 |pre t len cap ex=>obtain ⟨e',hx,_⟩:=hx;exact hY.val hS h (by simp only [bI,hx]) rfl
 |part t off len cap ex=>obtain ⟨e',hx,_⟩:=hx;exact hY.val hS h (by simp only [bI,hx]) rfl
 |sl q m=>exact hY.val hS h (by simp only [bI,show x.ev pe=_ from hx,ady]) rfl
 |own t ex=>
  obtain ⟨c,hc,h⟩:=bR h;simp only [Aa,cC] at hc;split at hc
  · rename_i q m cy
    injection hc with hc;subst hc;obtain ⟨e',n,hx,dm⟩:=hx;rcases dm with ⟨q',m',h1,rfl,rfl⟩|h1
    · rw [cy] at h1;injection h1 with h1;cases h1
      exact hY.val hS h (by simp only [bI,hx]) rfl
    rw [cy] at h1;cases h1
  cases hc
 |_=>obtain ⟨c,hc,h⟩:=bR h;cases hc
theorem BV: ∀{l:List (Nat×Nat×SV)} {pl:List (Nat×Nat×PV)} {cs:List SV} {pc:List PV} {r:List SV},
 (alF pl=alF l/\ ∀(j:Nat) (a:Nat×Nat×SV),l[j]? =alG a-> ∃b,pl[j]? =alG (a.1,a.2.1,b)/\R s a.2.2 b)->RL s cs pc->wP l cs=alG r-> ∃q,nO pl pc=alG q/\RL s r q
 | [],pl,cs,pc,r,hl,hc,h=>by have:pl=[]:=aem.1 hl.1;subst this;injection h with h;subst h;exact ⟨pc,rfl,hc⟩
 |(off,sz,v)::l,pl,cs,pc,r,hl,hc,h=>by
  cases pl with
  |nil=>simp at hl
  |cons p pl=>
   obtain ⟨b,h1,h2⟩:=hl.2 0 _ rfl;simp at h1;subst h1;simp only [wP] at h;split at h
   · rename_i w hw
     obtain ⟨q,hq,hqr⟩:=h2.stored hw;cases W8:(M2 (alF w) sz&&IR (off+sz) (alF cs)) with
     |false=>rw [W8] at h;cases h
     |true=>rw [W8] at h;simp only [lc] at h;obtain ⟨q2,h3,h4⟩:=BV (pl:=pl) ⟨by simpa using hl.1,fun j a ha=>hl.2 (j+1) a (by simpa using ha)⟩ (zw hqr hc) h;refine ⟨q2,?_,h4⟩;simp only [nO,hq,hqr.ny,hc.ny];rw [ls W8];exact h3
   cases h
theorem LC (hE:ek s e pe): ∀(l:List (Nat×Nat×fS)),((l.map fun p=>(p.1,p.2.1,p.2.2.ev pe)).length=(yv e l).length/\ ∀(j:Nat) (a:Nat×Nat×SV),(yv e l)[j]? =alG a-> ∃b,(l.map fun p=>(p.1,p.2.1,p.2.2.ev pe))[j]? =alG (a.1,a.2.1,b)/\R s a.2.2 b)
 | []=>⟨rfl,fun j a h=>by simp [yv] at h⟩
 |p::l=>by
  obtain ⟨h1,h2⟩:=LC hE l;refine ⟨by simp [yv] at h1 ⊢;omega,fun j a h=>?_⟩;cases j with
  |zero=>simp [yv] at h;subst h;exact ⟨_,rfl,dX hE _⟩
  |succ j=>simp only [yv,adL] at h;obtain ⟨b,h3,h4⟩:=h2 j a h;exact ⟨b,by simpa using h3,h4⟩
theorem Rc (hE:ek s e pe) (hS:cN s ps) {zero:List PV} {parts:List (Nat×Nat×fS)} (h:mQ e s z (.build zero parts) k ρ w=alG y):hY s ps (bI pe ps z (.build zero parts)) k ρ w y:=by simp only [mQ] at h;obtain ⟨cs,hc,h⟩:=bR h;obtain ⟨q,hq,hr⟩:=BV (LC hE parts) (wR s zero) hc;exact hY.val hS h (by simp only [bI,hq];rfl) ⟨q,rfl,hr⟩
theorem W9 (hE:ek s e pe) (hS:cN s ps) {x:fS} (h:mQ e s z (.box x) k ρ w=alG y):hY s ps (bI pe ps z (.box x)) k ρ w y:=by simp only [mQ] at h;obtain ⟨cs,hc,h⟩:=bR h;obtain ⟨q,hq,hr⟩:=(dX hE x).stored hc;refine ⟨_,_,?_,Good.new hS (b:= .box cs) (q:= .box q) (v:= .bp (alF s) (alF cs) 0) (p:= .ptr (alF s) (alF cs) 0 0) (rd:=[]) ⟨q,rfl,hr.ext (Fr.app _ _ _)⟩ rfl,h⟩;simp only [bI,hq,hS.len,hr.ny]
theorem Re (hS:cN s ps) {cells:List PV} (h:mQ e s z (.alloc cells) k ρ w=alG y):hY s ps (bI pe ps z (.alloc cells)) k ρ w y:=by simp only [mQ] at h;refine ⟨_,_,?_,Good.new hS (b:= .box (BJ cells)) (q:= .box cells) (v:= .bp (alF s) (alF cells) 0) (p:= .ptr (alF s) (alF cells) 0 0) (rd:=[]) ⟨cells,rfl,wR _ _⟩ rfl,h⟩;simp only [bI,hS.len]
theorem TP (hE:ek s e pe) (hS:cN s ps) {x:fS} (h:mQ e s z (.KF x) k ρ w=alG y):hY s ps (bI pe ps z (.KF x)) k ρ w y:=by
 simp only [mQ] at h;have hx:=dX hE x;generalize cf e x=v at h hx;cases v with
 |pa t r i a o=>exact hY.val hS h (by simp only [bI,hx.1]) ⟨rfl,hx.2⟩
 |pb t i o=>obtain ⟨e',h1,h2⟩:=hx;exact hY.val hS h (by simp only [bI,h1]) ⟨e',rfl,h2⟩
 |bp t n o=>exact hY.val hS h (by simp only [bI,show x.ev pe=_ from hx]) rfl
 |bO c o=>obtain ⟨q,h1,h2⟩:=hx;exact hY.val hS h (by simp only [bI,h1]) ⟨q,rfl,h2⟩
 |eO f a b=>obtain ⟨pa,pb,h1,h2⟩:=hx;exact hY.val hS h (by simp only [bI,h1]) ⟨pa,pb,rfl,h2⟩
 |_=>cases h
theorem TQ (hE:ek s e pe) (hS:cN s ps) {off:Nat} {x:fS} (h:mQ e s z (.KG off x) k ρ w=alG y):hY s ps (bI pe ps z (.KG off x)) k ρ w y:=by
 simp only [mQ] at h;have hx:=dX hE x;generalize cf e x=v at h hx;cases v with
 |pa t r i a o=>exact hY.val hS h (by simp only [bI,hx.1]) ⟨rfl,hx.2⟩
 |pb t i o=>obtain ⟨e',h1,h2⟩:=hx;exact hY.val hS h (by simp only [bI,h1]) ⟨e',rfl,h2⟩
 |bp t n o=>exact hY.val hS h (by simp only [bI,show x.ev pe=_ from hx]) rfl
 |bO c o=>obtain ⟨q,h1,h2⟩:=hx;exact hY.val hS h (by simp only [bI,h1]) ⟨q,rfl,h2⟩
 |_=>cases h
theorem Xa (hE:ek s e pe) (hS:cN s ps) {agg:Option Nat} {off:Nat} {x:fS} (h:mQ e s z (.ju agg off x) k ρ w=alG y):hY s ps (bI pe ps z (.ju agg off x)) k ρ w y:=by
 simp only [mQ] at h;generalize hv:cf e x=v at h;cases v with
 |agg cs=>obtain ⟨v,h1,h⟩:=bR h;obtain ⟨q,h2,h3⟩:=Rb hE hv;obtain ⟨p,h4,h5⟩:=uq h3 h1;exact hY.val hS h (by simp only [bI,h2,h4];rfl) h5
 |_=>cases h
theorem Xb (hE:ek s e pe) (hS:cN s ps) {i:Nat} {x:fS} (h:mQ e s z (.ext i x) k ρ w=alG y):hY s ps (bI pe ps z (.ext i x)) k ρ w y:=by
 simp only [mQ] at h;generalize hv:cf e x=v at h;cases v with
 |cj cs=>obtain ⟨v,h1,h⟩:=bR h;obtain ⟨q,h2,h3⟩:=Rb hE hv;obtain ⟨p,h4,h5⟩:=h3.nth h1;exact hY.val hS h (by simp only [bI,h2,h4];rfl) h5
 |_=>cases h
theorem Xc (hE:ek s e pe) (hS:cN s ps) {f:FuncId} {a b:List fS} (h:mQ e s z (.mkf f a b) k ρ w=alG y):hY s ps (bI pe ps z (.mkf f a b)) k ρ w y:=by simp only [mQ] at h;exact hY.val hS h rfl ⟨_,_,rfl,zt hE a,zt hE b⟩
theorem Xd (hS:cN s ps) {m:Option PV} (h:mQ e s z (.mkm m) k ρ w=alG y):hY s ps (bI pe ps z (.mkm m)) k ρ w y:=by
 simp only [mQ] at h;cases m with
 |none=>refine ⟨_,_,?_,Good.new hS (b:= .set []) (q:= .map []) (v:= .mp (alF s)) (p:= .mp (alF s)) (rd:=[]) rfl rfl,h⟩;simp only [bI,hS.len]
 |some m=>obtain ⟨p,_,h⟩:=bR h;refine ⟨_,_,?_,Good.new hS (b:= .bA p []) (q:= .map []) (v:= .mp (alF s)) (p:= .mp (alF s)) (rd:=[]) rfl rfl,h⟩;simp only [bI,hS.len]
theorem aea: ∀{l:List SV} {q:List PV} {m:Bool} {a:IntKind} {n:Int} {v:SV},RL s l q->mmS m a n l=alG v-> ∃p,mmE m a n q=alG p/\R s v p
 | [],q,m,a,n,v,hl,h=>by rw [show q=[] from hl];injection h with h;subst h;exact ⟨_,rfl,rfl⟩
 |x::l,q,m,a,n,v,hl,h=>by
  obtain ⟨p,q,rfl,h1,h2⟩:=hl.cons_inv;simp only [mmS] at h;split at h
  · rename_i b c
    have M8:p= .int b c:=h1;subst M8;cases hk:fO a b with
    |true=>rw [hk] at h;obtain ⟨p,h3,h4⟩:=aea h2 h;refine ⟨p,?_,h4⟩;simp only [mmE,hk,if_true];rw [<- h3];cases m<;>rfl
    |false=>rw [hk] at h;cases h
  cases h
theorem afl (hE:ek s e pe) (hS:cN s ps) {m:Bool} {x:fS} {xs:List fS} (h:mQ e s z (.mm m x xs) k ρ w=alG y):hY s ps (bI pe ps z (.mm m x xs)) k ρ w y:=by
 simp only [mQ] at h;generalize hv:cf e x=v at h;cases v with
 |int a n=>obtain ⟨v,h1,h⟩:=bR h;obtain ⟨p,h2,h3⟩:=aea (zt hE xs) h1;exact hY.val hS h (by simp only [bI,nD hE hv,h2];rfl) h3
 |_=>cases h
theorem TR (hE:ek s e pe) (hS:cN s ps) {c a b:fS} (h:mQ e s z (.pick c a b) k ρ w=alG y):hY s ps (bI pe ps z (.pick c a b)) k ρ w y:=by
 simp only [mQ] at h;generalize hv:cf e c=v at h;cases v with
 |bool x=>
  rcases fF h with ⟨rfl,h⟩|⟨rfl,h⟩
  · exact hY.val hS h (by simp only [bI,BU hE hv]) (dX hE a)
  exact hY.val hS h (by simp only [bI,BU hE hv]) (dX hE b)
 |_=>cases h
end
end Go.Vm
/- Operation by operation, second part: elements, blocks, slices, sets. -/
namespace Go.Vm
section
variable {R' ρ : Type} {w : R' -> ρ} {y : ρ} {s : List SB} {ps : cK} {e : SE} {pe : Env} {z : List Nat} {k : gp -> gM R'}
theorem cN.arr (hS:cN s ps) {t:Nat} {r:List PT} {l:List (RT r)} (h:s[t]? =alG (.arr r l)):ps[t]? =alG (.arr (alF r) (l.map (RT.pv r))):=by obtain ⟨q,h1,h2⟩:=hS.at_ t _ h;rw [show q=_ from h2] at h1;exact h1
theorem cN.box (hS:cN s ps) {t:Nat} {cs:List SV} (h:s[t]? =alG (.box cs)): ∃q,ps[t]? =alG (.box q)/\RL s cs q:=by obtain ⟨q,h1,q',rfl,h2⟩:=hS.at_ t _ h;exact ⟨q',h1,h2⟩
theorem cN.ane (hS:cN s ps) {t:Nat} {l:List (List Int)} (h:s[t]? =alG (.set l)):ps[t]? =alG (.map (l.map BS)):=by obtain ⟨q,h1,h2⟩:=hS.at_ t _ h;rw [show q=_ from h2] at h1;exact h1
theorem cN.Xe (hS:cN s ps) {t:Nat} {p:PT} {l:List (RT [.i .i64,p])} (h:s[t]? =alG (.bA p l)):ps[t]? =alG (.map (l.map (Eh p))):=by obtain ⟨q,h1,h2⟩:=hS.at_ t _ h;rw [show q=_ from h2] at h1;exact h1
theorem OwnAt.inv {t e n:Nat} {r:List PT} {l:List (RT r)} (h:OwnAt s t e n) (hs:s[t]? =alG (.arr r l)):e=alF r/\n=(alF l):=by
 rcases h with ⟨q,m,h1,rfl,rfl⟩|h1
 · rw [hs] at h1;injection h1 with h1;cases h1;exact ⟨rfl,rfl⟩
 rw [hs] at h1;cases h1
theorem Ad.inv {t e:Nat} {r:List PT} {l:List (RT r)} (h:Ad s t e) (hs:s[t]? =alG (.arr r l)):e=(alF r):=by
 rcases h with ⟨q,m,h1,rfl⟩|h1|⟨cs,h1,_⟩
 · rw [hs] at h1;injection h1 with h1;cases h1;rfl
 · rw [hs] at h1;cases h1
 rw [hs] at h1;cases h1
theorem TK.inv {t:Nat} {q r:List PT} {i:Int} {a:RT q} {l:List (RT r)} (h:TK s t q i a) (hs:s[t]? =alG (.arr r l)): ∃e:q=r,aH l i=alG (e▸a):=by
 rcases h with ⟨m,h1,h2⟩|h1
 · rw [hs] at h1;injection h1 with h1;cases h1;exact ⟨rfl,h2⟩
 rw [hs] at h1;cases h1
theorem afj.inv {t:Nat} {r:List PT} {i:Int} {l:List (RT r)} (h:afj s t i) (hs:s[t]? =alG (.arr r l)):(aH l i).isSome=alI:=by
 rcases h with ⟨q,m,h1,h2⟩|h1
 · rw [hs] at h1;injection h1 with h1;cases h1;exact h2
 rw [hs] at h1;cases h1
theorem gb {α:Type} {l:List α} {n:Nat} {i:Int} {a:α} (h:aH (l.take n) i=alG a): ∃m:Nat,i=adQ m/\m<n/\l[m]? =alG a:=by
 obtain ⟨m,rfl,hm⟩:=nU h;have dV:=(ut.1 hm).1;rw [adG] at dV;have hmn:m<n:=by omega
 rw [EQ hmn] at hm;exact ⟨m,rfl,hmn,hm⟩
theorem TS (hE:ek s e pe) (hS:cN s ps) {esz:Nat} {x i:fS} (h:mQ e s z (.KH esz x i) k ρ w=alG y):hY s ps (bI pe ps z (.KH esz x i)) k ρ w y:=by
 simp only [mQ] at h;generalize hi:cf e i=vi at h;cases vi with
 |int ki n=>
  have hi:=nD hE hi;have hx:=dX hE x;dsimp only at h;unfold ad1 at h;generalize cf e x=v at h hx;cases v with
  |sl r l=>
   obtain ⟨he,h⟩:=db h;obtain ⟨a,ha,hk⟩:=cU h;obtain ⟨m,rfl,hm⟩:=nU ha;refine hY.val hS (p:= .bO (RT.pv r a) 0) hk ?_ ⟨_,rfl,Ik r a⟩;have hr:(l.map (RT.pv r))[m]? =alG (RT.pv r a):=by simp [hm]
   simp only [bI,hi,kA,show x.ev pe=_ from hx,hr,he,if_true]
  |own t ex=>
   simp only [cC] at h;generalize cy:s[t]? =b at h;cases b with
   |none=>cases h
   |some b=>
    cases b with
    |arr r l=>
     obtain ⟨he,h⟩:=db h;obtain ⟨a,ha,hk⟩:=cU h;obtain ⟨m,rfl,hm⟩:=nU ha;obtain ⟨e',n',hx,dm⟩:=hx;obtain ⟨rfl,rfl⟩:=dm.inv cy;have dV:=(ut.1 hm).1;have h1:agd m (alF l)=alI:=by simpa using dV
     refine hY.val hS (p:= .ptr t (alF r) m 0) hk ?_ ⟨rfl,.inl ⟨l,cy,ha⟩⟩;simp only [bI,hi,kA,hx,h1,he,adA,if_true,aet]
    |_=>cases h
  |pre t len cap ex=>
   simp only [cC] at h;generalize cy:s[t]? =b at h;cases b with
   |none=>cases h
   |some b=>
    cases b with
    |arr r l=>
     obtain ⟨he,h⟩:=db h;obtain ⟨a,ha,hk⟩:=cU h;obtain ⟨m,rfl,dV,hm⟩:=gb ha;obtain ⟨e',hx,dm⟩:=hx;have:=dm.inv cy;subst this;have h1:agd m len=alI:=by simpa using dV
     refine hY.val hS (p:= .ptr t (alF r) m 0) hk ?_ ⟨rfl,.inl ⟨l,cy,hm⟩⟩;simp only [bI,hi,kA,hx,h1,he,adA,if_true,aet]
    |_=>cases h
  |part t off len cap ex=>
   simp only [cC] at h;generalize cy:s[t]? =b at h;cases b with
   |none=>cases h
   |some b=>
    cases b with
    |arr r l=>
     obtain ⟨he,h⟩:=db h;obtain ⟨a,ha,hk⟩:=cU h;obtain ⟨m,rfl,dV,hm⟩:=gb ha;rw [List.getElem?_drop] at hm;obtain ⟨e',hx,dm⟩:=hx;have:=dm.inv cy;subst this;have h1:agd m len=alI:=by simpa using dV
     refine hY.val hS (p:= .ptr t (alF r) (off+m) 0) hk ?_ ⟨rfl,.inl ⟨l,cy,hm⟩⟩;simp only [bI,hi,kA,hx,h1,he,adA,if_true]
    |_=>cases h
  |_=>cases h
 |_=>cases h
theorem AT {n:Nat} {i:Int} {j:Nat} {f:Nat->gM R'}:Lt n i j f ρ w=alG y-> ∃m,i=adQ m/\j<=m/\m<j+n/\f m ρ w=alG y:=by
 induction n generalizing j with
 |zero=>intro h;cases h
 |succ n ih=>
  intro h;rcases fF h with ⟨h1,h2⟩|⟨_,h2⟩
  · exact ⟨j,by simpa using h1,afn _,by omega,h2⟩
  obtain ⟨m,h3,h4,h5,h6⟩:=ih h2
  exact ⟨m,h3,by omega,by omega,h6⟩
theorem Rf (hE:ek s e pe) (hS:cN s ps) {n esz:Nat} {p i:fS} (h:mQ e s z (.DE n esz p i) k ρ w=alG y):hY s ps (bI pe ps z (.DE n esz p i)) k ρ w y:=by
 simp only [mQ] at h;generalize hi:cf e i=vi at h;cases vi with
 |int ki j=>
  have hi:=nD hE hi;have hx:=dX hE p;generalize cf e p=v at h hx;cases v with
  |bp t m o=>
   obtain ⟨j',rfl,_,h2,h⟩:=AT h;have h1:agd j' n=alI:=by simp;omega
   exact hY.val hS h (by simp only [bI,hi,kA,h1,if_true,show p.ev pe=_ from hx]) rfl
  |bO c o=>
   obtain ⟨j',rfl,_,h2,h⟩:=AT h;have h1:agd j' n=alI:=by simp;omega
   obtain ⟨q,hq,hr⟩:=hx;exact hY.val hS h (by simp only [bI,hi,kA,h1,if_true,hq]) ⟨q,rfl,hr⟩
  |_=>cases h
 |_=>cases h
theorem Xf (hE:ek s e pe) (hS:cN s ps) {n esz:Nat} {agg:Option Nat} {x i:fS} (h:mQ e s z (.idx n esz agg x i) k ρ w=alG y):hY s ps (bI pe ps z (.idx n esz agg x i)) k ρ w y:=by
 simp only [mQ] at h;generalize hi:cf e i=vi at h;cases vi with
 |int ki j=>
  have hi:=nD hE hi;generalize hx:cf e x=v at h;cases v with
  |agg cs=>
   obtain ⟨j',rfl,_,h2,h⟩:=AT h;have h1:agd j' n=alI:=by simp;omega
   obtain ⟨v,hv,h⟩:=bR h;obtain ⟨q,hq,hr⟩:=Rb hE hx;obtain ⟨p,hp,hpr⟩:=uq hr hv;exact hY.val hS h (by simp only [bI,hi,kA,h1,if_true,hq,hp];rfl) hpr
  |_=>cases h
 |_=>cases h
theorem TU (hE:ek s e pe) (hS:cN s ps) {x i:fS} (h:mQ e s z (.KI x i) k ρ w=alG y):hY s ps (bI pe ps z (.KI x i)) k ρ w y:=by
 simp only [mQ] at h;generalize hi:cf e i=vi at h;cases vi with
 |int ki j=>
  have hi:=nD hE hi;generalize hx:cf e x=v at h;cases v with
  |str t=>
   obtain ⟨b,hb,h⟩:=cU h;have hx:=Rb hE hx;cases j with
   |negSucc _=>cases hb
   |ofNat m=>simp only [rJ,adC] at hb;obtain ⟨c,hc,rfl⟩:=hb;exact hY.val hS h (by simp only [bI,hi,kA,show x.ev pe=_ from hx,hc]) rfl
  |_=>cases h
 |_=>cases h
theorem TV (hE:ek s e pe) (hS:cN s ps) {agg:Option Nat} {p:fS} (h:mQ e s z (.load agg p) k ρ w=alG y):hY s ps (bI pe ps z (.load agg p)) k ρ w y:=by
 simp only [mQ] at h;have hx:=dX hE p;unfold ad2 at h;generalize cf e p=v at h hx;cases v with
 |bp t n off=>
  simp only [cC] at h;generalize cy:s[t]? =b at h;cases b with
  |none=>cases h
  |some b=>
   cases b with
   |box cs=>obtain ⟨v,hv,h⟩:=bR h;obtain ⟨q,h1,h2⟩:=hS.box cy;obtain ⟨u,h3,h4⟩:=uq h2 hv;refine hY.rd hS h ?_ h4;show pj ps agg (p.ev pe)=_;rw [show p.ev pe=_ from hx];simp only [pj,h1,adB,if_true,h3];rfl
   |_=>cases h
 |pa t r i a off=>
  simp only [cC] at h;generalize cy:s[t]? =b at h;cases b with
  |none=>cases h
  |some b=>
   cases b with
   |arr q l=>
    obtain ⟨v,hv,hk⟩:=bR h;obtain ⟨hx,dm⟩:=hx;obtain ⟨rfl,hg⟩:=dm.inv cy;obtain ⟨u,h3,h4⟩:=uq (Ik r a) hv;obtain ⟨m,rfl,hm⟩:=nU hg;refine hY.rd hS hk ?_ h4;show pj ps agg (p.ev pe)=_;rw [hx];have CW:(l.map (RT.pv r))[m]? =alG (RT.pv r a):=by simp [hm]
    have e1:(adQ m).toNat=m:=rfl;simp only [pj,hS.arr cy,e1,CW,h3];rfl
   |_=>cases h
 |pb t i off=>
  simp only [cC] at h;generalize cy:s[t]? =b at h;cases b with
  |none=>cases h
  |some b=>
   cases b with
   |arr r l=>
    obtain ⟨a,ha,h⟩:=cU h;obtain ⟨v,hv,hk⟩:=bR h;obtain ⟨e',hx,dm⟩:=hx;obtain ⟨u,h3,h4⟩:=uq (Ik r a) hv;obtain ⟨m,rfl,hm⟩:=nU ha;refine hY.rd hS hk ?_ h4;show pj ps agg (p.ev pe)=_;rw [hx];have CW:(l.map (RT.pv r))[m]? =alG (RT.pv r a):=by simp [hm]
    have e1:(adQ m).toNat=m:=rfl;simp only [pj,hS.arr cy,e1,CW,h3];rfl
   |_=>cases h
 |bO cs off=>obtain ⟨v,hv,h⟩:=bR h;obtain ⟨q,hq,hr⟩:=hx;obtain ⟨u,h3,h4⟩:=uq hr hv;refine hY.val hS h ?_ h4;show pj ps agg (p.ev pe)=_;rw [hq];simp only [pj,h3];rfl
 |_=>cases h
theorem JK (hS:cN s ps) {t:Nat} {r:List PT} {l:List (RT r)} (cy:s[t]? =alG (.arr r l)) {i:Int} {b:RT r} {rd:List Nat}:
 Good s ps {v:= .undef,wr:=[(t,.arr r (cd l i b))],rd} {v:= .undef,wr:=[(t,.arr (alF r) ((l.map (RT.pv r)).set i.toNat (RT.pv r b)))],rd}:=
 Good.TL hS cy (.inl ⟨_,rfl,by simp⟩) (by show _=_;simp [cd,ak2])
theorem Rg (hE:ek s e pe) (hS:cN s ps) {sz:Nat} {p x:fS} (h:mQ e s z (.store sz p x) k ρ w=alG y):hY s ps (bI pe ps z (.store sz p x)) k ρ w y:=by
 simp only [mQ] at h;have hx:=dX hE p;have hv:=dX hE x;unfold Tx at h;generalize cf e p=v at h hx;generalize cf e x=u at h hv;cases v with
 |bp t n off=>
  simp only [cC] at h;generalize cy:s[t]? =b at h;cases b with
  |none=>cases h
  |some b=>
   cases b with
   |box cs=>
    obtain ⟨w',hw,h⟩:=bR h;obtain ⟨hc,h⟩:=db h;obtain ⟨q,h1,h2⟩:=hv.stored hw;obtain ⟨b,h3,h4⟩:=hS.box cy;have sR:=Fr.dg (ts:=[t]) (Fr.set (b:= .box (pZ off w' cs)) cy (.inl ⟨_,rfl⟩));refine ⟨_,_,?_,Good.TL hS (b:= .box (pZ off w' cs)) (q:= .box (ou off q b)) (rd:=[]) cy (.inl ⟨_,rfl⟩) ⟨_,rfl,RL.fr sR (zw h2 h4)⟩,h⟩
    show sO ps z sz (x.ev pe) (p.ev pe)=_
    rw [show p.ev pe=_ from hx];simp only [sO,h3,h1,h2.ny,h4.ny];rw [ls (by simpa using hc)]
   |_=>cases h
 |pa t r i a off=>
  simp only [cC] at h;generalize cy:s[t]? =b at h;cases b with
  |none=>cases h
  |some b=>
   cases b with
   |arr q l=>
    obtain ⟨hc,h⟩:=db h;obtain ⟨a',Fl,hk⟩:=bR h;obtain ⟨hx,dm⟩:=hx;obtain ⟨rfl,hg⟩:=dm.inv cy;obtain ⟨m,rfl,hm⟩:=nU hg;refine ⟨_,_,?_,JK hS cy (rd:=[]),hk⟩;show sO ps z sz (x.ev pe) (p.ev pe)=_;rw [hx];have CW:(l.map (RT.pv r))[m]? =alG (RT.pv r a):=by simp [hm]
    have e1:(adQ m).toNat=m:=rfl;simp only [rc,ad5] at hc;obtain ⟨⟨c1,c2⟩,c3⟩:=hc;have hj:u≠ .jk:=by
     intro e;subst e;have:=RT.p5 Fl;have hq:=congrArg (fun l=>l[off]?) this;have lP:=PP c2;have q9:sz=1:=by have:=pp c1;simpa [SV.cells] using this.symm
     have dV:off<(alF r):=by omega
     have HU:off<(RT.sv r a).length:=by rw [RT.JI];exact dV
     simp only [pZ,SV.cells] at hq;rw [v6 (by simp;omega),ww (by simp;omega)] at hq;simp only [adG,afe (ak4 HU),alD,aeU] at hq;have: ∀(r:List PT) (b:RT r) (n:Nat),(RT.sv r b)[n]?≠alG .jk:=by
      intro r
      induction r with
      |nil=>intro b n h;simp [RT.sv] at h
      |cons p rest ih=>
       intro b n;cases rest with
       |nil=>cases n<;>cases p<;>simp [RT.sv,PT.sv]
       |cons p2 anf=>cases n with
        |zero=>cases p<;>simp [RT.sv,PT.sv]
        |succ n=>simpa [RT.sv] using ih b.2 n
     exact this r a' off hq.symm
    have FC:=hv.cells hj;have vH:=RT.p5 Fl;have h5:RL s (RT.sv r a') (ou off (x.ev pe).cells (RT.pv r a)):=by rw [<- vH];exact zw FC (Ik r a)
    have h6:=zu r a' h5;have N0:(x.ev pe).cM=alG (x.ev pe).cells:=by unfold PV.cM;rw [ls ?_];have rU:=RT.plain r a';rw [<- h6] at rU;unfold ou at rU;simp only [ala,rc] at rU;exact rU.1.2
    simp only [sO,hS.arr cy,e1,CW,N0,FC.ny,RT.wQ];rw [ls (by simp [c1,c2,c3])];simp only [h6]
   |_=>cases h
 |pb t i off=>
  simp only [cC] at h;generalize cy:s[t]? =b at h;cases b with
  |none=>cases h
  |some b=>
   cases b with
   |arr r l=>
    obtain ⟨hc,h⟩:=db h;obtain ⟨e',hx,dm⟩:=hx;have wK:=dm.inv cy;rw [aeS] at wK;obtain ⟨a0,hg⟩:=wK;obtain ⟨m,rfl,hm⟩:=nU hg;have CW:(l.map (RT.pv r))[m]? =alG (RT.pv r a0):=by simp [hm]
    have e1:(adQ m).toNat=m:=rfl;simp only [rc,ad5] at hc;obtain ⟨⟨c1,c2⟩,c3⟩:=hc;cases q9:M2 sz (alF r) with
    |true=>
     rw [q9] at h;obtain ⟨a',Fl,hk⟩:=bR h;obtain ⟨hp,hl⟩:=hv.ofRow Fl;have Np:=pp q9;have CL:off=0:=by have:=PP c2;omega
     subst CL;refine ⟨_,_,?_,JK hS cy (rd:=[]),hk⟩;show sO ps z sz (x.ev pe) (p.ev pe)=_;rw [hx];simp only [sO,hS.arr cy,e1,CW,hp,RT.wQ];rw [ls (by rw [aet,Np];simp [c3])];have:ou 0 (RT.pv r a') (RT.pv r a0)=RT.pv r a':=by unfold ou;rw [RT.wQ,List.drop_of_length_le (by rw [RT.wQ];omega)];simp
     rw [this]
    |false=>
     rw [q9] at h;obtain ⟨a,ha,h⟩:=cU h;obtain ⟨a',Fl,hk⟩:=bR h;rw [hg] at ha;injection ha with ha;subst ha;refine ⟨_,_,?_,JK hS cy (rd:=[]),hk⟩;show sO ps z sz (x.ev pe) (p.ev pe)=_;rw [hx];have hj:u≠ .jk:=by
      intro e;subst e;have:=RT.p5 Fl;have hq:=congrArg (fun l=>l[off]?) this;have lP:=PP c2;have q9:sz=1:=by have:=pp c1;simpa [SV.cells] using this.symm
      have dV:off<(alF r):=by omega
      have HU:off<(RT.sv r a0).length:=by rw [RT.JI];exact dV
      simp only [pZ,SV.cells] at hq;rw [v6 (by simp;omega),ww (by simp;omega)] at hq;simp only [adG,afe (ak4 HU),alD,aeU] at hq;have: ∀(r:List PT) (b:RT r) (n:Nat),(RT.sv r b)[n]?≠alG .jk:=by
       intro r
       induction r with
       |nil=>intro b n h;simp [RT.sv] at h
       |cons p rest ih=>
        intro b n;cases rest with
        |nil=>cases n<;>cases p<;>simp [RT.sv,PT.sv]
        |cons p2 anf=>cases n with
         |zero=>cases p<;>simp [RT.sv,PT.sv]
         |succ n=>simpa [RT.sv] using ih b.2 n
      exact this r a' off hq.symm
     have FC:=hv.cells hj;have vH:=RT.p5 Fl;have h5:RL s (RT.sv r a') (ou off (x.ev pe).cells (RT.pv r a0)):=by rw [<- vH];exact zw FC (Ik r a0)
     have h6:=zu r a' h5;have N0:(x.ev pe).cM=alG (x.ev pe).cells:=by unfold PV.cM;rw [ls ?_];have rU:=RT.plain r a';rw [<- h6] at rU;unfold ou at rU;simp only [ala,rc] at rU;exact rU.1.2
     simp only [sO,hS.arr cy,e1,CW,N0,FC.ny,RT.wQ];rw [ls (by simp [c1,c2,c3])];simp only [h6]
   |_=>cases h
 |_=>cases h
end
end Go.Vm
/- Operation by operation, third part: slices, new blocks, append, sets; all of them together. -/
namespace Go.Vm
section
variable {R' ρ : Type} {w : R' -> ρ} {y : ρ} {s : List SB} {ps : cK} {e : SE} {pe : Env} {z : List Nat} {k : gp -> gM R'}
def FD (pe:Env) (o:Option fS):Option (Option Nat):=match o with|none=>alG alH|some a=>(kA (a.ev pe)).map alG
theorem vX (hE:ek s e pe) {o:Option fS} {d a:Int} {n:Nat} (h:C1 e d o=alG a) (hd:d=adQ n) (h0:0<=a): ∃b,FD pe o=alG b/\b.getD n=a.toNat:=by
 cases o with
 |none=>injection h with h;subst h hd;exact ⟨alH,rfl,rfl⟩
 |some x=>
  simp only [C1] at h;split at h
  · rename_i ka m hx
    injection h with h;subst h;obtain ⟨b,rfl⟩:=UV h0;refine ⟨alG b,?_,rfl⟩;simp only [FD,nD hE hx];rfl
  cases h
theorem AU {esz:Nat} {x:fS} {lo hi mx:Option fS} {l h m:Option Nat} {v:PV} (he:vC esz (x.ev pe)=alI) (h1:FD pe lo=alG l) (h2:FD pe hi=alG h) (h3:FD pe mx=alG m) (hv:ri (x.ev pe) l h m=alG v):
 bI pe ps z (.Qz esz x lo hi mx)=alG {v:=v}:=by
 have e:bI pe ps z (.Qz esz x lo hi mx)=(match FD pe lo,FD pe hi,FD pe mx with|some l,alG h,alG m=>(ri (x.ev pe) l h m).map fun v=>({v}:ov)|_,_,_=>alH):=by simp only [bI,he,ajh,NE,if_false];rfl
 rw [e,h1,h2,h3];simp only [hv];rfl
theorem FE {α:Type} {l r:List α} {lo hi:Int} (h:gn l lo hi=alG r): ∃a b:Nat,lo=adQ a/\hi=adQ b/\a<=b/\b<=alF l/\r=(l.drop a).take (b-a):=by
 unfold gn at h;split at h
 · rename_i hc
   obtain ⟨a,rfl⟩:=UV hc.1;obtain ⟨b,rfl⟩:=UV (aeE hc.1 hc.2.1);injection h with h;exact ⟨a,b,rfl,rfl,by omega,by omega,by rw [<- h];simp⟩
 cases h
theorem JL (hE:ek s e pe) (hS:cN s ps) {esz t off len cap:Nat} {ex:Bool} {x:fS} {lo hi mx:Option fS} (hx:x.ev pe= .own t esz off len cap ex) (dm:Ad s t esz) (h:NM e t off len cap ex lo hi mx k ρ w=alG y):
 hY s ps (bI pe ps z (.Qz esz x lo hi mx)) k ρ w y:=by
 unfold NM at h;obtain ⟨a,ha,h⟩:=bR h;obtain ⟨b,hb,h⟩:=bR h;have he:vC esz (x.ev pe)=alI:=by rw [hx];simp [vC]
 cases mx with
 |none=>
  obtain ⟨hc,h⟩:=iP h;simp only [rc,decide_eq_true_eq] at hc;obtain ⟨⟨c1,c2⟩,c3⟩:=hc;obtain ⟨l,h1,h2⟩:=vX hE (n:=0) ha rfl c1;obtain ⟨u,h3,h4⟩:=vX hE (n:=len) hb rfl (aeE c1 c2);refine hY.val hS h (AU he h1 h3 (m:=alH) rfl ?_) ⟨esz,rfl,dm⟩;rw [hx];have c4:(IR a.toNat b.toNat&&IR b.toNat cap)=alI:=by have c3':b<=(cap:Int):=c3;simp;omega
  simp only [ri,h2,h4,c4,if_true]
 |some mo=>
  dsimp only at h;generalize hm:cf e mo=vm at h;cases vm with
  |int km c=>
   obtain ⟨hc,h⟩:=iP h;simp only [rc,decide_eq_true_eq] at hc;obtain ⟨⟨⟨c1,c2⟩,c3⟩,c4⟩:=hc;obtain ⟨l,h1,h2⟩:=vX hE (n:=0) ha rfl c1;obtain ⟨u,h3,h4⟩:=vX hE (n:=len) hb rfl (aeE c1 c2);have Fb:0<=c:=aeE (aeE c1 c2) c3;obtain ⟨c,rfl⟩:=UV Fb;refine hY.val hS h (AU he h1 h3 (m:=alG c) (by simp only [FD,nD hE hm];rfl) ?_) ⟨esz,rfl,dm⟩;rw [hx];have c5:(IR a.toNat b.toNat&&IR b.toNat c&&IR c cap)=alI:=by have c4':(c:Int)<=(cap:Int):=c4;simp;omega
   simp only [ri,h2,h4,c5,if_true];rfl
  |_=>cases h
theorem Xg (hE:ek s e pe) (hS:cN s ps) {esz:Nat} {x:fS} {lo hi mx:Option fS} (h:mQ e s z (.Qz esz x lo hi mx) k ρ w=alG y):hY s ps (bI pe ps z (.Qz esz x lo hi mx)) k ρ w y:=by
 simp only [mQ] at h;have hx:=dX hE x;unfold am' at h;generalize cf e x=v at h hx;cases v with
 |sl r l=>
  cases mx with
  |some _=>cases h
  |none=>
   dsimp only at h;obtain ⟨he,h⟩:=db h;have he:=pp he;obtain ⟨a,ha,h⟩:=bR h;obtain ⟨b,hb,h⟩:=bR h;obtain ⟨m,hm,hk⟩:=cU h;obtain ⟨n1,n2,rfl,rfl,c1,c2,rfl⟩:=FE hm;obtain ⟨u1,h1,h2⟩:=vX hE (n:=0) ha rfl (by simp);obtain ⟨u2,h3,h4⟩:=vX hE (n:=alF l) hb rfl (by simp);have hx':x.ev pe= .sl (alF r) alJ (l.map (RT.pv r)):=hx;subst he;refine hY.val hS (p:= .sl (alF r) alJ ((((l.drop n1).take (n2-n1))).map (RT.pv r))) hk (AU (m:=alH) (by rw [hx'];simp [vC]) h1 h3 rfl ?_) rfl;rw [hx'];have Ra:u1.getD 0=n1:=by rw [h2];rfl
   have h4':u2.getD (l.map (RT.pv r)).length=n2:=by rw [ady,h4];rfl
   have c3:(IR n1 n2&&IR n2 (l.map (RT.pv r)).length)=alI:=by simp [c1,c2]
   simp only [ri,Ra,h4',c3,if_true,Bool.false_and,adH,aei]
 |own t ex=>
  simp only [cC] at h;generalize cy:s[t]? =b at h;cases b with
  |none=>cases h
  |some b=>
   cases b with
   |arr r l=>
    dsimp only at h;obtain ⟨he,hk⟩:=db h;have he:=pp he;obtain ⟨e',n',hx,dm⟩:=hx;obtain ⟨rfl,rfl⟩:=dm.inv cy;subst he;have Ed:Ad s t (alF r):= .inl ⟨r,l,cy,rfl⟩;have gen:NM e t 0 (alF l) (alF l) ex lo hi mx k ρ w=alG y->hY s ps (bI pe ps z (.Qz (alF r) x lo hi mx)) k ρ w y:=fun h=>JL hE hS hx Ed h
    have he:vC (alF r) (x.ev pe)=alI:=by rw [hx];simp [vC]
    cases mx with
    |some m=>cases lo<;>cases hi<;>exact gen hk
    |none=>
     cases lo with
     |some _=>cases hi<;>exact gen hk
     |none=>
      cases hi with
      |none=>refine hY.val hS hk (AU (l:=alH) (h:=alH) (m:=alH) he rfl rfl rfl ?_) ⟨alF r,alF l,rfl,dm⟩;rw [hx];simp [ri]
      |some ho=>
       dsimp only at hk;generalize hh:cf e ho=vh at hk;cases vh with
       |int kh b=>
        obtain ⟨m,hm,hk⟩:=cU hk;obtain ⟨n1,n2,h0,rfl,c1,c2,rfl⟩:=FE hm;refine hY.val hS hk (AU (l:=alH) (h:=alG n2) (m:=alH) he rfl (by simp only [FD,nD hE hh];rfl) rfl ?_) ⟨alF r,rfl,Ed⟩;rw [hx];have c3:(IR 0 n2&&IR n2 (alF l))=alI:=by simp [c2]
        simp only [ri,aeY,al3,c3,if_true];rfl
       |_=>cases hk
   |_=>cases h
 |pre t len cap ex=>
  simp only [cC] at h;generalize cy:s[t]? =b at h;cases b with
  |none=>cases h
  |some b=>
   cases b with
   |arr r l=>
    dsimp only at h;obtain ⟨he,hk⟩:=db h;have he:=pp he;obtain ⟨e',hx,dm⟩:=hx;have:=dm.inv cy;subst this;subst he;have gen:NM e t 0 len cap ex lo hi mx k ρ w=alG y->hY s ps (bI pe ps z (.Qz (alF r) x lo hi mx)) k ρ w y:=fun h=>JL hE hS hx dm h
    have he:vC (alF r) (x.ev pe)=alI:=by rw [hx];simp [vC]
    cases mx with
    |some m=>cases lo<;>cases hi<;>exact gen hk
    |none=>
     cases lo with
     |some _=>cases hi<;>exact gen hk
     |none=>
      cases hi with
      |none=>
       obtain ⟨hlc,hk⟩:=iP hk;refine hY.val hS hk (AU (l:=alH) (h:=alH) (m:=alH) he rfl rfl rfl ?_) ⟨alF r,rfl,dm⟩;rw [hx];have c3:(IR 0 len&&IR len cap)=alI:=by simp [hlc]
       simp only [ri,aeY,c3,if_true];simp
      |some ho=>
       dsimp only at hk;generalize hh:cf e ho=vh at hk;cases vh with
       |int kh b=>
        obtain ⟨hc,hk⟩:=iP hk;simp only [rc,decide_eq_true_eq] at hc;obtain ⟨c1,c2⟩:=hc;obtain ⟨b,rfl⟩:=UV c1;refine hY.val hS hk (AU (l:=alH) (h:=alG b) (m:=alH) he rfl (by simp only [FD,nD hE hh];rfl) rfl ?_) ⟨alF r,rfl,dm⟩;rw [hx];have c3:(IR 0 b&&IR b cap)=alI:=by have c2':(b:Int)<=(cap:Int):=c2;simp;omega
        simp only [ri,aeY,al3,c3,if_true];rfl
       |_=>cases hk
   |_=>cases h
 |part t off len cap ex=>
  simp only [cC] at h;generalize cy:s[t]? =b at h;cases b with
  |none=>cases h
  |some b=>
   cases b with
   |arr r l=>dsimp only at h;obtain ⟨he,hk⟩:=db h;have he:=pp he;obtain ⟨e',hx,dm⟩:=hx;have:=dm.inv cy;subst this;subst he;exact JL hE hS hx dm hk
   |_=>cases h
 |_=>cases h
theorem mX {b:SB}:(s++[b])[alF s]? =alG b:=by simp
theorem di: ∀{v:PV} {p:PT},gl v=alG p->p.pv p.zero=v
 | .int k n,p,h=>by
  simp only [gl] at h;split at h
  · injection h with h;subst h;rfl
  cases h
 | .bool b,p,h=>by
  simp only [gl] at h;split at h
  · injection h with h;subst h;rfl
  cases h
 | .undef,_,h| .jR,_,h| .str _,_,h| .agg _,_,h| .cj _,_,h| .sl _ _ _,_,h| .own _ _ _ _ _ _,_,h| .ptr _ _ _ _,_,h| .bO _ _,_,h| .mp _,_,h| .eO _ _ _,_,h| .eg,_,h=>by cases h
theorem BW : ∀ {l : List PV} {r : List PT}, Fq l = alG r -> RT.pv r (RT.zero r) = l
  | [], r, h => by injection h with h; subst h; rfl
  | v :: vs, r, h => by
    simp only [Fq] at h
    split at h
    · rename_i p q h1 h2
      injection h with h; subst h
      have e1 := di h1
      have e2 := BW h2
      cases q with
      | nil =>
        have : vs = [] := by
          cases vs with
          | nil => rfl
          | cons a b => simp only [RT.pv] at e2; cases e2
        subst this
        show [p.pv p.zero] = _
        rw [e1]
      | cons p2 q2 =>
        show p.pv p.zero :: RT.pv (p2 :: q2) (RT.zero (p2 :: q2)) = _
        rw [e1, e2]
    cases h
theorem Xh (hE:ek s e pe) (hS:cN s ps) {esz:Nat} {zero:Row} {l c:fS} (h:mQ e s z (.mks esz zero l c) k ρ w=alG y):hY s ps (bI pe ps z (.mks esz zero l c)) k ρ w y:=by
 simp only [mQ] at h;generalize hl:cf e l=vl at h;cases vl with
 |int kl n=>
  generalize hc:cf e c=vc at h;cases vc with
  |int kc m=>
   obtain ⟨hnm,h1⟩:=iP h;obtain ⟨r,hr,h2⟩:=bR h1;obtain ⟨he,h3⟩:=db h2;obtain ⟨x,hx,hk⟩:=cU h3;have hnm:n=m:=by simpa using hnm
   subst hnm;have he:=pp he;subst he;unfold xM at hx;split at hx
   · rename_i KA
     injection hx with hx;subst hx;obtain ⟨a,rfl⟩:=UV KA.1;have h1:(IR a a&&IR a fa)=alI:=by simp [fa];omega
     refine ⟨_,_,?_,Good.new hS (b:= .arr r (adF (adQ a).toNat (RT.zero r))) (q:= .arr (alF r) (adF a zero)) (v:= .own (alF s) alI) (p:= .own (alF s) (alF r) 0 a a alI) (rd:=[]) ?_ ?_,hk⟩
     · have e1:kA (.int kl (a:Int))=alG a:=rfl
       have e2:kA (.int kc (a:Int))=alG a:=rfl;simp only [bI,nD hE hl,nD hE hc,e1,e2];rw [ls h1,hS.len]
     · show _=_
       simp [BW hr]
     exact ⟨alF r,a,rfl,.inl ⟨r,_,mX,rfl,by simp⟩⟩
   cases hx
  |_=>cases h
 |_=>cases h
def wU {α:Type}:List α->List (Nat×α)->List α
 |l,[]=>l
 |l,(i,a)::r=>wU (l.set i a) r
theorem FF {α : Type} : ∀ (q : List (Nat × α)) (l : List α) (i : Nat), (wU l q)[i]? = (l[i]?).map fun z => rowAt i z q
  | [], l, i => by simp [wU, rowAt]
  | (j, a) :: q, l, i => by
    simp only [wU, rowAt]
    rw [FF q (l.set j a) i, If]
    by_cases WA : j = i
    · subst WA
      cases hl : l[j]? with
      | none =>
        have : ¬ j < (alF l) := by intro h; rw [Do h] at hl; cases hl
        simp [this]
      | some z =>
        have : j < (alF l) := (ut.1 hl).1
        simp [this]
    have : M2 j i = alJ := by
      cases hb : M2 j i with
      | false => rfl
      | true => exact absurd (pp hb) WA
    simp [WA, this]
theorem LD {α:Type} (f:Nat->α): ∀(n i j:Nat),(JD f i n)[j]? =if j<n then alG (f (i+j)) else alH
 |0,i,j=>by simp [JD]
 |n+1,i,0=>by simp [JD]
 |n+1,i,j+1=>by
  simp only [JD,adL];rw [LD f n (i+1) j,show i+1+j=i+(j+1) by omega]
  by_cases h:j<n
  · simp [h]
  simp [h]
theorem FG {α:Type} (z:α) (n:Nat) (q:List (Nat×α)):wU (adF n z) q=JD (fun i=>rowAt i z q) 0 n:=by
 apply akN;intro i;rw [FF,LD]
 by_cases h:i<n
 · simp [h]
 simp [h]
theorem FH (hE:ek s e pe) {r:List PT} {n:Nat}: ∀{parts:List (Nat×fS)} {q:List (Nat×RT r)} {l:List (RT r)},Px r e n parts=alG q->alF l=n->
 qv (parts.map fun p=>(p.1,p.2.ev pe)) (l.map (RT.pv r)) (alF r)=alG ((wU l q).map (RT.pv r))
 | [],q,l,h,hl=>by injection h with h;subst h;rfl
 |p::parts,q,l,h,hl=>by
  simp only [Px] at h;split at h
  · rename_i a q' h1 h2
    cases hb:agd p.1 n with
    |false=>rw [hb] at h;cases h
    |true=>rw [hb] at h;injection h with h;subst h;have hp:=((dX hE p.2).ofRow h1).1;simp only [adz,qv,hp,RT.wQ,ady,hl,hb,adB,adA,if_true,wU];rw [<- ak2];exact FH hE h2 (by simp [hl])
  cases h
theorem Rh (hE:ek s e pe) (hS:cN s ps) {esz n:Nat} {zero:Row} {parts:List (Nat×fS)} (h:mQ e s z (.Bn esz n zero parts) k ρ w=alG y):hY s ps (bI pe ps z (.Bn esz n zero parts)) k ρ w y:=by
 simp only [mQ] at h;obtain ⟨r,hr,h1⟩:=bR h;obtain ⟨he,h2⟩:=db h1;obtain ⟨q,hq,hk⟩:=bR h2;have he:=pp he;subst he;have hf:=FH hE (l:=adF n (RT.zero r)) hq (by simp);rw [FG] at hf;have hz:(adF n (RT.zero r)).map (RT.pv r)=adF n zero:=by simp [BW hr]
 rw [hz] at hf;refine ⟨_,_,?_,Good.new hS (b:= .arr r (JD (fun i=>rowAt i (RT.zero r) q) 0 n)) (q:= .arr (alF r) ((JD (fun i=>rowAt i (RT.zero r) q) 0 n).map (RT.pv r))) (v:= .own (alF s) alI) (p:= .own (alF s) (alF r) 0 n n alI) (rd:=[]) rfl ?_,hk⟩
 · simp only [bI,hf,hS.len]
   rfl
 refine ⟨alF r,n,rfl,.inl ⟨r,_,mX,rfl,?_⟩⟩
 rw [<- FG];have: ∀(q:List (Nat×RT r)) (l:List (RT r)),(wU l q).length=(alF l):=by
  intro q
  induction q with
  |nil=>intro l;rfl
  |cons p q ih=>intro l;simp [wU,ih]
 rw [this];simp
theorem PL: ∀{cs:List SV} {q:List PV} {l:List Int},RL s cs q->Py cs=alG l->q=l.map (.int .i64)
 | [],q,l,h,hi=>by injection hi with hi;subst hi;exact h
 |x::xs,q,l,h,hi=>by
  obtain ⟨p,q,rfl,h1,h2⟩:=h.cons_inv;simp only [Py] at hi;split at hi
  · rename_i n l' hx
    injection hi with hi;subst hi;rw [show p= .int .i64 n from h1,PL h2 hx];rfl
  cases hi
theorem TW {v:SV} {p:PV} {n:Option Nat} {l:List Int} (h:R s v p) (hk:WV n v=alG l):p=tT l/\jS n (tT l)=alI/\(tT l).cM=alG (tT l).cells/\(tT l).cells=l.map (.int .i64)/\(n=alH->alF l=1)/\(∀m,n=alG m->alF l=m/\m≠1):=by
 cases n with
 |none=>
  cases v with
  |int kk a=>
   cases kk with
   |i64=>injection hk with hk;subst hk;exact ⟨h,rfl,rfl,rfl,fun _=>rfl,fun m hm=>by cases hm⟩
   |_=>cases hk
  |_=>cases hk
 |some m=>
  cases v with
  |agg cs=>
   simp only [WV] at hk;cases hc:(M2 (alF cs) m&&!Nat.beq m 1) with
   |false=>rw [hc] at hk;cases hk
   |true=>
    rw [hc] at hk;simp only [lc] at hk;simp only [rc,aeF,ad5] at hc;obtain ⟨c1,c2⟩:=hc;obtain ⟨q,rfl,hq⟩:=h;have Sk:=PL hq hk;have c9:(alF l)=m:=by have:=hq.ny;rw [Sk] at this;simp at this;omega
    have hm1:m≠1:=by intro e;subst e;cases c2
    have Sp:tT l= .agg (l.map (.int .i64)):=by
     unfold tT;split
     · simp at c9;omega
     rfl
    refine ⟨by rw [Sp,Sk],by rw [Sp];simp [jS,c9],?_,by rw [Sp];rfl,(fun h=>by cases h),fun m' hm=>by injection hm with hm;subst hm;exact ⟨c9,hm1⟩⟩;rw [Sp];unfold PV.cM;rw [ls];simp [PV.cells,PV.plain]
  |_=>cases hk
theorem wV: ∀(a b:List Int),alF a=alF b->dK (a.map (.int .i64)) (b.map (.int .i64))=alG (a==b)
 | [],[],_=>rfl
 |x::a,y::b,h=>by
  have ih:=wV a b (by simpa using h);simp only [adz,dK,rh,LB,if_true];cases Wr:x==y with
  |true=>simp only [ih];simp [aji,Wr]
  |false=>simp [aji,Wr]
 | [],_::_,h=>by simp at h
 |_::_,[],h=>by simp at h
theorem C6 {n : Option Nat} {a : List Int} (ha : (tT a).cells = a.map (.int .i64)) (hn : (n = alH -> (alF a) = 1) /\ (∀ m, n = alG m -> (alF a) = m /\ m ≠ 1)) : ∀ (l : List (List Int)) (i : Nat), (∀ r, fN n (tT a) (l.map BS) i = alG r -> (match r with | none => Eg l a = alJ | some j => i <= j /\ Eg l a = alI /\ l[j - i]? = alG a))
  | [], i, r, h => by
    simp only [akT, fN, AC] at h
    subst h; rfl
  | b :: l, i, r, h => by
    simp only [adz, BS, fN] at h
    split at h
    · rename_i hk
      have hb : (tT b).cells = b.map (.int .i64) /\ (alF a) = (alF b) := by
        cases n with
        | none =>
          have hl := hn.1 rfl
          unfold tT at hk ⊢
          split at hk
          · exact ⟨rfl, by simpa using hl⟩
          cases hk
        | some m =>
          obtain ⟨hl, hm⟩ := hn.2 m rfl
          unfold tT at hk ⊢
          split at hk
          · cases hk
          simp only [jS, ady, aeF] at hk
          exact ⟨rfl, by omega⟩
      rw [ha, hb.1, wV a b hb.2] at h
      cases QK : a == b with
      | true =>
        rw [QK] at h
        injection h with h; subst h
        have : a = b := by simpa using QK
        subst this
        exact ⟨afn _, by simp [Eg], by simp⟩
      | false =>
        rw [QK] at h
        have := C6 ha hn l (i + 1) r h
        cases r with
        | none => simpa [Eg, QK] using this
        | some j =>
          obtain ⟨h1, h2, h3⟩ := this
          refine ⟨by omega, by simp only [Eg] at h2; simp [Eg, h2], ?_⟩
          rw [show j - i = (j - (i + 1)) + 1 by omega]; simpa using h3
    cases h
theorem BX {n:Option Nat} {a:List Int} (ha:(tT a).cells=a.map (.int .i64)) (hn:(n=alH->alF a=1)/\(∀m,n=alG m->alF a=m/\m≠1)) {l:List (List Int)} (hl:l.all (fun b=>jS n (tT b))=alI): ∀i,∃r,fN n (tT a) (l.map BS) i=alG r:=by
 induction l with
 |nil=>intro i;exact ⟨alH,rfl⟩
 |cons b l ih=>
  intro i;simp only [ajg,rc] at hl;obtain ⟨r,hr⟩:=ih hl.2 (i+1);simp only [adz,BS,fN,hl.1,if_true];have hb:(tT b).cells=b.map (.int .i64)/\alF a=(alF b):=by
   have hk:=hl.1;cases n with
   |none=>
    have mU:=hn.1 rfl;unfold tT at hk ⊢;split at hk
    · exact ⟨rfl,by simpa using mU⟩
    cases hk
   |some m=>
    obtain ⟨mU,hm⟩:=hn.2 m rfl;unfold tT at hk ⊢;split at hk
    · cases hk
    simp only [jS,ady,aeF] at hk
    exact ⟨rfl,by omega⟩
  rw [ha,hb.1,wV a b hb.2];cases QK:a==b with
  |true=>exact ⟨alG i,rfl⟩
  |false=>exact ⟨r,hr⟩
theorem DU {n:Option Nat} {a:List Int} (hn:(n=alH->alF a=1)/\(∀m,n=alG m->alF a=m/\m≠1)) {l:List (List Int)} (hl: ∀b∈l,alF b=alF a):l.all (fun b=>jS n (tT b))=alI:=by
 rw [adJ];intro b hb;have c9:=hl b hb;cases n with
 |none=>
  have h1:=hn.1 rfl;rw [h1] at c9
  match b,c9 with
  | [x],_=>rfl
 |some m=>
  obtain ⟨h1,h2⟩:=hn.2 m rfl;unfold tT;split
  · rename_i x;simp at c9;omega
  simp [jS];omega
theorem BY {a:List Int} {l:List (List Int)} (h:oH a l=alI): ∀b∈l,alF b=(alF a):=by intro b hb;exact pp (adJ.1 h b hb)
theorem PT.ang {s:List SB} {p:PT} {v:SV} {q:PV} {a:p.T} (h:R s v q) (ho:p.of v=alG a):q=p.pv a:=by
 cases p with
 |i k=>
  cases v with
  |int l n=>
   simp only [PT.of] at ho;cases hk:fO l k with
   |false=>rw [hk] at ho;cases ho
   |true=>rw [hk] at ho;obtain rfl:=fE.1 hk;injection ho with ho;subst ho;exact h
  |_=>cases ho
 |b=>
  cases v with
  |bool x=>injection ho with ho;subst ho;exact h
  |_=>cases ho
theorem FI {β:Type} (g:Int×β->PV×PV) (hg: ∀x,(g x).1= .int .i64 x.1) (k:Int): ∀(l:List (Int×β)) (i:Nat),
 (∃j x,fN alH (.int .i64 k) (l.map g) i=alG (alG (i+j))/\l[j]? =alG x/\(∀z,qG z l k=x.2)/\ ∀a,pq l k a=l.set j (k,a))\/
 (fN alH (.int .i64 k) (l.map g) i=alG alH/\(∀z,qG z l k=z)/\ ∀a,pq l k a=l++[(k,a)])
 | [],i=> .inr ⟨rfl,fun _=>rfl,fun _=>rfl⟩
 |x::l,i=>by
  have hk:jS alH (g x).1=alI:=by rw [hg];rfl
  have he:dK (PV.int .i64 k).cells (g x).1.cells=alG (k==x.1):=by rw [hg];show dK [.int .i64 k] [.int .i64 x.1]=_;simp only [dK,rh,fO,if_true];cases k==x.1<;>rfl
  have hf:fN alH (.int .i64 k) ((x::l).map g) i=(match alG (k==x.1) with
   |some alI=>alG (alG i)
   |some alJ=>fN alH (.int .i64 k) (l.map g) (i+1)
   |none=>alH):=by
   rw [adz];show (if jS alH (g x).1 then _ else alH)=_;rw [ls hk,he];cases k==x.1<;>rfl
  cases hb:k==x.1 with
  |true=>rw [hb] at hf;exact .inl ⟨0,x,hf,rfl,fun z=>by simp only [qG,hb,lc],fun a=>by simp only [pq,hb,lc,List.set_cons_zero]⟩
  |false=>
   rw [hb] at hf;rcases FI g hg k l (i+1) with ⟨j,y,h1,h2,h3,h4⟩|⟨h1,h2,h3⟩
   · refine .inl ⟨j+1,y,?_,by simpa using h2,fun z=>?_,fun a=>?_⟩
     · rw [hf];show fN alH (.int .i64 k) (l.map g) (i+1)=_
       rw [h1,show i+1+j=i+(j+1) by omega]
     · simp only [qG,hb,lm,h3]
     simp only [pq,hb,lm,h4,List.set_cons_succ]
   exact .inr ⟨hf.trans h1,fun z=>by simp only [qG,hb,lm,h2],fun a=>by simp only [pq,hb,lm,h3,afc]⟩
theorem FJ (p:PT) (k:Int) (l:List (RT [.i .i64,p])):
 (∃(j:Nat) (x:RT [.i .i64,p]),fN alH (.int .i64 k) (l.map (Eh p)) 0=alG (alG j)/\l[j]? =alG x/\(∀z,p.get z l k=x.2)/\ ∀a,p.put l k a=l.set j (k,a))\/
 (fN alH (.int .i64 k) (l.map (Eh p)) 0=alG alH/\(∀z,p.get z l k=z)/\ ∀a,p.put l k a=l++[(k,a)]):=by
 cases p with
 |i d=>
  rcases FI (β:=Int) (Eh (.i d)) (fun _=>rfl) k l 0 with ⟨j,x,h1,h2,h3,h4⟩|h
  · exact .inl ⟨j,x,by rw [h1,aet],h2,h3,h4⟩
  exact .inr h
 |b=>
  rcases FI (β:=Bool) (Eh .b) (fun _=>rfl) k l 0 with ⟨j,x,h1,h2,h3,h4⟩|h
  · exact .inl ⟨j,x,by rw [h1,aet],h2,h3,h4⟩
  exact .inr h
theorem PT.aru {s:List SB} (p:PT) (a:p.T):R s (p.sv a) (p.pv a):=by cases p<;>rfl
theorem PT.LF (p:PT) (a:p.T):(p.pv a).cM=alG [p.pv a]:=by cases p<;>rfl
theorem N1 (hE:ek s e pe) (hS:cN s ps) {n:Option Nat} {zero:PV} {ok:Bool} {m q:fS} (h:mQ e s z (.lookup n zero ok m q) k ρ w=alG y):hY s ps (bI pe ps z (.lookup n zero ok m q)) k ρ w y:=by
 simp only [mQ] at h;have hx:=dX hE m;generalize cf e m=v at h hx;cases v with
 |mp t=>
  simp only [cC] at h;generalize cy:s[t]? =b at h;cases b with
  |none=>cases h
  |some b=>
   cases b with
   |set l=>
    dsimp only at h;unfold PA at h;cases zero with
    |bool b=>
     cases b with
     |true=>cases h
     |false=>
      cases ok with
      |true=>cases h
      |false=>
       obtain ⟨a,ha,h1⟩:=bR h;obtain ⟨b,hb,hk⟩:=cU h1;obtain ⟨k1,k2,k3,k4,k5⟩:=TW (dX hE q) ha;unfold Lr at hb;cases vU:oH a l with
       |false=>rw [vU] at hb;cases hb
       |true=>
        rw [vU] at hb;injection hb with hb;subst hb;obtain ⟨r,hr⟩:=BX k4 k5 (DU k5 (BY vU)) 0;have hf:=C6 k4 k5 l 0 r hr;refine hY.rd hS hk ?_ rfl;show tV ps n (.bool alJ) alJ (m.ev pe) (q.ev pe)=_;rw [show m.ev pe=_ from hx,k1];simp only [tV,hS.ane cy,k2,if_true,hr];cases r with
        |none=>simp only at hf;simp [hf]
        |some j=>
         obtain ⟨_,h2,h3⟩:=hf;have:(l.map BS)[j]? =alG (BS a):=by simp at h3;simp [h3]
         simp [this,h2,BS]
    |_=>cases h
   |bA p l=>
    dsimp only at h;unfold PB at h;cases n with
    |some _=>cases h
    |none=>
     cases ok with
     |true=>cases h
     |false=>
      have hq:=dX hE q;generalize cf e q=u at h hq;cases u with
      |int d a=>
       cases d with
       |i64=>
        obtain ⟨zv,hz,hk⟩:=bR h;have anh:=PT.ang (NY s zero) hz;refine hY.rd hS hk ?_ (PT.aru p _);show tV ps alH zero alJ (m.ev pe) (q.ev pe)=_;rw [show m.ev pe=_ from hx,show q.ev pe=_ from hq];rcases FJ p a l with ⟨j,x,h1,h2,h3,_⟩|⟨h1,h2,_⟩
        · have h5:(l.map (Eh p))[j]? =alG (Eh p x):=by simp [h2]
          simp only [tV,hS.Xe cy,jS,if_true,h1,h5,h3,Eh,NE,if_false]
        simp only [tV,hS.Xe cy,jS,if_true,h1,h2,anh,NE,if_false]
       |_=>cases h
      |_=>cases h
   |_=>cases h
 |_=>cases h
theorem TX (hE:ek s e pe) (hS:cN s ps) {n:Option Nat} {m q x:fS} (h:mQ e s z (.I4 n m q x) k ρ w=alG y):hY s ps (bI pe ps z (.I4 n m q x)) k ρ w y:=by
 simp only [mQ] at h;have hx:=dX hE m;generalize cf e m=v at h hx;cases v with
 |mp t=>
  simp only [cC] at h;generalize cy:s[t]? =b at h;cases b with
  |none=>cases h
  |some b=>
   cases b with
   |set l=>
    obtain ⟨hz,h0⟩:=sF h;unfold Tz at h0;have hv:=dX hE x;generalize cf e x=u at h0 hv;cases u with
    |bool b=>
     cases b with
     |false=>cases h0
     |true=>
      obtain ⟨a,ha,h1⟩:=bR h0;obtain ⟨b,hb,hk⟩:=cU h1;obtain ⟨k1,k2,k3,k4,k5⟩:=TW (dX hE q) ha;unfold Ls at hb;cases vU:oH a l with
      |false=>rw [vU] at hb;cases hb
      |true=>
       rw [vU] at hb;injection hb with hb;subst hb;obtain ⟨r,hr⟩:=BX k4 k5 (DU k5 (BY vU)) 0;have hf:=C6 k4 k5 l 0 r hr;refine ⟨_,_,?_,Good.TL hS (b:= .set (NK l a)) (q:= .map ((NK l a).map BS)) (rd:=[]) cy trivial rfl,hk⟩;show DG ps z n (m.ev pe) (q.ev pe) (x.ev pe)=_;rw [show m.ev pe=_ from hx,k1,show x.ev pe= .bool alI from hv];have p2:(PV.bool alI).cM=alG [.bool alI]:=rfl;simp only [DG,hS.ane cy,k2,hz,ae7,adA,if_true,k3,p2,hr];cases r with
       |none=>simp only at hf;simp [NK,hf,BS]
       |some j=>
        obtain ⟨_,h2,h3⟩:=hf;have h5:l[j]? =alG a:=by simpa using h3
        have:(l.map BS).set j (tT a,.bool alI)=l.map BS:=by
         apply akN;intro i;rw [If];split
         · rename_i lL
           subst lL;have dV:=(ut.1 h5).1;have h6:l[j]=a:=(ut.1 h5).2;simp [dV,h6,BS]
         rfl
        simp [NK,h2,this]
    |_=>cases h0
   |bA p l=>
    obtain ⟨hz,h0⟩:=sF h;unfold TA at h0;cases n with
    |some _=>cases h0
    |none=>
     have hq:=dX hE q;generalize cf e q=u at h0 hq;cases u with
     |int d a=>
      cases d with
      |i64=>
       obtain ⟨xv,hxv,hk⟩:=bR h0;have N2:=PT.ang (dX hE x) hxv;refine ⟨_,_,?_,Good.TL hS (b:= .bA p (p.put l a xv)) (q:= .map ((p.put l a xv).map (Eh p))) (rd:=[]) cy trivial rfl,hk⟩;show DG ps z alH (m.ev pe) (q.ev pe) (x.ev pe)=_;rw [show m.ev pe=_ from hx,show q.ev pe=_ from hq,N2];have p1:(PV.int .i64 a).cM=alG [.int .i64 a]:=rfl;rcases FJ p a l with ⟨j,x,h1,_,_,h3⟩|⟨h1,_,h3⟩
       · simp only [DG,hS.Xe cy,jS,hz,ae7,adA,if_true,p1,PT.LF,h1,h3,ak2,Eh]
       simp only [DG,hS.Xe cy,jS,hz,ae7,adA,if_true,p1,PT.LF,h1,h3,adN,adz,akT,Eh]
      |_=>cases h0
     |_=>cases h0
   |_=>cases h
 |_=>cases h
theorem Ad.fr' {s s':List SB} {bad:List Nat} {t e:Nat} (h:Ad s t e) (hf:Fr bad s s'):Ad s' t e:=by
 rcases h with ⟨r,l,h1,h2⟩|h1|⟨cs,h1,h2⟩
 · rcases hf t _ h1 with ⟨l',k1,_,_⟩|k1
   · exact .inl ⟨r,l',k1,h2⟩
   exact .inr (.inl k1)
 · exact .inr (.inl (hf t _ h1))
 rcases hf t _ h1 with ⟨c2,k1⟩|k1
 · exact .inr (.inr ⟨c2,k1,h2⟩)
 exact .inr (.inl k1)
theorem AV {α:Type} {l r:List α} (h:bV l=alG r):r=l/\alF l<=1048576:=by
 unfold bV at h;split at h
 · injection h with h;exact ⟨h.symm,by assumption⟩
 cases h
theorem yA {α:Type} {l m r:List α} (h:bJ l m=alG r):r=l++m/\alF l+alF m<=1048576:=by
 unfold bJ at h;split at h
 · injection h with h;exact ⟨h.symm,by assumption⟩
 cases h
theorem ur: ∀(m l:List Row) (n:Nat),n+alF m<=alF l->lE n m l=fA l n m
 | [],l,n,h=>by simp [lE,fA]
 |a::m,l,n,h=>by
  simp only [ad6] at h;rw [lE,ur m (l.set n a) (n+1) (by simp;omega)];unfold fA;rw [List.take_set,List.drop_set];have hn:n<(alF l):=by omega
  have h1: ¬(n+1+alF m<=n):=by omega
  rw [ls (by omega)];have:(l.take (n+1)).set n a=l.take n++[a]:=by rw [List.take_succ_eq_append_getElem hn,List.set_append_right _ _ (by simp;omega)];simp [afe (ak4 hn)]
  rw [this];simp only [ad9,afc,List.nil_append,ad6];rw [show n+1+alF m=n+(alF m+1) by omega]
theorem FK {α β:Type} (f:α->β) (l m:List α) (n:Nat):(fA l n m).map f=fA (l.map f) n (m.map f):=by simp [fA,adH,aei]
theorem BZ {α:Type} (l m:List α) (n:Nat) (h:n+alF m<=alF l):(fA l n m).length=(alF l):=by simp [fA];omega
theorem N3 (hE:ek s e pe) (hS:cN s ps) {esz:Nat} {x yy:fS} (h:mQ e s z (.append esz x yy) k ρ w=alG y):hY s ps (bI pe ps z (.append esz x yy)) k ρ w y:=by
 simp only [mQ] at h;have hx:=dX hE x;have Td:=dX hE yy;unfold Pz at h;generalize cf e yy=vy at h Td;cases hc:Aa s vy with
 |none=>rw [hc] at h;cases h
 |some cc=>
  obtain ⟨q,m⟩:=cc;rw [hc] at h;dsimp only at h;obtain ⟨he,h⟩:=db h;have he:=pp he;obtain ⟨Bm,CR⟩:=PJ hS Td hc;rw [he] at Bm;have wW:bI pe ps z (.append esz x yy)=jh ps z esz (x.ev pe) (yy.ev pe):=rfl;generalize cf e x=v at h hx;cases v with
  |nil e' c=>
   dsimp only at h;obtain ⟨zV,h⟩:=db h;obtain ⟨m',CW,hk⟩:=cU h;obtain ⟨rfl,lP⟩:=AV CW;refine ⟨_,_,?_,Good.new hS (b:= .arr q m') (q:= .arr esz (m'.map (RT.pv q))) (v:= .own (alF s) alJ) (p:= .own (alF s) esz 0 (alF m') (alF m') alJ) (rd:=wO vy) (by rw [<- he];rfl) ⟨esz,alF m',rfl,.inl ⟨q,m',mX,he.symm,rfl⟩⟩,hk⟩;rw [wW];have arv:c=alI:=zV;subst arv;rw [show x.ev pe= .sl e' alI [] from hx];unfold jh;rw [Bm];cases m' with
   |nil=>simp [hS.len,CR]
   |cons a m'=>
    have h2:IR ((a::m').length) fa=alI:=by simp [fa] at lP ⊢;omega
    simp only [ad6] at h2;simp [hS.len,CR,h2]
  |own t ex=>
   dsimp only at h;simp only [cC] at h;generalize cy:s[t]? =b at h;cases b with
   |none=>cases h
   |some b=>
    cases b with
    |arr r l=>
     dsimp only at h;cases TY:sU q r m with
     |none=>rw [TY] at h;cases h
     |some m2=>
      rw [TY] at h;dsimp only at h;obtain ⟨rfl,hmp,KB⟩:=BQ TY;obtain ⟨e',n',hx,dm⟩:=hx;obtain ⟨rfl,rfl⟩:=dm.inv cy;rw [<- hmp] at Bm;have Hw:=hS.arr cy;cases ex with
      |true=>
       dsimp only at h;rcases fF h with ⟨hl,h⟩|⟨hl,h⟩
       · obtain ⟨m',CW,hk⟩:=cU h
         obtain ⟨rfl,lP⟩:=AV CW;have hl:l=[]:=by simpa using hl
         subst hl;refine ⟨_,_,?_,Good.new hS (b:= .arr q m') (q:= .arr (alF q) (m'.map (RT.pv q))) (v:= .own (alF s) alJ) (p:= .own (alF s) (alF q) 0 (alF m') (alF m') alJ) (rd:=t::wO vy) rfl ⟨alF q,alF m',rfl,.inl ⟨q,m',mX,rfl,rfl⟩⟩,hk⟩;rw [wW,hx];unfold jh;rw [Bm];subst he;cases m' with
         |nil=>simp [hS.len,CR]
         |cons a m'=>
          have h2:IR ((a::m').length) fa=alI:=by simp [fa] at lP ⊢;omega
          simp only [ad6] at h2;simp [hS.len,CR,h2,Hw]
       have hl:l≠[]:=by intro e;subst e;cases hl
       have Kz:(alF l)≠0:=by intro e;exact hl (aem.1 e)
       have hb0:M2 (alF l) 0=alJ:=by
        cases hb:M2 (alF l) 0 with
        |false=>rfl
        |true=>exact absurd (pp hb) Kz
       rcases fF h with ⟨hm,h⟩|⟨hm,h⟩
       · have hm:m2=[]:=by simpa using hm
         subst hm;refine hY.rd hS h ?_ ⟨_,_,rfl,dm⟩;rw [wW,hx];unfold jh;rw [Bm];simp [hb0,CR]
       obtain ⟨l',mU,hk⟩:=cU h
       obtain ⟨rfl,lP⟩:=yA mU;refine ⟨_,_,?_,Good.new hS (b:= .arr q (l++m2)) (q:= .arr (alF q) ((l++m2).map (RT.pv q))) (v:= .own (alF s) alJ) (p:= .own (alF s) (alF q) 0 (l++m2).length (l++m2).length alJ) (rd:=t::wO vy) rfl ⟨alF q,(l++m2).length,rfl,.inl ⟨q,l++m2,mX,rfl,rfl⟩⟩,hk⟩;rw [wW,hx];unfold jh;rw [Bm];subst he;cases m2 with
       |nil=>cases hm
       |cons a m2=>
        have h2:IR (alF l+(a::m2).length) fa=alI:=by simp [fa] at lP ⊢;omega
        have h3:IR (alF l+(alF m2+1)) (alF l)=alJ:=by
         cases hb:IR (alF l+(alF m2+1)) (alF l) with
         |false=>rfl
         |true=>have:=PP hb;omega
        simp only [ad6] at h2;simp [hS.len,CR,h2,h3,Hw,adI]
      |false=>
       dsimp only at h;rcases fF h with ⟨hm,h⟩|⟨hm,h⟩
       · have hm:m2=[]:=by simpa using hm
         subst hm;refine hY.rd hS h ?_ ⟨_,_,rfl,dm⟩;rw [wW,hx];unfold jh;rw [Bm];simp [CR]
       obtain ⟨hz,h⟩:=sF h
       obtain ⟨l',mU,hk⟩:=cU h;obtain ⟨rfl,lP⟩:=yA mU;have c9:(CC [t] (s.set t .dead)).length=(alF s):=by rw [wS];simp
       refine ⟨_,_,?_,Good.put hS (b:= .dead) (q:= .dead) (l:=[.arr q (l++m2)]) (ql:=[.arr (alF q) ((l++m2).map (RT.pv q))]) (v:= .own (alF s) alJ) (p:= .own (alF s) (alF q) 0 (l++m2).length (l++m2).length alJ) (rd:=wO vy) cy (.inr rfl) rfl rfl
        (fun j b hj=>by
         cases j with
         |zero=>simp at hj;subst hj;exact ⟨_,rfl,rfl⟩
         |succ j=>simp at hj)
        ⟨alF q,(l++m2).length,rfl,.inl ⟨q,l++m2,by rw [<- c9];exact mX,rfl,rfl⟩⟩,hk⟩
       rw [wW,hx];unfold jh;rw [Bm];subst he;cases m2 with
       |nil=>cases hm
       |cons a m2=>
        have h2:IR (alF l+(a::m2).length) fa=alI:=by simp [fa] at lP ⊢;omega
        have h3:IR (alF l+(alF m2+1)) (alF l)=alJ:=by
         cases hb:IR (alF l+(alF m2+1)) (alF l) with
         |false=>rfl
         |true=>have:=PP hb;omega
        simp only [ad6] at h2;simp [hS.len,CR,h2,h3,Hw,hz,adI]
    |_=>cases h
  |pre t len cap ex=>
   dsimp only at h;simp only [cC] at h;generalize cy:s[t]? =b at h;cases b with
   |none=>cases h
   |some b=>
    cases b with
    |arr r l=>
     dsimp only at h;cases TY:sU q r m with
     |none=>rw [TY] at h;cases h
     |some m2=>
      rw [TY] at h;dsimp only at h;obtain ⟨rfl,hmp,KB⟩:=BQ TY;obtain ⟨e',hx,dm⟩:=hx;have:=dm.inv cy;subst this;rw [<- hmp] at Bm;have Hw:=hS.arr cy;obtain ⟨hex,h⟩:=sF h;subst hex;rcases fF h with ⟨hm,h⟩|⟨hm,h⟩
      · have hm:m2=[]:=by simpa using hm
        subst hm;refine hY.rd hS h ?_ ⟨_,rfl,dm⟩;rw [wW,hx];unfold jh;rw [Bm];simp [CR]
      rcases fF h with ⟨c1,h⟩|⟨c1,h⟩
      · obtain ⟨KA,hk⟩:=iP h
        simp only [rc,ad5] at KA;obtain ⟨c2,c3⟩:=KA;have c2':=PP c2;refine ⟨_,_,?_,Good.put hS (b:= .arr q (fA l len m2)) (q:= .arr (alF q) ((fA l len m2).map (RT.pv q))) (l:=[]) (ql:=[]) (v:= .pre t (len+alF m2) cap alJ) (p:= .own t (alF q) 0 (len+alF m2) cap alJ) (rd:=wO vy) cy (.inl ⟨_,rfl,BZ _ _ _ c2'⟩) rfl rfl
         (fun j b hj=>by simp at hj) ⟨alF q,rfl,?_⟩,hk⟩
        · rw [wW,hx]
          unfold jh;rw [Bm];subst he;have kX:lE (0+len) (m2.map (RT.pv q)) (l.map (RT.pv q))=(fA l len m2).map (RT.pv q):=by rw [ur _ _ _ (by simp;omega),FK,aet]
          cases m2 with
          |nil=>cases hm
          |cons a m2=>simp only [ad6] at c1;simp only [adz] at kX ⊢;simp only [Hw,adB,ajh,NE,if_false,ad6,ady,c1,if_true,c3,kX,CR]
        have:=Ad.fr' (s:=s) (s':=CC [t] (s.set t (.arr q (fA l len m2)))++[]) dm ((Fr.dg (ts:=[t]) (Fr.set cy (.inl ⟨_,rfl,BZ _ _ _ c2'⟩))).trans (Fr.app [t] _ []))
        exact this
      obtain ⟨hz0,h⟩:=sF h
      have hz:has z t=alJ:=by
       cases hh:has z t with
       |false=>rfl
       |true=>rw [hh] at hz0;cases hz0
      obtain ⟨l',mU,h⟩:=cU h;obtain ⟨AD,hk⟩:=iP h;obtain ⟨arw,lP⟩:=yA mU;subst arw;have axa:=PP AD;have Ny:(l.take len).length=len:=by rw [adG];omega
      rw [Ny] at lP;have c9:(CC [t] (s.set t .dead)).length=(alF s):=by rw [wS];simp
      have hal:(l.take len++m2).length=len+(alF m2):=by rw [aeK,Ny]
      refine ⟨_,_,?_,Good.put hS (b:= .dead) (q:= .dead) (l:=[.arr q (l.take len++m2)]) (ql:=[.arr (alF q) ((l.take len++m2).map (RT.pv q))]) (v:= .own (alF s) alJ) (p:= .own (alF s) (alF q) 0 (l.take len++m2).length (l.take len++m2).length alJ) (rd:=wO vy) cy (.inr rfl) rfl rfl
       (fun j b hj=>by
        cases j with
        |zero=>simp at hj;subst hj;exact ⟨_,rfl,rfl⟩
        |succ j=>simp at hj)
       ⟨alF q,(l.take len++m2).length,rfl,.inl ⟨q,l.take len++m2,by rw [<- c9];exact mX,rfl,rfl⟩⟩,hk⟩
      rw [wW,hx];unfold jh;rw [Bm];subst he;cases m2 with
      |nil=>cases hm
      |cons a m2=>
       have h2:IR (len+(alF m2+1)) fa=alI:=by simp [fa] at lP ⊢;omega
       simp only [ad6] at c1 hal;simp only [adz,ad6,ady,Hw,adB,ajh,NE,if_false,c1,h2,hz,hS.len,CR,hal,adK,adN,adH]
    |_=>cases h
  |_=>cases h
end
end Go.Vm
/- Operation by operation: all of them. -/
namespace Go.Vm
section
variable {R' ρ : Type} {w : R' -> ρ} {y : ρ} {s : List SB} {ps : cK} {e : SE} {pe : Env} {z : List Nat} {k : gp -> gM R'}
theorem Ri (hE:ek s e pe) (hS:cN s ps) {esz:Nat} {zero:Row} {x:fS} (h:mQ e s z (.clear esz zero x) k ρ w=alG y):hY s ps (bI pe ps z (.clear esz zero x)) k ρ w y:=by
 simp only [mQ] at h;have hx:=dX hE x;unfold Ty at h;generalize cf e x=v at h hx;cases v with
 |part t off len cap ex=>
  simp only [cC] at h;generalize cy:s[t]? =b at h;cases b with
  |none=>cases h
  |some b=>
   cases b with
   |arr r l=>
    dsimp only at h;cases hq:Fq zero with
    |none=>rw [hq] at h;cases h
    |some q=>
     rw [hq] at h;dsimp only at h;obtain ⟨hc,h1⟩:=db h;simp only [rc] at hc;obtain ⟨hqr,he⟩:=hc;have hqr:=vW hqr;have he:=pp he;obtain ⟨e',hx,dm⟩:=hx;have:=dm.inv cy;subst this;subst hqr;subst he;rcases fF h1 with ⟨hl,hk⟩|⟨hl,hk⟩
     · have hl:=pp hl
       subst hl;exact hY.val hS hk (by simp only [bI,hx]) rfl
     obtain ⟨KA,hk⟩:=iP hk
     simp only [rc,ad5] at KA;obtain ⟨c1,c2⟩:=KA;have c1':=PP c1;have c9:=BZ l (adF len (RT.zero q)) off (by simpa using c1');refine ⟨_,_,?_,Good.TL hS (b:= .arr q (fA l off (adF len (RT.zero q)))) (q:= .arr (alF q) ((fA l off (adF len (RT.zero q))).map (RT.pv q))) (rd:=[]) cy (.inl ⟨_,rfl,c9⟩) rfl,hk⟩;cases len with
     |zero=>cases hl
     |succ len=>
      have kX:lE off (adF (len+1) zero) (l.map (RT.pv q))=(fA l off (adF (len+1) (RT.zero q))).map (RT.pv q):=by rw [FK,ur _ _ _ (by simpa using c1')];simp [BW hq]
      simp only [bI,hx,hS.arr cy,adB,c2,ae7,adA,if_true,kX]
   |_=>cases h
 |_=>cases h
theorem AW (hS:cN s ps) {t off len cap:Nat} {ex:Bool} {r:List PT} {l:List (RT r)} {x yy:fS} {vy:SV} (cy:s[t]? =alG (.arr r l)) (hx:x.ev pe= .own t (alF r) off len cap ex) (Td:R s vy (yy.ev pe))
 (h:Fs s z t r l off len vy k ρ w=alG y):hY s ps (bI pe ps z (.copy (alF r) x yy)) k ρ w y:=by
 unfold Fs at h;cases hc:Aa s vy with
 |none=>rw [hc] at h;cases h
 |some cc=>
  obtain ⟨q,m⟩:=cc;rw [hc] at h;dsimp only at h;cases TY:sU q r m with
  |none=>rw [TY] at h;cases h
  |some m2=>
   rw [TY] at h;dsimp only at h;obtain ⟨hqr,hmp,KB⟩:=BQ TY;subst hqr;obtain ⟨Bm,CR⟩:=PJ hS Td hc;rw [<- hmp] at Bm;have FL:(m2.map (RT.pv q)).take len=(m2.take len).map (RT.pv q):=by rw [adH]
   generalize m2.take len=mm at h FL;rcases fF h with ⟨hm,hk⟩|⟨hm,hk⟩
   · have hm:mm=[]:=by simpa using hm
     subst hm;refine hY.rd hS hk ?_ rfl;simp only [bI,Bm,hx,FL,akT,CR]
   obtain ⟨KA,hk⟩:=iP hk
   simp only [rc,ad5] at KA;obtain ⟨c1,c2⟩:=KA;have c1':=PP c1;have c9:=BZ l mm off c1';refine ⟨_,_,?_,Good.put hS (b:= .arr q (fA l off mm)) (q:= .arr (alF q) ((fA l off mm).map (RT.pv q))) (l:=[]) (ql:=[]) (v:= .int .i64 (.ofNat (alF mm))) (p:= .int .i64 (.ofNat (alF mm))) (rd:=wO vy) cy (.inl ⟨_,rfl,c9⟩) rfl rfl (fun j b hj=>by simp at hj) rfl,hk⟩;have kX:lE off (mm.map (RT.pv q)) (l.map (RT.pv q))=(fA l off mm).map (RT.pv q):=by rw [FK,ur _ _ _ (by simpa using c1')]
   cases mm with
   |nil=>cases hm
   |cons a mm=>simp only [adz] at kX FL;simp only [bI,Bm,hx,FL,hS.arr cy,adB,c2,ae7,adA,if_true,kX,CR,ady,ad6]
theorem TZ (hE:ek s e pe) (hS:cN s ps) {esz:Nat} {x yy:fS} (h:mQ e s z (.copy esz x yy) k ρ w=alG y):hY s ps (bI pe ps z (.copy esz x yy)) k ρ w y:=by
 simp only [mQ] at h;have hx:=dX hE x;have Td:=dX hE yy;unfold ad3 at h;generalize cf e yy=vy at h Td;generalize cf e x=v at h hx;cases v with
 |own t ex=>
  simp only [cC] at h;generalize cy:s[t]? =b at h;cases b with
  |none=>cases h
  |some b=>
   cases b with
   |arr r l=>obtain ⟨he,hk⟩:=db h;have he:=pp he;subst he;obtain ⟨e',n',hx,dm⟩:=hx;obtain ⟨rfl,rfl⟩:=dm.inv cy;exact AW hS cy hx Td hk
   |_=>cases h
 |pre t len cap ex=>
  simp only [cC] at h;generalize cy:s[t]? =b at h;cases b with
  |none=>cases h
  |some b=>
   cases b with
   |arr r l=>obtain ⟨he,hk⟩:=db h;have he:=pp he;subst he;obtain ⟨e',hx,dm⟩:=hx;have:=dm.inv cy;subst this;exact AW hS cy hx Td hk
   |_=>cases h
 |part t off len cap ex=>
  simp only [cC] at h;generalize cy:s[t]? =b at h;cases b with
  |none=>cases h
  |some b=>
   cases b with
   |arr r l=>obtain ⟨he,hk⟩:=db h;have he:=pp he;subst he;obtain ⟨e',hx,dm⟩:=hx;have:=dm.inv cy;subst this;exact AW hS cy hx Td hk
   |_=>cases h
 |_=>cases h
theorem Rj (hE:ek s e pe) (hS:cN s ps) {x1 x2:fS} (h:mQ e s z (.DD x1 x2) k ρ w=alG y):hY s ps (bI pe ps z (.DD x1 x2)) k ρ w y:=by
 simp only [mQ] at h;have hx:=dX hE x1;have hy:=dX hE x2;generalize cf e x1=v at h hx;generalize cf e x2=u at h hy;cases v with
 |sl r l=>
  cases u with
  |sl q m=>have hx:x1.ev pe= .sl (alF r) alJ (l.map (RT.pv r)):=hx;have hy:x2.ev pe= .sl (alF q) alJ (m.map (RT.pv q)):=hy;refine ⟨_,_,?_,Good.new hS (b:= .box [.sl r l,.sl q m]) (q:= .box [.sl (alF r) alJ (l.map (RT.pv r)),.sl (alF q) alJ (m.map (RT.pv q))]) (v:= .part (alF s) 0 2 2 alI) (p:= .own (alF s) 1 0 2 2 alI) (rd:=[]) ⟨_,rfl,_,_,rfl,rfl,_,_,rfl,rfl,rfl⟩ ⟨1,rfl,.inr (.inr ⟨_,mX,rfl⟩)⟩,h⟩;simp only [bI,hx,hy,hS.len];rfl
  |_=>cases h
 |_=>cases h
theorem Xi (hE:ek s e pe) (hS:cN s ps) {op:lA} (h:mQ e s z op k ρ w=alG y):hY s ps (bI pe ps z op) k ρ w y:=by
 cases op with
 |Sj x=>exact hY.val hS h rfl (dX hE x)
 |pick c a b=>exact TR hE hS h
 |bin op a b=>exact W5 hE hS h
 |KE n a b=>exact TM hE hS h
 |eqc n g a b=>exact W6 hE hS h
 |un op a=>exact afk hE hS h
 |conv a x=>exact TO hE hS h
 |len x=>exact W7 hE hS h
 |Na n=>exact hY.val hS h rfl rfl
 |box x=>exact W9 hE hS h
 |alloc c=>exact Re hS h
 |build z p=>exact Rc hE hS h
 |Bn a b c d=>exact Rh hE hS h
 |DD a b=>exact Rj hE hS h
 |load a p=>exact TV hE hS h
 |store a p x=>exact Rg hE hS h
 |KF x=>exact TP hE hS h
 |KG o x=>exact TQ hE hS h
 |ju a o x=>exact Xa hE hS h
 |KH a x i=>exact TS hE hS h
 |DE n a x i=>exact Rf hE hS h
 |idx n a g x i=>exact Xf hE hS h
 |KI x i=>exact TU hE hS h
 |Qz a x l h' m=>exact Xg hE hS h
 |mks a z l c=>exact Xh hE hS h
 |mkf f a b=>exact Xc hE hS h
 |mkm m=>exact Xd hS h
 |lookup n z o m q=>exact N1 hE hS h
 |I4 n m q x=>exact TX hE hS h
 |ext i x=>exact Xb hE hS h
 |append a x b=>exact N3 hE hS h
 |copy a x b=>exact TZ hE hS h
 |clear a z x=>exact Ri hE hS h
 |mm m x xs=>exact afl hE hS h
 |call m f a=>cases h
 |xF x a=>cases h
 |bad=>cases h
mutual
theorem ank {bx:Nat->Option (List SV)} {T0:Nat->Option (List PV)} (hS:cN s ps) (hb: ∀t l,bx t=alG l-> ∃q,T0 t=alG q/\qJ l=alG q): ∀{v u:SV} {p:PV},R s v p->Ic s bx v=alG u-> ∃q,CE ps T0 p=alG q/\sW u=alG q
 | .int k n,u,p,h,hx=>by injection hx with hx;subst hx;rw [show p=_ from h];exact ⟨_,rfl,rfl⟩
 | .bool b,u,p,h,hx=>by injection hx with hx;subst hx;rw [show p=_ from h];exact ⟨_,rfl,rfl⟩
 | .str x,u,p,h,hx=>by injection hx with hx;subst hx;rw [show p=_ from h];exact ⟨_,rfl,rfl⟩
 | .eg,u,p,h,hx=>by injection hx with hx;subst hx;rw [show p=_ from h];exact ⟨_,rfl,rfl⟩
 | .agg cs,u,p,h,hx=>by
  obtain ⟨q,rfl,h⟩:=h;simp only [Ic] at hx;split at hx
  · rename_i l hl
    injection hx with hx;subst hx;obtain ⟨q',h1,h2⟩:=u6 hS hb h hl;exact ⟨.agg q',by simp only [CE,h1];rfl,by simp only [sW,h2]⟩
  cases hx
 | .cj cs,u,p,h,hx=>by
  obtain ⟨q,rfl,h⟩:=h;simp only [Ic] at hx;split at hx
  · rename_i l hl
    injection hx with hx;subst hx;obtain ⟨q',h1,h2⟩:=u6 hS hb h hl;exact ⟨.cj q',by simp only [CE,h1];rfl,by simp only [sW,h2]⟩
  cases hx
 | .sl r l,u,p,h,hx=>by injection hx with hx;subst hx;rw [show p=_ from h];exact ⟨_,rfl,rfl⟩
 | .nil e c,u,p,h,hx=>by injection hx with hx;subst hx;rw [show p=_ from h];exact ⟨_,rfl,rfl⟩
 | .own t ex,u,p,h,hx=>by
  simp only [Ic,cC] at hx;split at hx
  · rename_i r l cy
    injection hx with hx;subst hx;obtain ⟨e,n,rfl,dm⟩:=h;obtain ⟨rfl,rfl⟩:=dm.inv cy;refine ⟨.sl (alF r) alJ (l.map (RT.pv r)),?_,rfl⟩;simp only [CE,hS.arr cy,adK];rw [adI (by simp)]
  cases hx
 | .pre t len cap ex,u,p,h,hx=>by
  simp only [Ic,cC] at hx;split at hx
  · rename_i r l cy
    injection hx with hx;subst hx;obtain ⟨e,rfl,dm⟩:=h;have:=dm.inv cy;subst this;refine ⟨.sl (alF r) alJ ((l.take len).map (RT.pv r)),?_,rfl⟩;simp only [CE,hS.arr cy,adK,adH]
  cases hx
 | .part t off len cap ex,u,p,h,hx=>by
  simp only [Ic,cC] at hx;split at hx
  · rename_i r l cy
    injection hx with hx;subst hx;obtain ⟨e,rfl,dm⟩:=h;have:=dm.inv cy;subst this;refine ⟨.sl (alF r) alJ (((l.drop off).take len).map (RT.pv r)),?_,rfl⟩;simp only [CE,hS.arr cy,adH,aei]
  cases hx
 | .pa t r i a off,u,p,h,hx=>by
  simp only [Ic,cC] at hx;split at hx
  · rename_i q l cy
    injection hx with hx;subst hx;obtain ⟨rfl,dm⟩:=h;obtain ⟨rfl,hg⟩:=dm.inv cy;obtain ⟨m,rfl,hm⟩:=nU hg;refine ⟨.bO (RT.pv r a) off,?_,by simp only [sW,RT.Ih]⟩;have CW:(l.map (RT.pv r))[m]? =alG (RT.pv r a):=by simp [hm]
    have e1:(adQ m).toNat=m:=rfl;simp only [CE,hS.arr cy,e1,CW];rfl
  cases hx
 | .bp t n off,u,p,h,hx=>by
  simp only [Ic,cC] at hx;split at hx
  · rename_i cs cy
    split at hx
    · rename_i l hl
      injection hx with hx;subst hx;rw [show p=_ from h];obtain ⟨q,h1,h2⟩:=hb t l hl;obtain ⟨c,h3,_⟩:=hS.box cy;refine ⟨.bO q off,?_,by simp only [sW,h2]⟩;simp only [CE,h3,adB,if_true,h1];rfl
    cases hx
  cases hx
 | .bO cs off,u,p,h,hx=>by
  obtain ⟨q,rfl,h⟩:=h;simp only [Ic] at hx;split at hx
  · rename_i l hl
    injection hx with hx;subst hx;obtain ⟨q',h1,h2⟩:=u6 hS hb h hl;exact ⟨.bO q' off,by simp only [CE,h1];rfl,by simp only [sW,h2]⟩
  cases hx
 | .eO f a b,u,p,h,hx=>by
  obtain ⟨pa,pb,rfl,h1,h2⟩:=h;simp only [Ic] at hx;split at hx
  · rename_i x y' h3 h4
    injection hx with hx;subst hx;obtain ⟨qa,h5,h6⟩:=u6 hS hb h1 h3;obtain ⟨qb,h7,h8⟩:=u6 hS hb h2 h4;exact ⟨.eO f qa qb,by simp only [CE,h5,h7],by simp only [sW,h6,h8]⟩
  cases hx
 | .jk,_,_,_,hx| .undef,_,_,_,hx| .jR,_,_,_,hx| .pb _ _ _,_,_,_,hx| .mp _,_,_,_,hx=>by cases hx
theorem u6 {bx:Nat->Option (List SV)} {T0:Nat->Option (List PV)} (hS:cN s ps) (hb: ∀t l,bx t=alG l-> ∃q,T0 t=alG q/\qJ l=alG q): ∀{v u:List SV} {p:List PV},RL s v p->sV s bx v=alG u-> ∃q,CF ps T0 p=alG q/\qJ u=alG q
 | [],u,p,h,hx=>by injection hx with hx;subst hx;rw [show p=_ from h];exact ⟨_,rfl,rfl⟩
 |x::xs,u,p,h,hx=>by
  obtain ⟨q,qs,rfl,h1,h2⟩:=h.cons_inv;simp only [sV] at hx;split at hx
  · rename_i y' ys h3 h4
    injection hx with hx;subst hx;obtain ⟨a,h5,h6⟩:=ank hS hb h1 h3;obtain ⟨as,h7,h8⟩:=u6 hS hb h2 h4;exact ⟨a::as,by simp only [CF,h5,h7],eX.2 ⟨a,as,rfl,h6,h8⟩⟩
  cases hx
end
theorem Ey (hS:cN s ps): ∀(n t:Nat) (l:List SV),kZ s n t=alG l-> ∃q,x9 ps n t=alG q/\qJ l=alG q
 |0,t,l,h=>by cases h
 |n+1,t,l,h=>by
  simp only [kZ,cC] at h;split at h
  · rename_i cs cy
    obtain ⟨q,h1,h2⟩:=hS.box cy;obtain ⟨u,h3,h4⟩:=u6 hS (Ey hS n) h2 h;exact ⟨u,by simp only [x9,h1,h3],h4⟩
  cases h
mutual
theorem T1 {bx T0:Nat->List Nat} (hb: ∀t,bx t=T0 t): ∀{v:SV} {p:PV},R s v p->v.sure=alI->NO bx v=jv T0 p
 | .jk,_,_,h=>by cases h
 | .undef,p,h,_| .jR,p,h,_| .eg,p,h,_| .int _ _,p,h,_| .bool _,p,h,_| .str _,p,h,_| .sl _ _,p,h,_| .nil _ _,p,h,_=>by rw [show p=_ from h];rfl
 | .agg cs,p,h,hs=>by obtain ⟨q,rfl,h⟩:=h;exact AX hb h hs
 | .cj cs,p,h,hs=>by obtain ⟨q,rfl,h⟩:=h;exact AX hb h hs
 | .own t ex,p,h,_=>by obtain ⟨e,n,rfl,_⟩:=h;rfl
 | .pre t a b c,p,h,_=>by obtain ⟨e,rfl,_⟩:=h;rfl
 | .part t o a b c,p,h,_=>by obtain ⟨e,rfl,_⟩:=h;rfl
 | .pa t r i a o,p,h,_=>by obtain ⟨rfl,_⟩:=h;simp only [NO,jv,hb]
 | .pb t i o,p,h,_=>by obtain ⟨e,rfl,_⟩:=h;simp only [NO,jv,hb]
 | .bp t n o,p,h,_=>by rw [show p=_ from h];simp only [NO,jv,hb]
 | .bO cs o,p,h,hs=>by obtain ⟨q,rfl,h⟩:=h;exact AX hb h hs
 | .mp t,p,h,_=>by rw [show p=_ from h];rfl
 | .eO f a b,p,h,hs=>by obtain ⟨pa,pb,rfl,h1,h2⟩:=h;simp only [SV.sure,rc] at hs;simp only [NO,jv,AX hb h1 hs.1,AX hb h2 hs.2]
theorem AX {bx T0:Nat->List Nat} (hb: ∀t,bx t=T0 t): ∀{v:List SV} {p:List PV},RL s v p->mO v=alI->rX bx v=dL T0 p
 | [],p,h,_=>by rw [show p=_ from h];rfl
 |x::xs,p,h,hs=>by obtain ⟨q,qs,rfl,h1,h2⟩:=h.cons_inv;simp only [mO,rc] at hs;simp only [rX,dL,T1 hb h1 hs.1,AX hb h2 hs.2]
end
end
end Go.Vm
/- The head of a loop: what the typed machine keeps there, the logical machine keeps there. -/
namespace Go.Vm
section
variable {s : List SB} {ps : cK}
mutual
theorem anl {n:Nat} (hS:cN s ps) (hB: ∀t l,kZ s n t=alG l->xZ s n t=dA ps n t): ∀{v u:SV} {p:PV},R s v p->Ic s (kZ s n) v=alG u->NO (xZ s n) v=jv (dA ps n) p
 | .int _ _,_,p,h,_| .bool _,_,p,h,_| .str _,_,p,h,_| .eg,_,p,h,_| .sl _ _,_,p,h,_| .nil _ _,_,p,h,_=>by rw [show p=_ from h];rfl
 | .agg cs,u,p,h,hx=>by
  obtain ⟨q,rfl,h⟩:=h;simp only [Ic] at hx;split at hx
  · rename_i l hl;exact Af hS hB h hl
  cases hx
 | .cj cs,u,p,h,hx=>by
  obtain ⟨q,rfl,h⟩:=h;simp only [Ic] at hx;split at hx
  · rename_i l hl;exact Af hS hB h hl
  cases hx
 | .own t ex,_,p,h,_=>by obtain ⟨e,n,rfl,_⟩:=h;rfl
 | .pre t a b c,_,p,h,_=>by obtain ⟨e,rfl,_⟩:=h;rfl
 | .part t o a b c,_,p,h,_=>by obtain ⟨e,rfl,_⟩:=h;rfl
 | .pa t r i a o,_,p,h,hx=>by
  obtain ⟨rfl,dm⟩:=h;simp only [Ic,cC] at hx;split at hx
  · rename_i q l cy
    simp only [NO,jv];cases n with
    |zero=>rfl
    |succ n=>simp only [xZ,dA,cC,cy,hS.arr cy]
  cases hx
 | .bp t m o,u,p,h,hx=>by
  rw [show p=_ from h];simp only [Ic,cC] at hx;split at hx
  · split at hx
    · rename_i l hl
      simp only [NO,jv,hB t l hl]
    cases hx
  cases hx
 | .bO cs o,u,p,h,hx=>by
  obtain ⟨q,rfl,h⟩:=h;simp only [Ic] at hx;split at hx
  · rename_i l hl;exact Af hS hB h hl
  cases hx
 | .eO f a b,u,p,h,hx=>by
  obtain ⟨pa,pb,rfl,h1,h2⟩:=h;simp only [Ic] at hx;split at hx
  · rename_i x y h3 h4
    simp only [NO,jv,Af hS hB h1 h3,Af hS hB h2 h4]
  cases hx
 | .jk,_,_,_,hx| .undef,_,_,_,hx| .jR,_,_,_,hx| .pb _ _ _,_,_,_,hx| .mp _,_,_,_,hx=>by cases hx
theorem Af {n:Nat} (hS:cN s ps) (hB: ∀t l,kZ s n t=alG l->xZ s n t=dA ps n t): ∀{v u:List SV} {p:List PV},RL s v p->sV s (kZ s n) v=alG u->rX (xZ s n) v=dL (dA ps n) p
 | [],_,p,h,_=>by rw [show p=_ from h];rfl
 |x::xs,u,p,h,hx=>by
  obtain ⟨q,qs,rfl,h1,h2⟩:=h.cons_inv;simp only [sV] at hx;split at hx
  · rename_i a b h3 h4
    simp only [rX,dL,anl hS hB h1 h3,Af hS hB h2 h4]
  cases hx
end
theorem T2 {n:Nat} (hS:cN s ps) (hB: ∀t l,kZ s n t=alG l->xZ s n t=dA ps n t): ∀{v:List SV} {p:List PV},RL s v p->NN s (kZ s n) v=alI->rX (xZ s n) v=dL (dA ps n) p
 | [],p,h,_=>by rw [show p=[] from h];rfl
 |x::xs,p,h,hx=>by
  obtain ⟨a,as,rfl,h1,h2⟩:=h.cons_inv;have other: ∀u,Ic s (kZ s n) x=alG u->NN s (kZ s n) xs=alI->rX (xZ s n) (x::xs)=dL (dA ps n) (a::as):=fun u h3 h4=>by simp only [rX,dL,anl hS hB h1 h3,T2 hS hB h2 h4]
  unfold NN at hx;split at hx
  · rename_i t
    rw [show a= .mp t from h1];simp only [rX,dL,NO,jv,T2 hS hB h2 hx]
  split at hx
  · rename_i u h3
    exact other u h3 hx
  cases hx
theorem FM (hS:cN s ps): ∀(n t:Nat) (l:List SV),kZ s n t=alG l->xZ s n t=dA ps n t
 |0,t,l,h=>rfl
 |n+1,t,l,h=>by
  simp only [kZ,cC] at h;split at h
  · rename_i cs cy
    obtain ⟨q,h1,h2⟩:=hS.box cy;simp only [xZ,dA,cC,cy,h1];exact Af hS (FM hS n) h2 h
  cases h
theorem JM {b:SB} {q:ky} (h:RB s b q) (hs:zp b=alI):Ft b=rN q:=by
 cases b with
 |box cs=>obtain ⟨c,rfl,h⟩:=h;exact AX (fun _=>rfl) h hs
 |arr r l=>rw [show q=_ from h];rfl
 |set l=>rw [show q=_ from h];rfl
 |bA p l=>rw [show q=_ from h];rfl
 |dead=>rw [show q=_ from h];rfl
theorem FN (hS:cN s ps): ∀(n:Nat) (ts seen m:List Nat),C2 s n ts seen=alG m->reach ps n ts seen=alG m
 |n,[],seen,m,h=>by cases n<;>(simp only [C2] at h;exact h)
 |0,_::_,_,_,h=>by cases h
 |n+1,t::ts,seen,m,h=>by
  simp only [C2,cC] at h;simp only [reach];cases hh:has seen t with
  |true=>rw [hh] at h;simp only [lc] at h;simp only [if_true];exact FN hS n ts seen m h
  |false=>
   rw [hh] at h;simp only [lm] at h;simp only [NE,if_false];split at h
   · rename_i b cy
     obtain ⟨q,h1,h2⟩:=hS.at_ t b cy;cases hb:zp b with
     |false=>rw [hb] at h;cases h
     |true=>rw [hb] at h;simp only [lc] at h;rw [h1,JM h2 hb] at*;exact FN hS n _ _ m h
   cases h
theorem FO: ∀{t u:Nat} {m:List Nat},idxOf t m=alG u->m[u]? =alG t
 |t,u,[],h=>by cases h
 |t,u,x::m,h=>by
  simp only [idxOf] at h;cases hb:M2 x t with
  |true=>rw [hb] at h;simp at h;subst h;simp [pp hb]
  |false=>rw [hb] at h;simp only [NE,if_false,adC] at h;obtain ⟨v,hv,rfl⟩:=h;simpa using FO hv
def FP (m:List Nat) (s s':List SB):Prop:= ∀(t u:Nat) (b:SB),idxOf t m=alG u->s[t]? =alG b->match b with
 | .arr r l=>s'[u]? =alG (.arr r l)
 | .dead=>s'[u]? =alG .dead
 | .box _=> ∃cs,s'[u]? =alG (.box cs)
 |_=>True
mutual
theorem T3 {m:List Nat} {s':List SB} (hr:FP m s s'): ∀{v u:SV} {p:PV},R s v p->qI m v=alG u-> ∃q,uO m p=alG q/\R s' u q
 | .jk,_,_,_,hx=>by cases hx
 | .undef,u,p,h,hx| .jR,u,p,h,hx| .eg,u,p,h,hx| .int _ _,u,p,h,hx| .bool _,u,p,h,hx| .str _,u,p,h,hx| .sl _ _,u,p,h,hx| .nil _ _,u,p,h,hx=>by injection hx with hx;subst hx;rw [show p=_ from h];exact ⟨_,rfl,rfl⟩
 | .agg cs,u,p,h,hx=>by
  obtain ⟨q,rfl,h⟩:=h;simp only [qI] at hx;split at hx
  · rename_i l hl
    injection hx with hx;subst hx;obtain ⟨q',h1,h2⟩:=uu hr h hl;exact ⟨.agg q',by simp only [uO,h1];rfl,q',rfl,h2⟩
  cases hx
 | .cj cs,u,p,h,hx=>by
  obtain ⟨q,rfl,h⟩:=h;simp only [qI] at hx;split at hx
  · rename_i l hl
    injection hx with hx;subst hx;obtain ⟨q',h1,h2⟩:=uu hr h hl;exact ⟨.cj q',by simp only [uO,h1];rfl,q',rfl,h2⟩
  cases hx
 | .own t ex,u,p,h,hx=>by
  obtain ⟨e,n,rfl,dm⟩:=h;simp only [qI] at hx;split at hx
  · rename_i v hv
    injection hx with hx;subst hx;refine ⟨.own v e 0 n n ex,by simp only [uO,hv];rfl,e,n,rfl,?_⟩;rcases dm with ⟨r,l,h1,h2,h3⟩|h1
    · exact .inl ⟨r,l,hr t v _ hv h1,h2,h3⟩
    exact .inr (hr t v _ hv h1)
  cases hx
 | .pre t len cap ex,u,p,h,hx=>by
  obtain ⟨e,rfl,dm⟩:=h;simp only [qI] at hx;split at hx
  · rename_i v hv
    injection hx with hx;subst hx;refine ⟨.own v e 0 len cap ex,by simp only [uO,hv];rfl,e,rfl,?_⟩;rcases dm with ⟨r,l,h1,h2⟩|h1|⟨cs,h1,h2⟩
    · exact .inl ⟨r,l,hr t v _ hv h1,h2⟩
    · exact .inr (.inl (hr t v _ hv h1))
    obtain ⟨c2,h3⟩:=hr t v _ hv h1
    exact .inr (.inr ⟨c2,h3,h2⟩)
  cases hx
 | .part t off len cap ex,u,p,h,hx=>by
  obtain ⟨e,rfl,dm⟩:=h;simp only [qI] at hx;split at hx
  · rename_i v hv
    injection hx with hx;subst hx;refine ⟨.own v e off len cap ex,by simp only [uO,hv];rfl,e,rfl,?_⟩;rcases dm with ⟨r,l,h1,h2⟩|h1|⟨cs,h1,h2⟩
    · exact .inl ⟨r,l,hr t v _ hv h1,h2⟩
    · exact .inr (.inl (hr t v _ hv h1))
    obtain ⟨c2,h3⟩:=hr t v _ hv h1
    exact .inr (.inr ⟨c2,h3,h2⟩)
  cases hx
 | .pa t r i a off,u,p,h,hx=>by
  obtain ⟨rfl,dm⟩:=h;simp only [qI] at hx;split at hx
  · rename_i v hv
    injection hx with hx;subst hx;refine ⟨.ptr v (alF r) i.toNat off,by simp only [uO,hv];rfl,alF r,rfl,?_⟩;rcases dm with ⟨l,h1,h2⟩|h1
    · exact .inl ⟨r,l,hr t v _ hv h1,by rw [h2];rfl⟩
    exact .inr (hr t v _ hv h1)
  cases hx
 | .pb t i off,u,p,h,hx=>by
  obtain ⟨e,rfl,dm⟩:=h;simp only [qI] at hx;split at hx
  · rename_i v hv
    injection hx with hx;subst hx;refine ⟨.ptr v e i.toNat off,by simp only [uO,hv];rfl,e,rfl,?_⟩;rcases dm with ⟨r,l,h1,h2⟩|h1
    · exact .inl ⟨r,l,hr t v _ hv h1,h2⟩
    exact .inr (hr t v _ hv h1)
  cases hx
 | .bp t n off,u,p,h,hx=>by
  rw [show p=_ from h];simp only [qI] at hx;split at hx
  · rename_i v hv
    injection hx with hx;subst hx;exact ⟨.ptr v n 0 off,by simp only [uO,hv];rfl,rfl⟩
  cases hx
 | .bO cs off,u,p,h,hx=>by
  obtain ⟨q,rfl,h⟩:=h;simp only [qI] at hx;split at hx
  · rename_i l hl
    injection hx with hx;subst hx;obtain ⟨q',h1,h2⟩:=uu hr h hl;exact ⟨.bO q' off,by simp only [uO,h1];rfl,q',rfl,h2⟩
  cases hx
 | .mp t,u,p,h,hx=>by
  rw [show p=_ from h];simp only [qI] at hx;split at hx
  · rename_i v hv
    injection hx with hx;subst hx;exact ⟨.mp v,by simp only [uO,hv];rfl,rfl⟩
  cases hx
 | .eO f a b,u,p,h,hx=>by
  obtain ⟨pa,pb,rfl,h1,h2⟩:=h;simp only [qI] at hx;split at hx
  · rename_i x y h3 h4
    injection hx with hx;subst hx;obtain ⟨qa,h5,h6⟩:=uu hr h1 h3;obtain ⟨qb,h7,h8⟩:=uu hr h2 h4;exact ⟨.eO f qa qb,by simp only [uO,h5,h7],qa,qb,rfl,h6,h8⟩
  cases hx
theorem uu {m:List Nat} {s':List SB} (hr:FP m s s'): ∀{v u:List SV} {p:List PV},RL s v p->uj m v=alG u-> ∃q,zP m p=alG q/\RL s' u q
 | [],u,p,h,hx=>by injection hx with hx;subst hx;rw [show p=_ from h];exact ⟨_,rfl,rfl⟩
 |x::xs,u,p,h,hx=>by
  obtain ⟨q,qs,rfl,h1,h2⟩:=h.cons_inv;simp only [uj] at hx;split at hx
  · rename_i a b h3 h4
    injection hx with hx;subst hx;obtain ⟨a',h5,h6⟩:=T3 hr h1 h3;obtain ⟨b',h7,h8⟩:=uu hr h2 h4;exact ⟨a'::b',by simp only [zP,h5,h7],RL.cons h6 h8⟩
  cases hx
end
theorem afm {m:List Nat} {s':List SB} (hr:FP m s s') {b c:SB} {q:ky} (h:RB s b q) (hx:NQ m b=alG c): ∃q',ox m q=alG q'/\RB s' c q':=by
 cases b with
 |box cs=>
  obtain ⟨p,rfl,h⟩:=h;simp only [NQ] at hx;split at hx
  · rename_i l hl
    injection hx with hx;subst hx;obtain ⟨q',h1,h2⟩:=uu hr h hl;exact ⟨.box q',by simp only [ox,h1];rfl,q',rfl,h2⟩
  cases hx
 |arr r l=>injection hx with hx;subst hx;rw [show q=_ from h];exact ⟨_,rfl,rfl⟩
 |set l=>injection hx with hx;subst hx;rw [show q=_ from h];exact ⟨_,rfl,rfl⟩
 |bA p l=>injection hx with hx;subst hx;rw [show q=_ from h];exact ⟨_,rfl,rfl⟩
 |dead=>injection hx with hx;subst hx;rw [show q=_ from h];exact ⟨_,rfl,rfl⟩
theorem yB {m:List Nat}: ∀{ts:List Nat} {s1:List SB},Hz s m ts=alG s1->alF s1=alF ts/\ ∀(j t:Nat),ts[j]? =alG t-> ∃b c,s[t]? =alG b/\NQ m b=alG c/\s1[j]? =alG c
 | [],s1,h=>by injection h with h;subst h;exact ⟨rfl,fun j t h=>by simp at h⟩
 |t::ts,s1,h=>by
  simp only [Hz,cC] at h;split at h
  · rename_i b hb
    split at h
    · rename_i c r hc hr
      injection h with h;subst h;obtain ⟨h1,h2⟩:=yB hr;refine ⟨by simp [h1],fun j u hj=>?_⟩;cases j with
      |zero=>simp at hj;subst hj;exact ⟨b,c,hb,hc,rfl⟩
      |succ j=>simpa using h2 j u (by simpa using hj)
    cases h
  cases h
theorem C7 (hS:cN s ps) {m:List Nat} {s':List SB} (hr:FP m s s'): ∀{ts:List Nat} {s1:List SB},Hz s m ts=alG s1-> ∃p1,ya ps m ts=alG p1/\alF p1=alF s1/\ ∀(j:Nat) (b:SB),s1[j]? =alG b-> ∃q,p1[j]? =alG q/\RB s' b q
 | [],s1,h=>by injection h with h;subst h;exact ⟨[],rfl,rfl,fun j b h=>by simp at h⟩
 |t::ts,s1,h=>by
  simp only [Hz,cC] at h;split at h
  · rename_i b hb
    split at h
    · rename_i c r hc hr'
      injection h with h;subst h;obtain ⟨q,h1,h2⟩:=hS.at_ t b hb;obtain ⟨q',h3,h4⟩:=afm hr h2 hc;obtain ⟨p1,h5,h6,h7⟩:=C7 hS hr hr';refine ⟨q'::p1,by simp only [ya,h1,h3,h5],by simp [h6],fun j x hj=>?_⟩;cases j with
      |zero=>simp at hj;subst hj;exact ⟨q',rfl,h4⟩
      |succ j=>simpa using h7 j x (by simpa using hj)
    cases h
  cases h
theorem FP.of {m:List Nat} {s1 l:List SB} (h:Hz s m m=alG s1):FP m s (s1++l):=fun t u b hu hb=>by
 have hm:=FO hu;obtain ⟨h1,h2⟩:=yB h;obtain ⟨b',c,h3,h4,h5⟩:=h2 u t hm;rw [hb] at h3;injection h3 with h3;subst h3;have dV:=(ut.1 h5).1;cases b with
 |arr r l'=>injection h4 with h4;subst h4;rw [v6 dV];exact h5
 |dead=>injection h4 with h4;subst h4;rw [v6 dV];exact h5
 |box cs=>
  simp only [NQ] at h4;split at h4
  · injection h4 with h4;subst h4;exact ⟨_,by rw [v6 dV];exact h5⟩
  cases h4
 |_=>trivial
theorem vY: ∀(rk:List (Nat×List PT)) (n:Nat),(rowOf rk n).length=n
 | [],n=>by simp [rowOf]
 |(m,r)::q,n=>by
  simp only [rowOf];cases hc:(M2 m n&&M2 (alF r) n) with
  |true=>simp only [rc] at hc;exact pp hc.2
  |false=>exact vY q n
theorem C8 {rk:List (Nat×List PT)} {e:SE} {m:List Nat}: ∀{live:List (Nat×Option Nat)} {nx:Nat} {e1:SE} {s2:List SB},xN rk e m nx live=alG (e1,s2)-> ∀(j:Nat) (b:SB),s2[j]? =alG b-> ∃r,b= .arr r []
 | [],nx,e1,s2,h,j,b,hj=>by simp only [xN,AC,acl] at h;rw [<- h.2] at hj;simp at hj
 |(t,k)::live,nx,e1,s2,h,j,b,hj=>by
  simp only [xN] at h;split at h
  · split at h
    · rename_i p hp
      simp only [AC,acl] at h;obtain ⟨rfl,rfl⟩:=h;cases j with
      |zero=>simp at hj;exact ⟨_,hj.symm⟩
      |succ j=>exact C8 (e1:=p.1) (s2:=p.2) hp j b (by simpa using hj)
    cases h
  split at h
  · rename_i v' p hv hp
    simp only [AC,acl] at h;obtain ⟨rfl,rfl⟩:=h;exact C8 (e1:=p.1) (s2:=p.2) hp j b hj
  cases h
mutual
theorem C9 {m:List Nat}: ∀{v u:SV},qI m v=alG u->u.sure=alI
 | .jk,_,h=>by cases h
 | .undef,u,h| .jR,u,h| .eg,u,h| .int _ _,u,h| .bool _,u,h| .str _,u,h| .sl _ _,u,h| .nil _ _,u,h=>by injection h with h;subst h;rfl
 | .agg cs,u,h=>by
  simp only [qI] at h;split at h
  · rename_i l hl;injection h with h;subst h;exact nE hl
  cases h
 | .cj cs,u,h=>by
  simp only [qI] at h;split at h
  · rename_i l hl;injection h with h;subst h;exact nE hl
  cases h
 | .bO cs _,u,h=>by
  simp only [qI] at h;split at h
  · rename_i l hl;injection h with h;subst h;exact nE hl
  cases h
 | .own _ _,u,h=>by simp only [qI] at h;split at h<;>first|(injection h with h;subst h;rfl)|cases h
 | .pre _ _ _ _,u,h=>by simp only [qI] at h;split at h<;>first|(injection h with h;subst h;rfl)|cases h
 | .part _ _ _ _ _,u,h=>by simp only [qI] at h;split at h<;>first|(injection h with h;subst h;rfl)|cases h
 | .pa _ _ _ _ _,u,h=>by simp only [qI] at h;split at h<;>first|(injection h with h;subst h;rfl)|cases h
 | .pb _ _ _,u,h=>by simp only [qI] at h;split at h<;>first|(injection h with h;subst h;rfl)|cases h
 | .bp _ _ _,u,h=>by simp only [qI] at h;split at h<;>first|(injection h with h;subst h;rfl)|cases h
 | .mp _,u,h=>by simp only [qI] at h;split at h<;>first|(injection h with h;subst h;rfl)|cases h
 | .eO f a b,u,h=>by
  simp only [qI] at h;split at h
  · rename_i x y h1 h2
    injection h with h;subst h;simp only [SV.sure,nE h1,nE h2,adA]
  cases h
theorem nE {m:List Nat}: ∀{v u:List SV},uj m v=alG u->mO u=alI
 | [],u,h=>by injection h with h;subst h;rfl
 |x::xs,u,h=>by
  simp only [uj] at h;split at h
  · rename_i a b h1 h2
    injection h with h;subst h;simp only [mO,C9 h1,nE h2,adA]
  cases h
end
theorem Xj {s:List SB} {v:SV} {p:PV} (h:R s v p): ∀k:Option Nat,v.sure=alI->R s (JE k v) (HQ k p)
 |none,_=>h
 |some _,hs=>by
  cases v with
  |own t ex=>obtain ⟨e,n,rfl,h⟩:=h;exact ⟨e,n,rfl,h⟩
  |pre t l c ex=>obtain ⟨e,rfl,h⟩:=h;exact ⟨e,rfl,h⟩
  |part t o l c ex=>obtain ⟨e,rfl,h⟩:=h;exact ⟨e,rfl,h⟩
  |jk=>cases hs
  |undef|jR|eg|int _ _|bool _|str _|bp _ _ _|mp _|sl _ _|nil _ _=>rw [show p=_ from h];rfl
  |agg _|cj _|bO _ _=>obtain ⟨q,rfl,h⟩:=h;exact ⟨q,rfl,h⟩
  |eO _ _ _=>obtain ⟨q,q2,rfl,h⟩:=h;exact ⟨q,q2,rfl,h⟩
  |pa _ _ _ _ _=>obtain ⟨rfl,h⟩:=h;exact ⟨rfl,h⟩
  |pb _ _ _=>obtain ⟨q,rfl,h⟩:=h;exact ⟨q,rfl,h⟩
theorem N4 {v:SV} (h:v.sure=alI) (k:Option Nat):(JE k v).sure=alI:=by unfold JE;split<;>first|rfl|exact h
theorem JN {rk:List (Nat×List PT)} {e:SE} {pe:Env} (hE:ek s e pe) {m:List Nat} {s':List SB} (hr:FP m s s'): ∀{live:List (Nat×Option Nat)} {nx:Nat} {e1:SE} {s2:List SB},xN rk e m nx live=alG (e1,s2)->(∀(j:Nat) (b:SB),s2[j]? =alG b->s'[nx+j]? =alG b)->
 ∃p1 q2,rO pe m nx live=alG (p1,q2)/\ek s' e1 p1/\alF q2=alF s2/\ ∀(j:Nat) (b:SB),s2[j]? =alG b-> ∃q,q2[j]? =alG q/\RB s' b q
 | [],nx,e1,s2,h,_=>by simp only [xN,AC,acl] at h;obtain ⟨rfl,rfl⟩:=h;exact ⟨[],[],rfl,rfl,rfl,fun j b h=>by simp at h⟩
 |(t,k)::live,nx,e1,s2,h,hs=>by
  have vU:=hE.lk t;simp only [xN] at h;split at h
  · rename_i kk esz en hv
    split at h
    · rename_i p hp
      simp only [AC,acl] at h;obtain ⟨rfl,rfl⟩:=h;rw [hv] at vU;obtain ⟨p1,q2,h1,h2,h3,h4⟩:=JN (live:=live) (nx:=nx+1) (e1:=p.1) (s2:=p.2) hE hr hp (fun j b hj=>by have:=hs (j+1) b (by simpa using hj);rw [show nx+1+j=nx+(j+1) by omega];exact this);refine ⟨(t,.own nx esz 0 0 0 alJ)::p1,.arr esz []::q2,?_,⟨_,_,rfl,⟨esz,0,rfl,.inl ⟨rowOf rk esz,[],by simpa using hs 0 _ rfl,(vY rk esz).symm,rfl⟩⟩,h2⟩,by simp [h3],fun j b hj=>?_⟩
      · have afo:lk t pe= .sl en alI []:=vU
        simp only [rO,afo,h1];rfl
      cases j with
      |zero=>simp at hj;subst hj;exact ⟨_,rfl,by show _=_;rw [vY];rfl⟩
      |succ j=>simpa using h4 j b (by simpa using hj)
    cases h
  rename_i dW
  split at h
  · rename_i v' p hv hp
    simp only [AC,acl] at h;obtain ⟨rfl,rfl⟩:=h;obtain ⟨q',h5,h6⟩:=T3 hr vU hv;obtain ⟨p1,q2,h1,h2,h3,h4⟩:=JN (live:=live) (e1:=p.1) (s2:=p.2) hE hr hp hs;refine ⟨(t,HQ _ q')::p1,q2,?_,⟨_,_,rfl,Xj h6 _ (C9 hv),h2⟩,h3,h4⟩;simp only [rO];split
    · rename_i esz x hx
      exfalso;rw [hx] at vU;generalize Hm t e=v0 at vU hv dW;cases v0 with
      |jk=>cases hv
      |nil e' c=>have afo:PV.sl x alI []= .sl e' c []:=vU;injection afo with h1 h2;subst h2;exact dW _ _ rfl rfl
      |undef|jR|eg|int _ _|bool _|str _|bp _ _ _|mp _=>cases (show PV.sl x alI []=_ from vU)
      |sl r l=>cases (show PV.sl x alI []=_ from vU)
      |agg _|cj _|bO _ _=>obtain ⟨q,hq,_⟩:=vU;cases hq
      |eO _ _ _=>obtain ⟨q,q2,hq,_⟩:=vU;cases hq
      |own _ _=>obtain ⟨q,q2,hq,_⟩:=vU;cases hq
      |pre _ _ _ _=>obtain ⟨q,hq,_⟩:=vU;cases hq
      |part _ _ _ _ _=>obtain ⟨q,hq,_⟩:=vU;cases hq
      |pa _ _ _ _ _=>obtain ⟨hq,_⟩:=vU;cases hq
      |pb _ _ _=>obtain ⟨q,hq,_⟩:=vU;cases hq
    simp only [h5,h1]
  cases h
def aec (s:List SB):Prop:= ∀(t:Nat) (cs:List SV),s[t]? =alG (.box cs)->mO cs=alI
def Il:SE->Prop
 | []=>True
 |(_,v)::r=>v.sure=alI/\Il r
theorem Il.lk: ∀{e:SE},Il e-> ∀t,(Hm t e).sure=alI
 | [],_,t=>rfl
 |(u,v)::r,h,t=>by
  simp only [Hm];cases hb:M2 u t with
  |true=>exact h.1
  |false=>exact Il.lk h.2 t
theorem AY {rk:List (Nat×List PT)} {e:SE} {m:List Nat}: ∀{live:List (Nat×Option Nat)} {nx:Nat} {e1:SE} {s2:List SB},xN rk e m nx live=alG (e1,s2)->Il e1
 | [],nx,e1,s2,h=>by simp only [xN,AC,acl] at h;rw [<- h.1];trivial
 |(t,k)::live,nx,e1,s2,h=>by
  simp only [xN] at h;split at h
  · split at h
    · rename_i p hp
      simp only [AC,acl] at h;obtain ⟨rfl,rfl⟩:=h;exact ⟨rfl,AY (e1:=p.1) (s2:=p.2) hp⟩
    cases h
  split at h
  · rename_i v' p hv hp
    simp only [AC,acl] at h;obtain ⟨rfl,rfl⟩:=h;exact ⟨N4 (C9 hv) _,AY (e1:=p.1) (s2:=p.2) hp⟩
  cases h
theorem Io: ∀{l:List SV},mO l=alI-> ∀{n:Nat} {v:SV},nth l n=alG v->v.sure=alI
 | [],_,_,_,h=>by cases h
 |x::xs,hs,0,v,h=>by injection h with h;subst h;simp only [mO,rc] at hs;exact hs.1
 |x::xs,hs,n+1,v,h=>by simp only [mO,rc] at hs;exact Io hs.2 (n:=n) h
theorem Ip: ∀{l:List SV},mO l=alI-> ∀(n:Nat) {v:SV},v.sure=alI->mO (l.set n v)=alI
 | [],_,n,v,_=>rfl
 |x::xs,hs,0,v,h=>by simp only [mO,rc] at hs;simp [mO,h,hs.2]
 |x::xs,hs,n+1,v,h=>by simp only [mO,rc] at hs;simp [mO,hs.1,Ip hs.2 n h]
theorem RL.set {s:List SB}: ∀{xs:List SV} {ps:List PV},RL s xs ps-> ∀(n:Nat) {v:SV} {p:PV},R s v p->RL s (xs.set n v) (ps.set n p)
 | [],ps,h,n,v,p,_=>by rw [show ps=[] from h];exact RL.nil
 |x::xs,ps,h,0,v,p,hv=>by obtain ⟨a,q,rfl,h1,h2⟩:=h.cons_inv;exact RL.cons hv h2
 |x::xs,ps,h,n+1,v,p,hv=>by obtain ⟨a,q,rfl,h1,h2⟩:=h.cons_inv;exact RL.cons h1 (RL.set h2 n hv)
structure Xk (st:qH) (p:St):Prop where
 r:Ae st p
 s:aec st.aD
 e:Il st.env
theorem N5 {rk:List (Nat×List PT)} {st:qH} {p:St} (h:Xk st p) (t c esz:Nat):Xk (Fu rk st t c esz) (rQ p t c esz):=by
 unfold Fu rQ;rw [cC];cases cy:st.aD[t]? with
 |none=>
  have:p.aD[t]? =alH:=by rw [aeh] at cy ⊢;rw [h.r.aD.len];exact cy
  rw [this];exact h
 |some b=>
  obtain ⟨q,h1,h2⟩:=h.r.aD.at_ t b cy;rw [h1];cases b with
  |arr r l=>rw [show q=_ from h2];exact h
  |set l=>rw [show q=_ from h2];exact h
  |bA p l=>rw [show q=_ from h2];exact h
  |dead=>rw [show q=_ from h2];exact h
  |box cs=>
   obtain ⟨pc,rfl,h3⟩:=h2;dsimp only;cases hc:nth cs c with
   |none=>
    have:pc[c]? =alH:=by rw [cC,aeh] at hc;rw [aeh,h3.ny];exact hc
    rw [this];exact h
   |some v=>
    obtain ⟨pv,h4,h5⟩:=h3.nth hc;rw [h4];have anm:=Io (h.s t cs cy) hc;have nA:=h.s t cs cy;have other:(∀e,pv≠ .sl e alI [])->(∀e,v≠ .nil e alI)->Xk (match alG v with
     |some (.nil _ alI)=>{st with aD:=st.aD.set t (.box (cs.set c (.own (alF st.aD) alJ)))++[.arr (rowOf rk esz) []]}
     |_=>st) (match alG pv with
     |some (.sl _ alI [])=>{p with aD:=p.aD.set t (.box (pc.set c (.own (alF p.aD) esz 0 0 0 alJ)))++[.arr esz []]}
     |_=>p):=by
     intro n1 n2;split
     · rename_i e he;injection he with he;exact absurd he (n2 e)
     split
     · rename_i e he;injection he with he;exact absurd he (n1 e)
     exact h
    cases v with
    |jk=>cases anm
    |nil e' cl=>
     have h5':pv= .sl e' cl []:=h5;subst h5';cases cl with
     |false=>exact other (fun e he=>by cases he) (fun e he=>by cases he)
     |true=>
      dsimp only;have dV:=(ut.1 cy).1;have sR:Fr [] st.aD (st.aD.set t (.box (cs.set c (.own (alF st.aD) alJ)))++[.arr (rowOf rk esz) []]):=fun u x hu=>by
       by_cases M9:t=u
       · subst M9;rw [cy] at hu;injection hu with hu;subst hu;exact .inl ⟨_,by rw [v6 (by simpa using dV),If];simp [dV];rfl⟩
       have PM:=(ut.1 hu).1
       have:(st.aD.set t (.box (cs.set c (.own (alF st.aD) alJ)))++[.arr (rowOf rk esz) []])[u]? =alG x:=by rw [v6 (by simpa using PM),If];simp [M9,hu]
       cases x with
       |arr r l=>exact .inl ⟨l,this,rfl,fun _=>rfl⟩
       |dead=>exact this
       |box c2=>exact .inl ⟨c2,this⟩
       |_=>trivial
      have c9:(st.aD.set t (.box (cs.set c (.own (alF st.aD) alJ)))).length=(alF st.aD):=by simp
      have arx:R (st.aD.set t (.box (cs.set c (.own (alF st.aD) alJ)))++[.arr (rowOf rk esz) []]) (.own (alF st.aD) alJ) (.own (alF p.aD) esz 0 0 0 alJ):=by refine ⟨esz,0,by rw [h.r.aD.len],.inl ⟨rowOf rk esz,[],?_,(vY rk esz).symm,rfl⟩⟩;rw [ww (by simp)];simp
      refine ⟨⟨ek.ext sR h.r.env,⟨by simp [h.r.aD.len],fun u x hu=>?_⟩,h.r.fz,h.r.kn⟩,fun u x hu=>?_,h.e⟩
      · rcases aeb u (alF st.aD) with PM|PM
        · rw [v6 (by simpa using PM),If] at hu
          by_cases M9:t=u
          · subst M9
            simp [dV] at hu;subst hu;refine ⟨.box (pc.set c (.own (alF p.aD) esz 0 0 0 alJ)),?_,_,rfl,RL.set (RL.ext sR h3) c arx⟩;rw [v6 (by simp [h.r.aD.len,PM]),If];simp [h.r.aD.len,PM]
          simp [M9] at hu
          obtain ⟨q,h6,h7⟩:=h.r.aD.at_ u x hu;refine ⟨q,?_,h7.ext sR⟩;rw [v6 (by simp [h.r.aD.len,PM]),If];simp [M9,h6]
        rw [ww (by simpa using PM)] at hu
        simp only [c9] at hu;have Wy:u-(alF st.aD)=0:=by
         rcases ajj (u-(alF st.aD)) with h|h
         · exact h
         rw [List.getElem?_eq_none (by simp;omega)] at hu;cases hu
        rw [Wy] at hu;simp at hu;subst hu;refine ⟨.arr esz [],?_,by show _=_;rw [vY];rfl⟩;rw [ww (by simp [h.r.aD.len];omega)];simp [h.r.aD.len,Wy]
      rcases aeb u (alF st.aD) with PM|PM
      · rw [v6 (by simpa using PM),If] at hu
        by_cases M9:t=u
        · subst M9
          simp [dV] at hu;subst hu;exact Ip nA c rfl
        simp [M9] at hu;exact h.s u x hu
      rw [ww (by simpa using PM)] at hu
      cases hj:u- (st.aD.set t (.box (cs.set c (.own (alF st.aD) alJ)))).length with
      |zero=>rw [hj] at hu;simp at hu
      |succ j=>rw [hj] at hu;simp at hu
    |undef|jR|eg|int _ _|bool _|str _|bp _ _ _|mp _=>exact other (fun e he=>by rw [show pv=_ from h5] at he;cases he) (fun e he=>by cases he)
    |sl r l=>exact other (fun e he=>by rw [show pv=_ from h5] at he;cases he) (fun e he=>by cases he)
    |agg _|cj _|bO _ _=>exact other (fun e he=>by obtain ⟨q,hq,_⟩:=h5;rw [hq] at he;cases he) (fun e he=>by cases he)
    |eO _ _ _=>exact other (fun e he=>by obtain ⟨q,q2,hq,_⟩:=h5;rw [hq] at he;cases he) (fun e he=>by cases he)
    |own _ _=>exact other (fun e he=>by obtain ⟨q,q2,hq,_⟩:=h5;rw [hq] at he;cases he) (fun e he=>by cases he)
    |pre _ _ _ _|part _ _ _ _ _|pb _ _ _=>exact other (fun e he=>by obtain ⟨q,hq,_⟩:=h5;rw [hq] at he;cases he) (fun e he=>by cases he)
    |pa _ _ _ _ _=>exact other (fun e he=>by obtain ⟨hq,_⟩:=h5;rw [hq] at he;cases he) (fun e he=>by cases he)
theorem JO {p:St} {t c esz:Nat} (h: ∀cs,p.aD[t]?≠alG (.box cs)):rQ p t c esz=p:=by
 unfold rQ;split
 · rename_i cs nA;exact absurd nA (h cs)
 rfl
theorem T4 {st:qH} {p:St} (h:Xk st p) {v:SV} {q:PV} (hv:R st.aD v q) (hs:v≠ .jk):(∃t,TC v=alG t/\EI q=alG t)\/(TC v=alH/\ ∀t,EI q=alG t-> ∀cs,p.aD[t]?≠alG (.box cs)):=by
 cases v with
 |jk=>exact absurd rfl hs
 |bp u m off=>
  have hq:q= .ptr u m 0 off:=hv;subst hq;cases off with
  |zero=>exact .inl ⟨u,rfl,rfl⟩
  |succ off=>exact .inr ⟨rfl,fun t ht=>by cases ht⟩
 |pb u i off=>
  obtain ⟨e',hq,dm⟩:=hv;subst hq;refine .inr ⟨rfl,fun t ht cs nA=>?_⟩;have:t=u:=by
   unfold EI at ht;split at ht
   · rename_i heq;injection heq with e1;injection ht with ht;rw [<- ht,e1]
   cases ht
  subst this;rcases dm with ⟨r,l,h1,_⟩|h1
  · rw [h.r.aD.arr h1] at nA;cases nA
  obtain ⟨q,h2,h3⟩:=h.r.aD.at_ t _ h1
  rw [nA] at h2;injection h2 with h2;subst h2;cases (show ky.box cs= .dead from h3)
 |pa u r i a off=>
  obtain ⟨hq,dm⟩:=hv;subst hq;refine .inr ⟨rfl,fun t ht cs nA=>?_⟩;have:t=u:=by
   unfold EI at ht;split at ht
   · rename_i heq;injection heq with e1;injection ht with ht;rw [<- ht,e1]
   cases ht
  subst this;rcases dm with ⟨l,h1,_⟩|h1
  · rw [h.r.aD.arr h1] at nA;cases nA
  obtain ⟨q,h2,h3⟩:=h.r.aD.at_ t _ h1
  rw [nA] at h2;injection h2 with h2;subst h2;cases (show ky.box cs= .dead from h3)
 |undef|jR|eg|int _ _|bool _|str _|mp _|sl _ _|nil _ _=>exact .inr ⟨rfl,fun t ht=>by rw [show q=_ from hv] at ht;cases ht⟩
 |agg _|cj _|bO _ _=>exact .inr ⟨rfl,fun t ht=>by obtain ⟨_,rfl,_⟩:=hv;cases ht⟩
 |eO _ _ _=>exact .inr ⟨rfl,fun t ht=>by obtain ⟨_,_,rfl,_⟩:=hv;cases ht⟩
 |own _ _=>exact .inr ⟨rfl,fun t ht=>by obtain ⟨_,_,rfl,_⟩:=hv;cases ht⟩
 |pre _ _ _ _|part _ _ _ _ _=>exact .inr ⟨rfl,fun t ht=>by obtain ⟨_,rfl,_⟩:=hv;cases ht⟩
theorem afp {st:qH} {p:St} (h:Xk st p) {v:SV} {q:PV} (hv:R st.aD v q) (hs:v.sure=alI):(∃t,WW v=alG t/\KJ q=alG t)\/(WW v=alH/\ ∀t,KJ q=alG t-> ∀cs,p.aD[t]?≠alG (.box cs)):=by
 have hj:v≠ .jk:=fun e=>by subst e;cases hs
 by_cases hc: ∃f a b,v= .eO f a b
 · obtain ⟨f,a,b,rfl⟩:=hc
   obtain ⟨pa,pb,rfl,h1,h2⟩:=hv;cases b with
   |nil=>have:pb=[]:=h2;subst this;exact .inr ⟨rfl,fun t ht=>by cases ht⟩
   |cons y ys=>obtain ⟨z,zs,rfl,g1,g2⟩:=h2;exact T4 h g1 (fun e=>by subst e;simp [SV.sure,mO] at hs)
 have e1:WW v=TC v:=by
  cases v with
  |eO f a b=>exact absurd ⟨f,a,b,rfl⟩ hc
  |_=>rfl
 have e2:KJ q=EI q:=by
  cases q with
  |eO f a b=>
   exfalso;cases v with
   |jk=>exact hj rfl
   |eO f a b=>exact hc ⟨f,a,b,rfl⟩
   |bp _ _ _|undef|jR|eg|int _ _|bool _|str _|mp _|sl _ _|nil _ _=>cases (show PV.eO f a b=_ from hv)
   |agg _|cj _|bO _ _|pre _ _ _ _|part _ _ _ _ _|pb _ _ _=>obtain ⟨_,hq,_⟩:=hv;cases hq
   |own _ _=>obtain ⟨_,_,hq,_⟩:=hv;cases hq
   |pa _ _ _ _ _=>obtain ⟨hq,_⟩:=hv;cases hq
  |_=>rfl
 rw [e1,e2];exact T4 h hv hj
theorem nW {rk:List (Nat×List PT)}: ∀(live:List (Nat×Option Nat)) {st:qH} {p:St},Xk st p->Xk (mz rk live st) (kV live p)
 | [],st,p,h=>h
 |(t,k)::live,st,p,h=>by
  cases k with
  |none=>simp only [mz,kV];exact nW live h
  |some n=>
   simp only [mz,kV];cases hn:IR 1000 n with
   |false=>simp only [lm,NE,if_false];exact nW live h
   |true=>
    simp only [lc,if_true];have vU:=h.r.env.lk t;have hsu:=h.e.lk t;rcases afp h vU hsu with ⟨u,e1,e2⟩|⟨e1,e2⟩
    · rw [e1,e2]
      exact nW live (N5 h u _ _)
    rw [e1]
    cases hb:KJ (lk t p.env) with
    |none=>exact nW live h
    |some u=>show Xk (mz rk live st) (kV live (rQ p u (n / 1000-1) (n%1000)));rw [JO (e2 u hb)];exact nW live h
theorem LG {e:SE} {pe:Env} (hE:ek s e pe): ∀{live:List (Nat×Option Nat)},BL e live=alI->Fv e live=live.flatMap fun p=>jv tM (lk p.1 pe)
 | [],_=>rfl
 |(t,k)::live,h=>by simp only [BL,rc] at h;simp only [Fv,al0,LG hE h.2];rw [T1 (fun _=>rfl) (hE.lk t) h.1]
theorem T5: ∀{s':List SB} {s:List SB} {ps:cK} (n:Nat),(alF ps=alF s/\ ∀(t:Nat) (b:SB),s[t]? =alG b-> ∃q,ps[t]? =alG q/\RB s' b q)->Fw s n=alI->NR s n=(ps.take n).flatMap rN
 |s',[],ps,n,h,_=>by have:ps=[]:=aem.1 (by simpa using h.1);subst this;cases n<;>simp [NR]
 |s',b::s,ps,0,h,_=>by simp [NR]
 |s',b::s,ps,n+1,h,hk=>by
  cases ps with
  |nil=>have:=h.1;simp at this
  |cons q ps=>simp only [Fw,rc] at hk;obtain ⟨q',h1,h2⟩:=h.2 0 b rfl;simp at h1;subst h1;simp only [NR,aig,al0,JM h2 hk.1];rw [T5 (s':=s') (ps:=ps) n ⟨by simpa using h.1,fun t x hx=>by simpa using h.2 (t+1) x (by simpa using hx)⟩ hk.2]
theorem PN {s:List SB} {v:SV} {p:PV} (h:R s v p):R s (Ie s v) p:=by
 unfold Ie;split
 · rename_i t ex
   rw [cC];split
   · rename_i r l cy
     obtain ⟨e,n,rfl,dm⟩:=h;obtain ⟨rfl,rfl⟩:=dm.inv cy;exact ⟨alF r,rfl,.inl ⟨r,l,cy,rfl⟩⟩
   exact h
 exact h
theorem PO {s:List SB} (c:Nat): ∀{e:SE} {p:Env},ek s e p->ek s (PC s c e) p
 | [],_,h=>h
 |(t,v)::r,_,h=>by
  obtain ⟨q,qs,rfl,h1,h2⟩:=h;simp only [PC];cases hb:M2 t c with
  |true=>exact ⟨q,qs,rfl,PN h1,h2⟩
  |false=>exact ⟨q,qs,rfl,h1,PO c h2⟩
theorem C': ∀(live:List (Nat×Option Nat)) {st:qH} {p:St},Ae st p->Ae (BK live st) p
 | [],st,p,h=>h
 |(t,k)::r,st,p,h=>by
  simp only [BK];cases hn:IR 1000000 t with
  |true=>exact C' r ⟨PO _ h.env,h.aD,h.fz,h.kn⟩
  |false=>exact C' r h
theorem LH {rk:List (Nat×List PT)} {live:List (Nat×Option Nat)} {st oo:qH} {p:St} (h:Ae st p) (hn:Fx rk live st=alG oo): ∃p1,EJ live p=alG p1/\Ae oo p1:=by
 unfold Fx at hn;cases hc:(BL st.env live&&Fw st.aD st.kn) with
 |false=>rw [hc] at hn;cases hn
 |true=>
  rw [hc] at hn;simp only [lc] at hn;simp only [rc] at hc;split at hn
  · cases hn
  rename_i m hm
  split at hn
  · rename_i s1 e1 s2 h1 h2
    injection hn with hn;subst hn;have ht:NR st.aD st.kn++Fv st.env live=(p.aD.take p.kn).flatMap rN++live.flatMap fun q=>jv tM (lk q.1 p.env):=by rw [LG h.env hc.1,T5 (s':=st.aD) st.kn ⟨h.aD.len,h.aD.at_⟩ hc.2,h.kn]
    rw [ht] at hm;have CW:=FN h.aD _ _ _ _ hm;have hr:FP m st.aD (s1++s2):=FP.of h1;obtain ⟨p1,a1,a2,a3⟩:=C7 h.aD hr h1;have c9:(alF s1)=(alF m):=(yB h1).1;obtain ⟨pe1,q2,b1,b2,b3,b4⟩:=JN h.env hr h2 (fun j b hj=>by rw [<- c9,ww (by omega)];simpa using hj);have qA:cN (s1++s2) (p1++q2):=⟨by simp [a2,b3],fun t b ht=>by
     rcases aeb t (alF s1) with hl|hl
     · rw [v6 hl] at ht
       obtain ⟨q,c1,c2⟩:=a3 t b ht;exact ⟨q,by rw [v6 (by omega)];exact c1,c2⟩
     rw [ww hl] at ht
     obtain ⟨q,c1,c2⟩:=b4 _ b ht;exact ⟨q,by rw [ww (by omega),a2];exact c1,c2⟩⟩
    have hs:aec (s1++s2):=fun t cs ht=>by
     rcases aeb t (alF s1) with hl|hl
     · rw [v6 hl] at ht
       obtain ⟨b,c,d1,d2,d3⟩:=(yB h1).2 t (m[t]'(by omega)) (Do (by omega));rw [ht] at d3;injection d3 with d3;subst d3;cases b with
       |box x=>
        simp only [NQ] at d2;split at d2
        · rename_i l mU;injection d2 with d2;injection d2 with d2;subst d2;exact nE mU
        cases d2
       |arr _ _=>injection d2 with d2;cases d2
       |set _=>injection d2 with d2;cases d2
       |bA _ _=>injection d2 with d2;cases d2
       |dead=>injection d2 with d2;cases d2
     rw [ww hl] at ht
     obtain ⟨r,hr'⟩:=C8 h2 _ _ ht;cases hr'
    have hR:Xk {env:=e1,aD:=s1++s2,fz:=yb st.fz 0 m,kn:=st.kn} {env:=pe1,aD:=p1++q2,fz:=yb p.fz 0 m,kn:=p.kn}:=
     ⟨⟨b2,qA,by rw [h.fz],h.kn⟩,hs,AY h2⟩
    refine ⟨_,?_,C' live (nW live hR).r⟩;unfold EJ;rw [h.kn] at CW;rw [h.kn];rw [CW];dsimp only;rw [a1,b1]
  cases hn
theorem PQ {rk:List (Nat×List PT)} {live:List (Nat×Option Nat)} {st oo:qH} {p:St} (h:Ae st p) (hn:Fy rk live st=alG oo): ∃p1,norm live p=alG p1/\Ae oo p1:=by
 unfold Fy at hn;cases h1:Fx rk live st with
 |none=>rw [h1] at hn;cases hn
 |some s=>
  rw [h1] at hn;dsimp only at hn;obtain ⟨p1,h2,h3⟩:=LH h h1;unfold norm;rw [h2];dsimp only;cases ha:(live.any fun p=>p.2.isSome) with
  |true=>rw [ha] at hn;simp only [lc] at hn;rw [ls rfl];exact LH h3 hn
  |false=>rw [ha] at hn;injection hn with hn;subst hn;exact ⟨p1,by rw [lw (by simp)],h3⟩
mutual
theorem Ez: ∀{a b:SV} (q:List x5),xP a b=alI->tQ a (C3 b++q)=(b,q)
 | .undef,.undef,q,_=>rfl
 | .jR,.jR,q,_=>rfl
 | .eg,.eg,q,_=>rfl
 | .int k _,.int l n,q,h=>by rw [fE.1 h];rfl
 | .bool _,.bool _,q,_=>rfl
 | .agg a,.agg b,q,h=>by simp only [tQ,C3,oI q h]
 | .cj a,.cj b,q,h=>by simp only [tQ,C3,oI q h]
 | .sl r _,.sl r' l,q,h=>rfl
 | .nil e c,.nil f d,q,h=>by simp only [xP,rc,beq_iff_eq] at h;rw [pp h.1,h.2];rfl
 | .own t x,.own u y,q,h=>by simp only [xP,rc,beq_iff_eq] at h;rw [pp h.1,h.2];rfl
 | .pre t _ _ x,.pre u _ _ y,q,h=>by simp only [xP,rc,beq_iff_eq] at h;rw [pp h.1,h.2];rfl
 | .part t _ _ _ x,.part u _ _ _ y,q,h=>by simp only [xP,rc,beq_iff_eq] at h;rw [pp h.1,h.2];rfl
 | .pb t _ o,.pb u _ p,q,h=>by simp only [xP,rc] at h;rw [pp h.1,pp h.2];rfl
 | .bp t n o,.bp u m p,q,h=>by simp only [xP,rc] at h;rw [pp h.1.1,pp h.1.2,pp h.2];rfl
 | .bO a o,.bO b p,q,h=>by simp only [xP,rc] at h;simp only [tQ,C3,oI q h.1,pp h.2]
 | .eO f a b,.eO g c d,q,h=>by simp only [xP,rc] at h;simp only [tQ,C3,ad9,oI _ h.1.2,oI q h.2,pp h.1.1]
 | .mp t,.mp u,q,h=>by rw [pp h];rfl
theorem oI: ∀{a b:List SV} (q:List x5),yx a b=alI->rZ a (C4 b++q)=(b,q)
 | [],[],q,_=>rfl
 |x::xs,y::ys,q,h=>by simp only [yx,rc] at h;simp only [rZ,C4,ad9,Ez _ h.1,oI q h.2]
 | [],_::_,_,h=>by cases h
 |_::_,[],_,h=>by cases h
end
theorem T6: ∀{a b:SB} (q:List x5),ad4 a b=alI->NS a (TD b++q)=(b,q)
 | .arr r _,.arr r' l,q,h=>rfl
 | .box a,.box b,q,h=>by simp only [NS,TD,oI q h]
 | .set _,.set _,q,_=>rfl
 | .bA p _,.bA p' l,q,h=>by obtain rfl:p=p':=PT.Pw h;rfl
 | .dead,.dead,q,_=>rfl
 | .arr _ _,.box _,_,h| .arr _ _,.set _,_,h| .arr _ _,.dead,_,h| .box _,.arr _ _,_,h| .box _,.set _,_,h| .box _,.dead,_,h| .set _,.arr _ _,_,h| .set _,.box _,_,h| .set _,.dead,_,h| .dead,.arr _ _,_,h| .dead,.box _,_,h| .dead,.set _,_,h
 | .bA _ _,.arr _ _,_,h| .bA _ _,.box _,_,h| .bA _ _,.set _,_,h| .bA _ _,.dead,_,h| .arr _ _,.bA _ _,_,h| .box _,.bA _ _,_,h| .set _,.bA _ _,_,h| .dead,.bA _ _,_,h=>by cases h
theorem B0: ∀{a b:List SB} (q:List x5),Fz a b=alI->AQ a (JF b++q)=(b,q)
 | [],[],q,_=>rfl
 |x::xs,y::ys,q,h=>by simp only [Fz,rc] at h;simp only [AQ,JF,ad9,T6 _ h.1,B0 q h.2]
 | [],_::_,_,h=>by cases h
 |_::_,[],_,h=>by cases h
theorem LJ: ∀{a b:SE} (q:List x5),PD a b=alI->Lv a (Q' b++q)=(b,q)
 | [],[],q,_=>rfl
 |(t,x)::xs,(u,y)::ys,q,h=>by simp only [PD,rc] at h;simp only [Lv,Q',ad9,Ez _ h.1.2,LJ q h.2,pp h.1.1]
 | [],_::_,_,h=>by cases h
 |_::_,[],_,h=>by cases h
theorem LK: ∀{a b:List Nat},PE a b=alI->a=b
 | [],[],_=>rfl
 |x::xs,y::ys,h=>by simp only [PE,rc] at h;rw [pp h.1,LK h.2]
 | [],_::_,h=>by cases h
 |_::_,[],h=>by cases h
theorem Rk {a b:qH} (h:FA a b=alI):Ab a (xO b)=b:=by obtain ⟨e1,s1,z1,k1⟩:=a;obtain ⟨e2,s2,z2,k2⟩:=b;simp only [FA,rc] at h;obtain ⟨⟨⟨h1,h2⟩,h3⟩,h4⟩:=h;have hs:=B0 [] h2;rw [adc] at hs;simp only [Ab,xO,LJ _ h1,hs,LK h3,pp h4]
theorem AK.aed: ∀{a:AK} {x:x5} {y:a.T},a.of x=alG y->a.at y=x
 | .i,.i _,y,h=>by injection h with h;subst h;rfl
 | .b,.b _,y,h=>by injection h with h;subst h;rfl
 | .n,.n _,y,h=>by injection h with h;subst h;rfl
 | .l r,.l q x,y,h=>by obtain ⟨rfl,rfl⟩:=pC h;rfl
 | .s,.s _,y,h=>by injection h with h;subst h;rfl
 | .i,.b _,_,h| .i,.n _,_,h| .i,.l _ _,_,h| .i,.s _,_,h| .b,.i _,_,h| .b,.n _,_,h| .b,.l _ _,_,h| .b,.s _,_,h| .n,.i _,_,h| .n,.b _,_,h| .n,.l _ _,_,h| .n,.s _,_,h
 | .l _,.i _,_,h| .l _,.b _,_,h| .l _,.n _,_,h| .l _,.s _,_,h| .s,.i _,_,h| .s,.b _,_,h| .s,.n _,_,h| .s,.l _ _,_,h=>by cases h
theorem sX: ∀{ks:List AK} {l:List x5} {y:kC ks},ru ks l=alG y->mW ks y=l
 | [],[],y,_=>rfl
 | [a],[x],y,h=>by have:=AK.aed (a:=a) h;simp only [mW,this]
 |a::q::r,x::xs,y,h=>by
  simp only [ru] at h;split at h
  · rename_i u v h1 h2
    injection h with h;subst h;simp only [mW,AK.aed h1,sX h2]
  cases h
 | [],_::_,_,h=>by cases h
 | [_],[],_,h=>by cases h
 | [_],_::_::_,_,h=>by cases h
 |_::_::_,[],_,h=>by cases h
end
end Go.Vm
/- What is known of functions, and what a call of one comes to. -/
namespace Go.Vm
mutual
def FQ:Nat->PV->Option (PV×cK)
 |_,.int k n=>alG (.int k n,[])
 |_,.bool b=>alG (.bool b,[])
 |nx,.agg cs=>match FT nx cs with|some r=>alG (.agg r.1,r.2)|none=>alH
 |nx,.cj cs=>match FT nx cs with|some r=>alG (.cj r.1,r.2)|none=>alH
 |nx,.sl e alJ rows=>alG (.own nx e 0 (alF rows) (alF rows) alJ,[.arr e rows])
 |_,_=>alH
def FT:Nat->List PV->Option (List PV×cK)
 |_,[]=>alG ([],[])
 |nx,x::xs=>match FQ nx x with
  |some a=>match FT (nx+alF a.2) xs with
   |some b=>alG (a.1::b.1,a.2++b.2)
   |none=>alH
  |none=>alH
end
def wX (s:List SB) (n:Nat) (l:List SB):Prop:= ∀(j:Nat) (b:SB),l[j]? =alG b->s[n+j]? =alG b
theorem wX.left {s:List SB} {n:Nat} {l m:List SB} (h:wX s n (l++m)):wX s n l:=fun j b hj=>h j b (by rw [v6 (ut.1 hj).1];exact hj)
theorem wX.right {s:List SB} {n:Nat} {l m:List SB} (h:wX s n (l++m)):wX s (n+alF l) m:=fun j b hj=>by
 have:=h (alF l+j) b (by rw [ww (by omega)];simpa using hj)
 rwa [Nat.add_assoc]
def N6 (s:List SB) (l:List SB) (q:cK):Prop:=alF q=alF l/\ ∀(j:Nat) (b:SB),l[j]? =alG b-> ∃x,q[j]? =alG x/\RB s b x
theorem N6.append {s l m:List SB} {q r:cK} (h:N6 s l q) (k:N6 s m r):N6 s (l++m) (q++r):=by
 refine ⟨by simp [h.1,k.1],fun j b hj=>?_⟩;rcases aeb j (alF l) with hl|hl
 · rw [v6 hl] at hj
   obtain ⟨x,h1,h2⟩:=h.2 j b hj;exact ⟨x,by rw [v6 (by rw [h.1];exact hl)];exact h1,h2⟩
 rw [ww hl] at hj
 obtain ⟨x,h1,h2⟩:=k.2 _ b hj;exact ⟨x,by rw [ww (by rw [h.1];exact hl),h.1];exact h1,h2⟩
theorem N6.nil {s:List SB}:N6 s [] []:=⟨rfl,fun j b h=>by simp at h⟩
theorem N6.one {s:List SB} {b:SB} {x:ky} (h:RB s b x):N6 s [b] [x]:=⟨rfl,fun j c hc=>by
 cases j with
 |zero=>simp at hc;subst hc;exact ⟨x,rfl,h⟩
 |succ j=>simp at hc⟩
mutual
theorem PR: ∀{v:SV} {nx:Nat} {p0 p:PV} {q:cK},sW v=alG p0->FQ nx p0=alG (p,q)-> ∀{s:List SB},wX s nx (yw nx v).2->R s (yw nx v).1 p/\N6 s (yw nx v).2 q
 | .int k n,nx,p0,p,q,h0,h,s,_=>by injection h0 with h0;subst h0;injection h with h;injection h with h1 h2;subst h1 h2;exact ⟨rfl,N6.nil⟩
 | .bool b,nx,p0,p,q,h0,h,s,_=>by injection h0 with h0;subst h0;injection h with h;injection h with h1 h2;subst h1 h2;exact ⟨rfl,N6.nil⟩
 | .agg cs,nx,p0,p,q,h0,h,s,hb=>by
  simp only [sW] at h0;split at h0
  · rename_i l hl
    injection h0 with h0;subst h0;simp only [FQ] at h;split at h
    · rename_i r hr
      injection h with h;injection h with h1 h2;subst h1 h2;obtain ⟨h3,h4⟩:=FU (p:=r.1) (q:=r.2) hl hr hb;exact ⟨⟨r.1,rfl,h3⟩,h4⟩
    cases h
  cases h0
 | .cj cs,nx,p0,p,q,h0,h,s,hb=>by
  simp only [sW] at h0;split at h0
  · rename_i l hl
    injection h0 with h0;subst h0;simp only [FQ] at h;split at h
    · rename_i r hr
      injection h with h;injection h with h1 h2;subst h1 h2;obtain ⟨h3,h4⟩:=FU (p:=r.1) (q:=r.2) hl hr hb;exact ⟨⟨r.1,rfl,h3⟩,h4⟩
    cases h
  cases h0
 | .sl r l,nx,p0,p,q,h0,h,s,hb=>by injection h0 with h0;subst h0;injection h with h;injection h with h1 h2;subst h1 h2;refine ⟨⟨alF r,alF l,by simp,.inl ⟨r,l,hb 0 _ rfl,rfl,rfl⟩⟩,N6.one rfl⟩
 | .nil e c,nx,p0,p,q,h0,h,s,hb=>by
  injection h0 with h0;subst h0;cases c with
  |true=>simp [FQ] at h
  |false=>injection h with h;injection h with h1 h2;subst h1 h2;exact ⟨⟨e,0,rfl,.inl ⟨_,[],hb 0 _ rfl,by simp,rfl⟩⟩,N6.one (by show _=_;simp)⟩
 | .str _,nx,p0,p,q,h0,h,s,_=>by injection h0 with h0;subst h0;cases h
 | .eg,nx,p0,p,q,h0,h,s,_=>by injection h0 with h0;subst h0;cases h
 | .bO cs o,nx,p0,p,q,h0,h,s,_=>by
  simp only [sW] at h0;split at h0
  · injection h0 with h0;subst h0;cases h
  cases h0
 | .eO f a b,nx,p0,p,q,h0,h,s,_=>by
  simp only [sW] at h0;split at h0
  · injection h0 with h0;subst h0;cases h
  cases h0
 | .jk,_,_,_,_,h0,_,_,_| .undef,_,_,_,_,h0,_,_,_| .jR,_,_,_,_,h0,_,_,_| .own _ _,_,_,_,_,h0,_,_,_| .pre _ _ _ _,_,_,_,_,h0,_,_,_| .part _ _ _ _ _,_,_,_,_,h0,_,_,_
 | .pa _ _ _ _ _,_,_,_,_,h0,_,_,_| .pb _ _ _,_,_,_,_,h0,_,_,_| .bp _ _ _,_,_,_,_,h0,_,_,_| .mp _,_,_,_,_,h0,_,_,_=>by cases h0
theorem FU: ∀{v:List SV} {nx:Nat} {p0 p:List PV} {q:cK},qJ v=alG p0->FT nx p0=alG (p,q)-> ∀{s:List SB},wX s nx (u5 nx v).2->RL s (u5 nx v).1 p/\N6 s (u5 nx v).2 q
 | [],nx,p0,p,q,h0,h,s,_=>by injection h0 with h0;subst h0;injection h with h;injection h with h1 h2;subst h1 h2;exact ⟨rfl,N6.nil⟩
 |x::xs,nx,p0,p,q,h0,h,s,hb=>by
  obtain ⟨a,as,rfl,h1,h2⟩:=eX.1 h0;simp only [FT] at h;split at h
  · rename_i ra hra
    split at h
    · rename_i rb hrb
      injection h with h;injection h with e1 e2;subst e1 e2;simp only [u5] at hb ⊢;obtain ⟨k1,k2⟩:=PR (p:=ra.1) (q:=ra.2) h1 hra hb.left;rw [k2.1] at hrb;obtain ⟨k3,k4⟩:=FU (p:=rb.1) (q:=rb.2) h2 hrb hb.right;exact ⟨RL.cons k1 k3,k2.append k4⟩
    cases h
  cases h
end
mutual
theorem T7 {s:List SB} {ps:cK} {z:List Nat} (hS:cN s ps): ∀{v v':SV} {p:PV} {seen seen':List Nat} (nx:Nat),R s v p->Q9 s z seen v=alG (v',seen')-> ∃p0 p' q,sW v'=alG p0/\FQ nx p0=alG (p',q)/\zT ps z nx seen p=alG (p',q,seen')
 | .int k n,v',p,seen,seen',nx,h,hx=>by injection hx with hx;injection hx with h1 h2;subst h1 h2;rw [show p=_ from h];exact ⟨_,_,_,rfl,rfl,rfl⟩
 | .bool k,v',p,seen,seen',nx,h,hx=>by injection hx with hx;injection hx with h1 h2;subst h1 h2;rw [show p=_ from h];exact ⟨_,_,_,rfl,rfl,rfl⟩
 | .agg cs,v',p,seen,seen',nx,h,hx=>by
  obtain ⟨q,rfl,h⟩:=h;simp only [Q9] at hx;split at hx
  · rename_i r hr
    injection hx with hx;injection hx with h1 h2;subst h1 h2;obtain ⟨p0,p',q',h3,h4,h5⟩:=JP hS (v':=r.1) (seen':=r.2) nx h hr;exact ⟨.agg p0,.agg p',q',by simp only [sW,h3],by simp only [FQ,h4],by simp only [zT,h5];rfl⟩
  cases hx
 | .cj cs,v',p,seen,seen',nx,h,hx=>by
  obtain ⟨q,rfl,h⟩:=h;simp only [Q9] at hx;split at hx
  · rename_i r hr
    injection hx with hx;injection hx with h1 h2;subst h1 h2;obtain ⟨p0,p',q',h3,h4,h5⟩:=JP hS (v':=r.1) (seen':=r.2) nx h hr;exact ⟨.cj p0,.cj p',q',by simp only [sW,h3],by simp only [FQ,h4],by simp only [zT,h5];rfl⟩
  cases hx
 | .nil e c,v',p,seen,seen',nx,h,hx=>by
  cases c with
  |false=>cases hx
  |true=>injection hx with hx;injection hx with h1 h2;subst h1 h2;rw [show p=_ from h];exact ⟨_,_,_,rfl,rfl,rfl⟩
 | .own t ex,v',p,seen,seen',nx,h,hx=>by
  obtain ⟨e,n,rfl,dm⟩:=h;simp only [Q9,cC] at hx;split at hx
  · rename_i r l cy
    obtain ⟨rfl,rfl⟩:=dm.inv cy;cases hc:(has seen t||has z t) with
    |true=>rw [hc] at hx;cases hx
    |false=>rw [hc] at hx;injection hx with hx;injection hx with h1 h2;subst h1 h2;refine ⟨_,_,_,rfl,rfl,?_⟩;simp only [zT,hS.arr cy,hc];simp
  cases hx
 | .jk,_,_,_,_,_,_,hx| .undef,_,_,_,_,_,_,hx| .jR,_,_,_,_,_,_,hx| .eg,_,_,_,_,_,_,hx| .str _,_,_,_,_,_,_,hx| .sl _ _,_,_,_,_,_,_,hx| .pre _ _ _ _,_,_,_,_,_,_,hx| .part _ _ _ _ _,_,_,_,_,_,_,hx
 | .pa _ _ _ _ _,_,_,_,_,_,_,hx| .pb _ _ _,_,_,_,_,_,_,hx| .bp _ _ _,_,_,_,_,_,_,hx| .bO _ _,_,_,_,_,_,_,hx| .eO _ _ _,_,_,_,_,_,_,hx| .mp _,_,_,_,_,_,_,hx=>by cases hx
theorem JP {s:List SB} {ps:cK} {z:List Nat} (hS:cN s ps): ∀{v v':List SV} {p:List PV} {seen seen':List Nat} (nx:Nat),RL s v p->Lu s z seen v=alG (v',seen')-> ∃p0 p' q,qJ v'=alG p0/\FT nx p0=alG (p',q)/\I6 ps z nx seen p=alG (p',q,seen')
 | [],v',p,seen,seen',nx,h,hx=>by injection hx with hx;injection hx with h1 h2;subst h1 h2;rw [show p=_ from h];exact ⟨_,_,_,rfl,rfl,rfl⟩
 |x::xs,v',p,seen,seen',nx,h,hx=>by
  obtain ⟨a,as,rfl,h1,h2⟩:=h.cons_inv;simp only [Lu] at hx;split at hx
  · rename_i r hr
    split at hx
    · rename_i r2 Pp
      injection hx with hx;injection hx with e1 e2;subst e1 e2;obtain ⟨p0,p',q,k1,k2,k3⟩:=T7 hS (v':=r.1) (seen':=r.2) nx h1 hr;obtain ⟨p02,p'2,q2,k4,k5,k6⟩:=JP hS (v':=r2.1) (seen':=r2.2) (nx+alF q) h2 Pp;exact ⟨p0::p02,p'::p'2,q++q2,eX.2 ⟨_,_,rfl,k1,k4⟩,by simp only [FT,k2,k5],by simp only [I6,k3,k6]⟩
    cases hx
  cases hx
end
mutual
theorem LL {s:List SB}: ∀{v:SV} {p:PV},R s v p->AP v=alI->p.kU=alI
 | .int _ _,p,h,_| .bool _,p,h,_| .str _,p,h,_=>by rw [show p=_ from h];rfl
 | .agg cs,p,h,hn=>by obtain ⟨q,rfl,h⟩:=h;exact Da h hn
 | .cj cs,p,h,hn=>by obtain ⟨q,rfl,h⟩:=h;exact Da h hn
 | .jk,_,_,h| .undef,_,_,h| .jR,_,_,h| .eg,_,_,h| .sl _ _,_,_,h| .nil _ _,_,_,h| .own _ _,_,_,h| .pre _ _ _ _,_,_,h| .part _ _ _ _ _,_,_,h| .pa _ _ _ _ _,_,_,h| .pb _ _ _,_,_,h| .bp _ _ _,_,_,h| .bO _ _,_,_,h| .eO _ _ _,_,_,h| .mp _,_,_,h=>by cases h
theorem Da {s:List SB}: ∀{v:List SV} {p:List PV},RL s v p->rY v=alI->wB p=alI
 | [],p,h,_=>by rw [show p=_ from h];rfl
 |x::xs,p,h,hn=>by obtain ⟨a,as,rfl,h1,h2⟩:=h.cons_inv;simp only [rY,rc] at hn;simp only [wB,LL h1 hn.1,Da h2 hn.2,adA]
end
mutual
theorem Iq {s:List SB} {u:SV}: ∀{v:SV} {p:PV},R s v p->AP v=alJ->TB s v=alG u->p.kU=alJ
 | .int _ _,p,h,hn,_| .bool _,p,h,hn,_| .str _,p,h,hn,_=>by cases hn
 | .agg cs,p,h,hn,hi=>by
  obtain ⟨q,rfl,h⟩:=h;simp only [TB] at hi;split at hi
  · rename_i l hl;exact AZ h hn hl
  cases hi
 | .cj cs,p,h,hn,hi=>by
  obtain ⟨q,rfl,h⟩:=h;simp only [TB] at hi;split at hi
  · rename_i l hl;exact AZ h hn hl
  cases hi
 | .sl _ _,p,h,_,_=>by rw [show p=_ from h];rfl
 | .nil _ _,p,h,_,_=>by rw [show p=_ from h];rfl
 | .own _ _,p,h,_,_=>by obtain ⟨e,n,rfl,_⟩:=h;rfl
 | .pre _ _ _ _,p,h,_,_=>by obtain ⟨e,rfl,_⟩:=h;rfl
 | .part _ _ _ _ _,p,h,_,_=>by obtain ⟨e,rfl,_⟩:=h;rfl
 | .jk,_,_,_,h| .undef,_,_,_,h| .jR,_,_,_,h| .eg,_,_,_,h| .pa _ _ _ _ _,_,_,_,h| .pb _ _ _,_,_,_,h| .bp _ _ _,_,_,_,h| .bO _ _,_,_,_,h| .eO _ _ _,_,_,_,h| .mp _,_,_,_,h=>by cases h
theorem AZ {s:List SB}: ∀{v u:List SV} {p:List PV},RL s v p->rY v=alJ->NP s v=alG u->wB p=alJ
 | [],u,p,h,hn,_=>by cases hn
 |x::xs,u,p,h,hn,hi=>by
  obtain ⟨a,as,rfl,h1,h2⟩:=h.cons_inv;simp only [NP] at hi;split at hi
  · rename_i y ys h3 h4
    simp only [rY] at hn;simp only [wB];cases hx:AP x with
    |false=>rw [Iq h1 hx h3];rfl
    |true=>rw [hx] at hn;rw [AZ h2 (by simpa using hn) h4];simp
  cases hi
end
mutual
theorem aee {s:List SB} {ps:cK} (hS:cN s ps): ∀{v u:SV} {p:PV},R s v p->TB s v=alG u-> ∃q,zb ps p=alG q/\sW u=alG q
 | .int k n,u,p,h,hx=>by injection hx with hx;subst hx;rw [show p=_ from h];exact ⟨_,rfl,rfl⟩
 | .bool b,u,p,h,hx=>by injection hx with hx;subst hx;rw [show p=_ from h];exact ⟨_,rfl,rfl⟩
 | .str x,u,p,h,hx=>by injection hx with hx;subst hx;rw [show p=_ from h];exact ⟨_,rfl,rfl⟩
 | .agg cs,u,p,h,hx=>by
  obtain ⟨q,rfl,h⟩:=h;simp only [TB] at hx;split at hx
  · rename_i l hl
    injection hx with hx;subst hx;obtain ⟨q',h1,h2⟩:=N7 hS h hl;exact ⟨.agg q',by simp only [zb,h1];rfl,by simp only [sW,h2]⟩
  cases hx
 | .cj cs,u,p,h,hx=>by
  obtain ⟨q,rfl,h⟩:=h;simp only [TB] at hx;split at hx
  · rename_i l hl
    injection hx with hx;subst hx;obtain ⟨q',h1,h2⟩:=N7 hS h hl;exact ⟨.cj q',by simp only [zb,h1];rfl,by simp only [sW,h2]⟩
  cases hx
 | .sl r l,u,p,h,hx=>by injection hx with hx;subst hx;rw [show p=_ from h];exact ⟨_,rfl,rfl⟩
 | .nil e c,u,p,h,hx=>by injection hx with hx;subst hx;rw [show p=_ from h];exact ⟨_,rfl,rfl⟩
 | .own t ex,u,p,h,hx=>by
  simp only [TB,cC] at hx;split at hx
  · rename_i r l cy
    injection hx with hx;subst hx;obtain ⟨e,n,rfl,dm⟩:=h;obtain ⟨rfl,rfl⟩:=dm.inv cy;refine ⟨.sl (alF r) alJ (l.map (RT.pv r)),?_,rfl⟩;simp only [zb,hS.arr cy,adK];rw [adI (by simp)]
  cases hx
 | .pre t len cap ex,u,p,h,hx=>by
  simp only [TB,cC] at hx;split at hx
  · rename_i r l cy
    injection hx with hx;subst hx;obtain ⟨e,rfl,dm⟩:=h;have:=dm.inv cy;subst this;refine ⟨.sl (alF r) alJ ((l.take len).map (RT.pv r)),?_,rfl⟩;simp only [zb,hS.arr cy,adK,adH]
  cases hx
 | .part t off len cap ex,u,p,h,hx=>by
  simp only [TB,cC] at hx;split at hx
  · rename_i r l cy
    injection hx with hx;subst hx;obtain ⟨e,rfl,dm⟩:=h;have:=dm.inv cy;subst this;refine ⟨.sl (alF r) alJ (((l.drop off).take len).map (RT.pv r)),?_,rfl⟩;simp only [zb,hS.arr cy,adH,aei]
  cases hx
 | .jk,_,_,_,hx| .undef,_,_,_,hx| .jR,_,_,_,hx| .eg,_,_,_,hx| .pa _ _ _ _ _,_,_,_,hx| .pb _ _ _,_,_,_,hx| .bp _ _ _,_,_,_,hx| .bO _ _,_,_,_,hx| .eO _ _ _,_,_,_,hx| .mp _,_,_,_,hx=>by cases hx
theorem N7 {s:List SB} {ps:cK} (hS:cN s ps): ∀{v u:List SV} {p:List PV},RL s v p->NP s v=alG u-> ∃q,I5 ps p=alG q/\qJ u=alG q
 | [],u,p,h,hx=>by injection hx with hx;subst hx;rw [show p=_ from h];exact ⟨_,rfl,rfl⟩
 |x::xs,u,p,h,hx=>by
  obtain ⟨a,as,rfl,h1,h2⟩:=h.cons_inv;simp only [NP] at hx;split at hx
  · rename_i y ys h3 h4
    injection hx with hx;subst hx;obtain ⟨q,h5,h6⟩:=aee hS h1 h3;obtain ⟨qs,h7,h8⟩:=N7 hS h2 h4;exact ⟨q::qs,by simp only [I5,h5,h7],eX.2 ⟨_,_,rfl,h6,h8⟩⟩
  cases hx
end
mutual
theorem T8 {s:List SB}: ∀{v:SV} {p:PV},sW v=alG p->R s v p
 | .int _ _,p,h| .bool _,p,h| .str _,p,h| .eg,p,h| .sl _ _,p,h| .nil _ _,p,h=>by injection h with h;exact h.symm
 | .agg cs,p,h=>by
  simp only [sW] at h;split at h
  · rename_i l hl;injection h with h;exact ⟨l,h.symm,FV hl⟩
  cases h
 | .cj cs,p,h=>by
  simp only [sW] at h;split at h
  · rename_i l hl;injection h with h;exact ⟨l,h.symm,FV hl⟩
  cases h
 | .bO cs o,p,h=>by
  simp only [sW] at h;split at h
  · rename_i l hl;injection h with h;exact ⟨l,h.symm,FV hl⟩
  cases h
 | .eO f a b,p,h=>by
  simp only [sW] at h;split at h
  · rename_i x y h1 h2;injection h with h;exact ⟨x,y,h.symm,FV h1,FV h2⟩
  cases h
 | .jk,_,h| .undef,_,h| .jR,_,h| .own _ _,_,h| .pre _ _ _ _,_,h| .part _ _ _ _ _,_,h| .pa _ _ _ _ _,_,h| .pb _ _ _,_,h| .bp _ _ _,_,h| .mp _,_,h=>by cases h
theorem FV {s:List SB}: ∀{v:List SV} {p:List PV},qJ v=alG p->RL s v p
 | [],p,h=>by injection h with h;exact h.symm
 |x::xs,p,h=>by obtain ⟨a,as,rfl,h1,h2⟩:=eX.1 h;exact RL.cons (T8 h1) (FV h2)
end
def aef (kd:Kd) (n:Nat) (tk:List Nat) (v:SV) (r:ov):Prop:=
 match kd with
 | .pure=> ∃p,sW v=alG p/\r={v:=p,rd:=tk}
 | .mA=> ∃p,sW v=alG p/\r={v:=p,rd:=tk,fr:=tk}
 | .own=> ∃p0 p q,sW v=alG p0/\FQ n p0=alG (p,q)/\r={v:=p,news:=q,rd:=tk}
def dM (F : nv) (f : FuncId) (c : tR) : Prop :=
  ∀ (a : c.α) (b : c.β) (as args : List PV) (aD : cK) (fz : List Nat), c.fn a = alG b -> qJ (c.args.enc a) = alG args -> CF aD (x9 aD deep) as = alG args ->
    ∃ n r, dF F (run F n) c.ow f as aD fz = alG r /\ aef c.kd (alF aD) (dL (dA aD deep) as) (c.res.enc b) r
def dQ.va (c:dQ) (a:kC c.ka):List SV:=(rZ c.ta (mW c.ka a)).1
def dQ.sa (c:dQ) (a:kC c.ka):List SB:=(AQ c.tb (rZ c.ta (mW c.ka a)).2).1
def dQ.vb (c:dQ) (b:kC c.ko):SV:=(tQ c.tv (mW c.ko b)).1
def dQ.sb (c:dQ) (b:kC c.ko):List SB:=(AQ c.to (tQ c.tv (mW c.ko b)).2).1
def T9:SB->SB->Prop
 | .arr r l,.arr q m=>r=q/\alF m=alF l
 | .box _,.box _=>True
 | .set _,.set _=>True
 | .bA _ _,.bA _ _=>True
 | .dead,.dead=>True
 |_,_=>False
def hZ (F : nv) (f : FuncId) (c : dQ) : Prop :=
  ∀ (a : kC c.ka) (b : kC c.ko) (pa : List PV) (ps : cK), c.fn a = alG b -> RL (c.sa a) (c.va a) pa -> cN (c.sa a) ps ->
    ∃ n v s, run F n (.func f pa ps []) = alG (.func v s []) /\ iL (c.sa a).length v s = alI /\ R (c.sb b) (c.vb b) v /\ cN (c.sb b) (s.take (c.sa a).length) /\ (c.sb b).length = (c.sa a).length /\
      ∀ (t : Nat) (x y : SB), (c.sa a)[t]? = alG x -> (c.sb b)[t]? = alG y -> T9 x y
def A0 (F:nv):List (Nat×tR)->Prop
 | []=>True
 |(f,c)::r=>dM F f c/\A0 F r
def Ir (F:nv):List (Nat×dQ)->Prop
 | []=>True
 |(f,c)::r=>hZ F f c/\Ir F r
def B2 (F:nv):List (Nat×Cd)->Prop
 | []=>True
 |(f,x)::r=>F f=alG x.ent/\B2 F r
structure gq (F:nv) (cx:Ctx):Prop where
 con: ∀f c,c∈cx.con f->dM F f c
 fpc: ∀f c,c∈cx.fpc f->hZ F f c
 code: ∀f x,cx.code f=alG x->F f=alG x.ent
theorem A0.mem {F:nv}: ∀{l:List (Nat×tR)},A0 F l-> ∀f c,c∈Lz l f->dM F f c
 | [],_,f,c,h=>by cases h
 |(g,d)::r,hl,f,c,h=>by
  simp only [Lz] at h;cases hb:M2 g f with
  |true=>
   rw [hb] at h;have:=pp hb;subst this;simp only [lc] at h;rcases h with _|⟨_,h⟩
   · exact hl.1
   exact A0.mem hl.2 _ c h
  |false=>rw [hb] at h;exact A0.mem hl.2 f c h
theorem Ir.mem {F:nv}: ∀{l:List (Nat×dQ)},Ir F l-> ∀f c,c∈LA l f->hZ F f c
 | [],_,f,c,h=>by cases h
 |(g,d)::r,hl,f,c,h=>by
  simp only [LA] at h;cases hb:M2 g f with
  |true=>
   rw [hb] at h;have:=pp hb;subst this;simp only [lc] at h;rcases h with _|⟨_,h⟩
   · exact hl.1
   exact Ir.mem hl.2 _ c h
  |false=>rw [hb] at h;exact Ir.mem hl.2 f c h
theorem B2.mem {F:nv}: ∀{l:List (Nat×Cd)},B2 F l-> ∀f x,JJ l f=alG x->F f=alG x.ent
 | [],_,f,c,h=>by cases h
 |(g,d)::r,hl,f,c,h=>by
  simp only [JJ] at h;cases hb:M2 g f with
  |true=>rw [hb] at h;have:=pp hb;subst this;injection h with h;subst h;exact hl.1
  |false=>rw [hb] at h;exact B2.mem hl.2 f c h
theorem gq.make {F:nv} {lp:Option Nat} {c:List (Nat×tR)} {p:List (Nat×dQ)} {x:List (Nat×Cd)} {rk:List (Nat×List PT)} (h1:A0 F c) (h2:Ir F p) (h3:B2 F x):gq F (iE lp c p x rk):=
 ⟨h1.mem,h2.mem,h3.mem⟩
section
variable {F : nv} {R' ρ : Type} {w : R' -> ρ} {y : ρ} {s : List SB} {ps : cK} {z : List Nat}
theorem yC {f:FuncId} {m:Bool} {tk:List Nat} {vs:List SV} {k:XRS->gM R'} (hS:cN s ps) {as args:List PV} (hx:CF ps (x9 ps deep) as=alG args) (hv:qJ vs=alG args) (CR:tk=dL (dA ps deep) as):
 ∀{l:List tR},(∀c∈l,dM F f c)->NU f m s tk vs k l ρ w=alG y-> ∃sr pr,(∃n,dF F (run F n) m f as ps z=alG pr)/\Good s ps sr pr/\k (.loc sr) ρ w=alG y
 | [],_,h=>by cases h
 |c::l,hl,h=>by
  simp only [NU] at h;cases hd:c.args.dec vs with
  |none=>rw [hd] at h;exact yC hS hx hv CR (fun c hc=>hl c (aey _ hc)) h
  |some a=>
   rw [hd] at h;cases hmo:(m==c.ow) with
   |false=>rw [hmo] at h;exact yC hS hx hv CR (fun c hc=>hl c (aey _ hc)) h
   |true=>
   rw [hmo] at h;obtain ⟨b,hb,h2⟩:=cU h;have hm:m=c.ow:=by simpa using hmo
   subst hm;have ary:=c.args.law hd hv;obtain ⟨n,r,hr,BG⟩:=hl c (aej ..) a b as args ps z hb ary hx;cases hkd:c.kd with
   |pure=>rw [hkd] at h2 BG;obtain ⟨p,h3,rfl⟩:=BG;exact ⟨_,_,⟨n,hr⟩,by rw [<- CR];exact Good.val hS (T8 h3),h2⟩
   |mA=>rw [hkd] at h2 BG;obtain ⟨p,h3,rfl⟩:=BG;exact ⟨_,_,⟨n,hr⟩,by rw [<- CR];exact Good.val hS (T8 h3),h2⟩
   |own=>
    rw [hkd] at h2 BG;obtain ⟨p0,p,q,h3,h4,rfl⟩:=BG;rw [hS.len] at h4;have hbh:wX (s++(yw (alF s) (c.res.enc b)).2) (alF s) (yw (alF s) (c.res.enc b)).2:=fun j x hj=>by rw [ww (by omega)];simpa using hj
    obtain ⟨k1,k2⟩:=PR h3 h4 hbh;exact ⟨_,_,⟨n,hr⟩,by rw [<- CR];exact Good.news hS k2.1 k2.2 k1,h2⟩
end
end Go.Vm
/- A call of a function that works on the blocks that are lent to it. -/
namespace Go.Vm
def rz {α:Type}:List (Nat×α)->List α->List α
 | [],s=>s
 |(t,b)::r,s=>rz r (s.set t b)
theorem wY: ∀(l:List (Nat×SB)) (s:List SB),ry l s=rz l s
 | [],s=>rfl
 |(t,b)::r,s=>by simp only [ry,rz,BT,wY r]
theorem DV: ∀(l:List (Nat×ky)) (s:cK),gC l s=rz l s
 | [],s=>rfl
 |(t,b)::r,s=>by simp only [gC,rz,DV r]
theorem A2 {α:Type}: ∀(l:List (Nat×α)) (s:List α),(rz l s).length=alF s
 | [],s=>rfl
 |(t,b)::r,s=>by simp [rz,A2 r]
theorem wZ {α:Type}: ∀(l:List (Nat×α)) (s:List α) (t:Nat),t∉l.map (·.1)->(rz l s)[t]? =s[t]?
 | [],s,t,_=>rfl
 |(u,b)::r,s,t,h=>by simp only [adz,List.mem_cons,not_or] at h;simp only [rz];rw [wZ r _ t h.2,If];simp [Ne.symm h.1]
theorem Db {α:Type}: ∀(l:List (Nat×α)) (s:List α) (j t:Nat) (b:α),(l.map (·.1)).Nodup->l[j]? =alG (t,b)->t<alF s->(rz l s)[t]? =alG b
 | [],s,j,t,b,_,h,_=>by simp at h
 |(u,c)::r,s,0,t,b,hn,h,ht=>by simp at h;obtain ⟨rfl,rfl⟩:=h;simp only [adz,afi] at hn;simp only [rz];rw [wZ r _ u hn.1,If];simp [ht]
 |(u,c)::r,s,j+1,t,b,hn,h,ht=>by simp only [adz,afi] at hn;simp only [rz];exact Db r _ j t b hn.2 (by simpa using h) (by simpa using ht)
theorem B3: ∀(l:List (Nat×SB)),yz l=l.map (·.1)
 | []=>rfl
 |(t,b)::r=>by simp [yz,B3 r]
theorem Is (g:Nat->Nat): ∀(tk:List Nat) (s:List SB),alF s=alF tk->(Ac g tk s).map (·.1)=tk/\ ∀(j t:Nat) (b:SB),tk[j]? =alG t->s[j]? =alG b->(Ac g tk s)[j]? =alG (t,TH g b)
 | [],s,h=>⟨by simp [Ac],fun j t b hj=>by simp at hj⟩
 |t::tk,[],h=>by simp at h
 |t::tk,b::s,h=>by
  obtain ⟨h1,h2⟩:=Is g tk s (by simpa using h);refine ⟨by simp [Ac,h1],fun j u c hj hc=>?_⟩;cases j with
  |zero=>simp at hj hc;subst hj hc;rfl
  |succ j=>simp only [Ac,adL];exact h2 j u c (by simpa using hj) (by simpa using hc)
theorem FW (g:Nat->Nat): ∀(tk:List Nat) (s:cK),alF tk<=alF s->(py g tk s).map (·.1)=tk/\ ∀(j t:Nat) (b:ky),tk[j]? =alG t->s[j]? =alG b->(py g tk s)[j]? =alG (t,zU g b)
 | [],s,h=>⟨by simp [py],fun j t b hj=>by simp at hj⟩
 |t::tk,[],h=>by simp at h
 |t::tk,b::s,h=>by
  obtain ⟨h1,h2⟩:=FW g tk s (by simpa using h);refine ⟨by simp [py,h1],fun j u c hj hc=>?_⟩;cases j with
  |zero=>simp at hj hc;subst hj hc;rfl
  |succ j=>simp only [py,adL];exact h2 j u c (by simpa using hj) (by simpa using hc)
theorem It: ∀{l:List (Nat×ky)},(l.map (·.1)).Nodup->wD l=alI
 | [],_=>rfl
 |p::r,h=>by
  simp only [adz,afi] at h;simp only [wD,rc,adJ,ad5];refine ⟨fun q hq=>?_,It h.2⟩;cases hb:M2 q.1 p.1 with
  |false=>rfl
  |true=>exact absurd (al1.2 ⟨q,hq,pp hb⟩) h.1
theorem JQ: ∀(s:List SB),CC [] s=s
 | []=>rfl
 |b::r=>by simp only [CC,JQ r];cases b<;>simp [WY,uo]
theorem LM (s:List SB) (r:gp):r.nV s=CC (yz r.wr) (ry r.wr s)++r.news:=by
 unfold gp.nV;split
 · rename_i h;rw [h];simp only [yz,ry,JQ,mR]
 simp only [mR]
def afq (g:Nat->Nat) (s s2:List SB):Prop:= ∀(u:Nat) (x:SB),s[u]? =alG x->match x with
 | .arr r l=>s2[g u]? =alG (.arr r l)
 | .dead=>s2[g u]? =alG .dead
 | .box _=> ∃cs,s2[g u]? =alG (.box cs)
 |_=>True
mutual
theorem PS {g:Nat->Nat} {s s2:List SB} (hb:afq g s s2): ∀{v:SV} {p:PV},R s v p->R s2 (Lw g v) (CG g p)
 | .jk,_,_=>trivial
 | .undef,p,h| .jR,p,h| .eg,p,h| .int _ _,p,h| .bool _,p,h| .str _,p,h| .sl _ _,p,h| .nil _ _,p,h| .bp _ _ _,p,h| .mp _,p,h=>by rw [show p=_ from h];rfl
 | .agg cs,p,h=>by obtain ⟨q,rfl,h⟩:=h;exact ⟨_,rfl,w5 hb h⟩
 | .cj cs,p,h=>by obtain ⟨q,rfl,h⟩:=h;exact ⟨_,rfl,w5 hb h⟩
 | .bO cs o,p,h=>by obtain ⟨q,rfl,h⟩:=h;exact ⟨_,rfl,w5 hb h⟩
 | .eO f a b,p,h=>by obtain ⟨pa,pb,rfl,h1,h2⟩:=h;exact ⟨_,_,rfl,w5 hb h1,w5 hb h2⟩
 | .own t ex,p,h=>by
  obtain ⟨e,n,rfl,dm⟩:=h;refine ⟨e,n,rfl,?_⟩;rcases dm with ⟨r,l,h1,h2,h3⟩|h1
  · exact .inl ⟨r,l,hb t _ h1,h2,h3⟩
  exact .inr (hb t _ h1)
 | .pre t a b c,p,h=>by
  obtain ⟨e,rfl,dm⟩:=h;refine ⟨e,rfl,?_⟩;rcases dm with ⟨r,l,h1,h2⟩|h1|⟨cs,h1,h2⟩
  · exact .inl ⟨r,l,hb t _ h1,h2⟩
  · exact .inr (.inl (hb t _ h1))
  obtain ⟨c2,h3⟩:=hb t _ h1
  exact .inr (.inr ⟨c2,h3,h2⟩)
 | .part t o a b c,p,h=>by
  obtain ⟨e,rfl,dm⟩:=h;refine ⟨e,rfl,?_⟩;rcases dm with ⟨r,l,h1,h2⟩|h1|⟨cs,h1,h2⟩
  · exact .inl ⟨r,l,hb t _ h1,h2⟩
  · exact .inr (.inl (hb t _ h1))
  obtain ⟨c2,h3⟩:=hb t _ h1
  exact .inr (.inr ⟨c2,h3,h2⟩)
 | .pa t r i a o,p,h=>by
  obtain ⟨rfl,dm⟩:=h;refine ⟨_,rfl,?_⟩;rcases dm with ⟨l,h1,h2⟩|h1
  · exact .inl ⟨r,l,hb t _ h1,by rw [h2];rfl⟩
  exact .inr (hb t _ h1)
 | .pb t i o,p,h=>by
  obtain ⟨e,rfl,dm⟩:=h;refine ⟨e,rfl,?_⟩;rcases dm with ⟨r,l,h1,h2⟩|h1
  · exact .inl ⟨r,l,hb t _ h1,h2⟩
  exact .inr (hb t _ h1)
theorem w5 {g:Nat->Nat} {s s2:List SB} (hb:afq g s s2): ∀{v:List SV} {p:List PV},RL s v p->RL s2 (DR g v) (xG g p)
 | [],p,h=>by rw [show p=_ from h];rfl
 |x::xs,p,h=>by obtain ⟨a,as,rfl,h1,h2⟩:=h.cons_inv;exact RL.cons (PS hb h1) (w5 hb h2)
end
theorem FX: ∀{a b:cK},(∀(t:Nat) (x:ky),a[t]? =alG x-> ∃y,b[t]? =alG y/\x.bS=y.bS)->wC a b=alI
 | [],b,_=>by cases b<;>rfl
 |x::a,[],h=>by obtain ⟨y,hy,_⟩:=h 0 x rfl;simp at hy
 |x::a,y::b,h=>by obtain ⟨y',h1,h2⟩:=h 0 x rfl;simp at h1;subst h1;have:=FX (a:=a) (b:=b) (fun t x hx=>by simpa using h (t+1) x (by simpa using hx));simp only [wC,this,aex,h2];cases y.bS<;>rfl
section
variable {F : nv} {R' ρ : Type} {w : R' -> ρ} {y : ρ} {s : List SB} {ps : cK} {z : List Nat}
theorem PU {f:FuncId} {tk:List Nat} {N8 vs:List SV} {s0:List SB} {k:XRS->gM R'} (hS:cN s ps) {Wf:List PV} (hv:RL s N8 Wf) (CR:tk=pk (dL (dA ps deep) Wf)) (hz:(tk.all fun t=>!has z t)=alI)
 (h1:uj tk N8=alG vs) (h2:Hz s tk tk=alG s0):
 ∀{l:List dQ},(∀c∈l,hZ F f c)->fpS f (alF s) tk vs s0 k l ρ w=alG y-> ∃sr pr,(∃n,uP (run F n) f Wf ps z=alG pr)/\Good s ps sr pr/\k (.loc sr) ρ w=alG y
 | [],_,h=>by cases h
 |c::l,hl,h=>by
  have next:fpS f (alF s) tk vs s0 k l ρ w=alG y-> ∃sr pr,(∃n,uP (run F n) f Wf ps z=alG pr)/\Good s ps sr pr/\k (.loc sr) ρ w=alG y:=
   fun h=>PU hS hv CR hz h1 h2 (fun c hc=>hl c (aey _ hc)) h
  simp only [fpS] at h;cases vU:(yx c.ta vs&&Fz c.tb s0) with
  |false=>rw [vU] at h;exact next h
  |true=>
   rw [vU] at h;simp only [lc] at h;cases hpo:ru c.ka (C4 vs++JF s0) with
   |none=>rw [hpo] at h;exact next h
   |some a=>
    rw [hpo] at h;obtain ⟨b,hb,h3⟩:=cU h;simp only [rc] at vU;have E4:=sX hpo;have hva:c.va a=vs:=by unfold dQ.va;rw [E4,oI _ vU.1]
    have hsa:c.sa a=s0:=by unfold dQ.sa;rw [E4,oI _ vU.1];have:=B0 [] vU.2;rw [adc] at this;rw [this]
    have E8:FP tk s s0:=by have:=FP.of (l:=[]) h2;rwa [adc] at this
    obtain ⟨pa',a1,a2⟩:=uu E8 hv h1;obtain ⟨p0,b1,b2,b3⟩:=C7 hS E8 h2;have Jt:cN s0 p0:=⟨b2,b3⟩;obtain ⟨Xl,ann⟩:=yB h2;obtain ⟨n,v,sr,r1,r2,r3,r4,r5,r6⟩:=hl c (aej ..) a b pa' p0 hb (by rw [hva,hsa];exact a2) (by rw [hsa];exact Jt);rw [hsa] at r2 r4 r5 r6;have Hk:tk.Nodup:=by rw [CR];exact uh
    have Ny: ∀t∈tk,t<(alF s):=fun t ht=>by obtain ⟨j,hj,he⟩:=aeD ht;obtain ⟨x,c',d1,_,_⟩:=ann j t (by rw [Do hj,he]);exact (ut.1 d1).1
    have ano:(c.sb b).length=(alF tk):=by rw [r5,Xl]
    have arB:(alF tk)<=(alF sr):=by have:=r4.len;rw [adG,ano] at this;rw [Xl] at this;omega
    have FL: ∀j,j<alF tk->(sr.take (alF s0))[j]? =sr[j]?:=fun j hj=>EQ (by rw [Xl];exact hj)
    have S2:wC p0 sr=alI:=FX (fun t x hx=>by
     have arC:t<(alF s0):=by have:=(ut.1 hx).1;rw [b2] at this;exact this
     obtain ⟨x0,Jy⟩: ∃x0,s0[t]? =alG x0:=⟨s0[t],Do arC⟩;obtain ⟨q,q1,q2⟩:=b3 t x0 Jy;rw [hx] at q1;injection q1 with q1;subst q1;obtain ⟨y0,Rl⟩: ∃y0,(c.sb b)[t]? =alG y0:=⟨(c.sb b)[t]'(by omega),Do (by omega)⟩;obtain ⟨q',q3,q4⟩:=r4.at_ t y0 Rl;rw [FL t (by omega)] at q3;refine ⟨q',q3,?_⟩;have Hu:=r6 t x0 y0 Jy Rl;cases x0 with
     |arr r l=>cases y0 with
      |arr r' l'=>obtain ⟨rfl,AD⟩:=Hu;rw [show x=_ from q2,show q'=_ from q4];cases l<;>cases l'<;>simp_all [ky.bS]
      |_=>exact Hu.elim
     |box cs=>cases y0 with
      |box HR=>obtain ⟨_,rfl,_⟩:=q2;obtain ⟨_,rfl,_⟩:=q4;rfl
      |_=>exact Hu.elim
     |set l=>cases y0 with
      |set l'=>rw [show x=_ from q2,show q'=_ from q4];rfl
      |_=>exact Hu.elim
     |bA p l=>cases y0 with
      |bA p' l'=>rw [show x=_ from q2,show q'=_ from q4];rfl
      |_=>exact Hu.elim
     |dead=>cases y0 with
      |dead=>rw [show x=_ from q2,show q'=_ from q4]
      |_=>exact Hu.elim)
    let g:=kH tk (alF s)
    have hg: ∀j t,tk[j]? =alG t->g j=t:=fun j t hj=>by show kH tk (alF s) j=t;unfold kH;rw [hj]
    obtain ⟨w1,w2⟩:=Is g tk (c.sb b) ano;obtain ⟨u1,u2⟩:=FW g tk sr arB
    let s2:=CC tk (ry (Ac g tk (c.sb b)) s)
    have wK: ∀(j t:Nat) (x:SB),tk[j]? =alG t->(c.sb b)[j]? =alG x->s2[t]? =alG (WY tk (TH g x)):=fun j t x hj hx=>by show (CC tk _)[t]? =_;rw [sd,wY,Db _ s j t _ (by rw [w1];exact Hk) (w2 j t x hj hx) (Ny t (ae8 hj))];rfl
    have anp: ∀(t:Nat),t∉tk->s2[t]? =(s[t]?).map (WY tk):=fun t ht=>by show (CC tk _)[t]? =_;rw [sd,wY,wZ _ s t (by rw [w1];exact ht)]
    have zQ: ∀t∈tk,∃j,tk[j]? =alG t:=fun t ht=>by obtain ⟨j,hj,he⟩:=aeD ht;exact ⟨j,by rw [Do hj,he]⟩
    have sR:Fr tk s s2:=fun t x hx=>by
     by_cases ht:t∈tk
     · obtain ⟨j,hj⟩:=zQ t ht
       have Nh:j<(alF tk):=(ut.1 hj).1;obtain ⟨x',c',d1,d2,d3⟩:=ann j t hj;rw [hx] at d1;injection d1 with d1;subst d1;obtain ⟨y0,Rl⟩: ∃y0,(c.sb b)[j]? =alG y0:=⟨(c.sb b)[j]'(by omega),Do (by omega)⟩;have Hu:=r6 j c' y0 d3 Rl;have Xm:=wK j t y0 hj Rl;cases x with
       |arr r l=>
        injection d2 with d2;subst d2;cases y0 with
        |arr r' l'=>
         obtain ⟨rfl,AD⟩:=Hu;refine .inl ⟨l',Xm,AD,fun hb=>?_⟩;exfalso;have:has tk t=alI:=by unfold has;rw [al4];exact ⟨t,ht,by simp⟩
         rw [this] at hb;cases hb
        |_=>exact Hu.elim
       |dead=>
        injection d2 with d2;subst d2;cases y0 with
        |dead=>exact Xm
        |_=>exact Hu.elim
       |box cs=>
        simp only [NQ] at d2;split at d2
        · injection d2 with d2;subst d2
          cases y0 with
          |box c2=>exact .inl ⟨_,Xm⟩
          |_=>exact Hu.elim
        cases d2
       |_=>trivial
     have:=anp t ht
     rw [hx] at this;cases x with
     |arr r l=>exact .inl ⟨l,this,rfl,fun _=>rfl⟩
     |dead=>exact this
     |box c2=>exact .inl ⟨_,this⟩
     |_=>trivial
    have aeg:afq g (c.sb b) s2:=fun u x hx=>by
     have PM:u<(alF tk):=by have:=(ut.1 hx).1;omega
     have hj:tk[u]? =alG tk[u]:=Do PM;have:=wK u _ x hj hx;rw [hg u _ hj];cases x with
     |arr r l=>exact this
     |dead=>exact this
     |box cs=>exact ⟨_,this⟩
     |_=>trivial
    have arD:(∃n,uP (run F n) f Wf ps z=alG {v:=CG g v,wr:=py g tk sr}):=by
     refine ⟨n,?_⟩;unfold uP Wi;rw [<- CR,ls hz,a1,b1];dsimp only;rw [r1];dsimp only;unfold EL;rw [ls S2,hS.len];have:iL (alF tk) v sr=alI:=by rw [<- Xl];exact r2
     rw [ls this]
    refine ⟨{v:=Lw g (c.vb b),wr:=Ac g tk (c.sb b)},_,arD,?_,h3⟩;have cy:gp.nV s {v:=Lw g (c.vb b),wr:=Ac g tk (c.sb b)}=s2:=by rw [LM,adc,B3,w1]
    exact {
     rd:=rfl
     fr:=rfl
     wr:=by rw [B3,w1];exact u1
     nw:=It (by rw [u1];exact Hk)
     nl:=rfl
     aD:=by
      rw [cy];show cN s2 (gC (py g tk sr) ps);rw [DV];refine ⟨by rw [A2,wS,wY,A2,hS.len],fun t x hx=>?_⟩
      by_cases ht:t∈tk
      · obtain ⟨j,hj⟩:=zQ t ht
        have Nh:j<(alF tk):=(ut.1 hj).1;obtain ⟨y0,Rl⟩: ∃y0,(c.sb b)[j]? =alG y0:=⟨(c.sb b)[j]'(by omega),Do (by omega)⟩;have Xm:=wK j t y0 hj Rl;rw [hx] at Xm;injection Xm with Xm;subst Xm;obtain ⟨q',q3,q4⟩:=r4.at_ j y0 Rl;rw [FL j Nh] at q3;refine ⟨zU g q',Db _ ps j t _ (by rw [u1];exact Hk) (u2 j t q' hj q3) (by rw [hS.len];exact Ny t ht),?_⟩;cases y0 with
        |box cs=>obtain ⟨pc,rfl,hpc⟩:=q4;exact ⟨_,rfl,RL.fr (Fr.refl tk s2) (w5 aeg hpc)⟩
        |arr r l=>rw [show q'=_ from q4];rfl
        |set l=>rw [show q'=_ from q4];rfl
        |bA p l=>rw [show q'=_ from q4];rfl
        |dead=>rw [show q'=_ from q4];rfl
      rw [anp t ht,adC] at hx
      obtain ⟨x0,Jy,rfl⟩:=hx;obtain ⟨q,q1,q2⟩:=hS.at_ t x0 Jy;exact ⟨q,by rw [wZ _ ps t (by rw [u1];exact ht)];exact q1,q2.fr sR⟩
     v:=by rw [cy];exact PS aeg r3
     fra:=by rw [cy,B3,w1];exact sR}
end
end Go.Vm
/- What the typed machine makes of a function is what the logical machine runs. -/
namespace Go.Vm
section
variable {F : nv}
theorem WO.afr {o:bY} {r:List bY} {st:St} {tr:List Tr} {Q:St->List Tr->Prop} {f:FuncId} {args:List PV}
 (hw:wanted o.guard st.env=alG alI) (fP: ∀n,xH F (run F n) st.env st.aD st.fz o.op=gm (run F n) f args st.aD st.fz)
 (h:Ay F f args st.aD st.fz fun v s z=>(IR (alF st.aD) (alF s)&&st.fz.all (has z))=alI/\WO F r {st with env:=jb o.dst v st.env,aD:=s,fz:=z} (TG::tr) Q):
 WO F (o::r) st tr Q:=by
 obtain ⟨n,v,s,z,hr,hc,hk⟩:=h;refine WO.call (.shr v s z) hw ⟨n,?_⟩ rfl hk;rw [fP];simp only [gm,hr];rw [ls hc]
theorem WP.again {live:List (Nat×Option Nat)} {b:kz} {st s1:St} {Q:iA->St->Prop} (h0:norm live st=alG s1) (h:WP F b s1 (andThen (fun s=>WP F (.loop live b) s Q) Q)):WP F (.loop live b) st Q:=by
 obtain ⟨m,e,s,he,hq⟩:=h;cases e with
 |normal=>
  obtain ⟨k,e',s',Cz,Sk⟩:=hq;refine ⟨max m k+1,e',s',?_,Sk⟩;simp only [tN] at Cz ⊢;rw [lO];simp only [step,h0];rw [qw (qx F (Nat.le_max_left m k)) _ _ _ he];dsimp only;split at Cz
  · rename_i e1 s1 Po
    rw [qx F (Nat.le_max_right m k) _ _ Po];exact Cz
  cases Cz
 |exit i=>exact ⟨m+1,.exit i,s,by simp only [tN];rw [lO];simp only [step,h0,he],hq⟩
 |ret=>exact ⟨m+1,.ret,s,by simp only [tN];rw [lO];simp only [step,h0,he],hq⟩
def LN (F : nv) (inl : WZ) : Prop :=
  ∀ (f : FuncId) (args : List SV) (s : List SB) (z : List Nat) (R' : Type) (k : SV -> List SB -> List Nat -> gM R') (ρ : Type) (w : R' -> ρ) (y : ρ) (pa : List PV) (ps : cK) (Q : R' -> PV -> cK -> List Nat -> Prop),
    RL s args pa -> cN s ps -> inl f args s z R' k ρ w = alG y ->
    (∀ v s' z' p x6 BO (w' : R' -> BO) y', R s' v p -> cN s' x6 -> k v s' z' BO w' = alG y' -> ∃ r, y' = w' r /\ Q r p x6 z') ->
    ∃ r, y = w r /\ Ay F f pa ps z (fun p x6 z' => Q r p x6 z')
def PW:SB->SB->Prop
 | .arr r l,b=>(∃l',b= .arr r l'/\alF l'=alF l)\/b= .dead
 | .dead,b=>b= .dead
 | .box _,b=>(∃cs,b= .box cs)\/b= .dead
 |_,_=>True
theorem B4 {R' ρ:Type} {w:R'->ρ} {y:ρ}: ∀{s s':List SB} {k:gM R'},p4 s s' k ρ w=alG y->k ρ w=alG y/\alF s<=alF s'/\
 ∀(t:Nat) (b:SB),s[t]? =alG b-> ∃b',s'[t]? =alG b'/\PW b b'
 | [],s',k,h=>⟨by cases s'<;>exact h,Nat.zero_le _,fun t b ht=>by simp at ht⟩
 |x::xs,[],k,h=>by cases h
 |x::xs,y'::ys,k,h=>by
  have step: ∀(_:p4 xs ys k ρ w=alG y) (_:PW x y'),k ρ w=alG y/\(x::xs).length<=(y'::ys).length/\ ∀(t:Nat) (b:SB),(x::xs)[t]? =alG b-> ∃b',(y'::ys)[t]? =alG b'/\PW b b':=by
   intro h hx;obtain ⟨h1,h2,h3⟩:=B4 h;refine ⟨h1,by simpa using h2,fun t b ht=>?_⟩;cases t with
   |zero=>simp at ht;subst ht;exact ⟨y',rfl,hx⟩
   |succ t=>simpa using h3 t b (by simpa using ht)
  cases x with
  |arr r l=>
   cases y' with
   |arr q m=>obtain ⟨hr,h2⟩:=db (a:=gR (alF m==alF l) (p4 xs ys k) aM) h;obtain ⟨hl,h3⟩:=iP h2;have:=vW hr;subst this;exact step h3 (.inl ⟨m,rfl,by simpa using hl⟩)
   |dead=>exact step h (.inr rfl)
   |_=>cases h
  |dead=>
   cases y' with
   |dead=>exact step h rfl
   |_=>cases h
  |box cs=>
   cases y' with
   |box c2=>exact step h (.inl ⟨c2,rfl⟩)
   |dead=>exact step h (.inr rfl)
   |_=>cases h
  |set l=>exact step h trivial
  |bA p l=>exact step h trivial
theorem T' {n t:Nat} (h:t<n):has (vD n) t=alI:=by
 induction n with
 |zero=>omega
 |succ n ih=>
  unfold has at ih ⊢;rw [al4] at*;simp only [vD,alt,ael];rcases aeb t n with h1|h1
  · obtain ⟨x,h2,h3⟩:=ih h1
    exact ⟨x,.inl h2,h3⟩
  have:t=n:=by omega
  subst this;exact ⟨t,.inr rfl,by simp⟩
theorem N9 {s s':List SB} (h: ∀(t:Nat) (b:SB),s[t]? =alG b-> ∃b',s'[t]? =alG b'/\PW b b'):Fr (vD (alF s)) s s':=fun t b hb=>by
 obtain ⟨b',h1,h2⟩:=h t b hb;have dV:=(ut.1 hb).1;cases b with
 |arr r l=>
  rcases h2 with ⟨l',rfl,h3⟩|rfl
  · exact .inl ⟨l',h1,h3,fun hx=>by rw [T' dV] at hx;cases hx⟩
  exact .inr h1
 |dead=>rw [show b'= .dead from h2] at h1;exact h1
 |box cs=>
  rcases h2 with ⟨c2,rfl⟩|rfl
  · exact .inl ⟨c2,h1⟩
  exact .inr h1
 |_=>trivial
theorem anq {s:List SB} {ps:cK} {sr:gp} {pr:ov} (G:Good s ps sr pr) (hS:cN s ps):(XR.loc pr).tr (alF ps)=sr.tr (alF s):=by
 simp only [XR.tr,gp.tr,G.rd,G.fr,hS.len,<- G.wr,G.nl,alE];have:pr.news.isEmpty=sr.news.isEmpty:=by have:=G.nl;cases h1:pr.news<;>cases h2:sr.news<;>simp_all
 rw [this];rfl
theorem afs {st:qH} {p:St} (h:Ae st p) {sr:gp} {pr:ov} (G:Good st.aD p.aD sr pr) (d:Option Nat):Ae (sr.next d st) ((XR.loc pr).next d p):=by
 have Xn: ∀{s:List SB} {e:SE} {pe:Env} {v:SV} {q:PV},ek s e pe->R s v q->ek s (JH d v e) (jb d q pe):=by
  intro s e pe v q he hv;cases d with
  |none=>exact he
  |some t=>exact ⟨q,pe,rfl,hv,he⟩
 have hs:=LM st.aD sr;unfold gp.next
 split
 · rename_i hw
   rw [hw] at hs;simp only [yz,ry,JQ] at hs;have qA:=G.aD;have hv:=G.v;have sR:=G.fra;rw [hs] at qA hv sR;rw [hw] at sR;exact ⟨by simp only [mR];exact Xn (ek.ext sR h.env) hv,by simp only [mR];exact qA,by simp only [XR.next,G.fr,h.fz],h.kn⟩
 have qA:=G.aD
 have hv:=G.v;have sR:=G.fra;rw [hs] at qA hv sR;exact ⟨by simp only [mR];exact Xn (ek.fr sR h.env) hv,by simp only [mR];exact qA,by simp only [XR.next,G.fr,h.fz],h.kn⟩
theorem ok_eq {s:List SB} {ps:cK} {sr:gp} {pr:ov} (G:Good s ps sr pr) {z:List Nat} (h:sr.ok z=alI):(XR.loc pr).ok z=alI:=by simp only [XR.ok,G.nw,aex];unfold gp.ok at h;rw [<- G.wr,alE] at h;exact h
section
variable {cx : Ctx} {inl : WZ} {R' : Type}
def arF (_F:nv) (k:qH->List Tr->gM R') (Q:R'->St->List Tr->Prop):Prop:=
 ∀st p tr ρ (w:R'->ρ) y,Ae st p->k st tr ρ w=alG y-> ∃r,y=w r/\Q r p tr
theorem w9 {o:bY} {l:List bY} {st:qH} {p:St} {tr:List Tr} {k:qH->List Tr->gM R'} {ρ:Type} {w:R'->ρ} {y:ρ} {Q:R'->St->List Tr->Prop}
 (hl: ∀st p tr ρ (w:R'->ρ) y,Ae st p->k st tr ρ w=alG y-> ∃r,y=w r/\WO F l p tr (Q r)) (h:Ae st p) {sr:gp} {pr:ov} (hw:wanted o.guard p.env=alG alI)
 (hx: ∃n,xH F (run F n) p.env p.aD p.fz o.op=alG (.loc pr)) (G:Good st.aD p.aD sr pr) (hg:PF o.dst st tr k (.loc sr) ρ w=alG y): ∃r,y=w r/\WO F (o::l) p tr (Q r):=by
 unfold PF at hg;dsimp only at hg;obtain ⟨Ax,hg⟩:=db hg;rw [JC] at hg;have hR:=afs h G o.dst;obtain ⟨r,hr,Xo⟩:=hl _ _ _ _ _ _ hR hg;refine ⟨r,hr,WO.call (.loc pr) hw hx (by rw [h.fz];exact ok_eq G Ax) ?_⟩;rw [anq G h.aD];exact Xo
theorem LO (Ei:gq F cx) (JR:LN F inl) {o:bY} {l:List bY} {st:qH} {p:St} {tr:List Tr} {k:qH->List Tr->gM R'} {ρ:Type} {w:R'->ρ} {y:ρ} {Q:R'->St->List Tr->Prop}
 (hl: ∀st p tr ρ (w:R'->ρ) y,Ae st p->k st tr ρ w=alG y-> ∃r,y=w r/\WO F l p tr (Q r)) (h:Ae st p) (hw:wanted o.guard p.env=alG alI)
 (hg:Ig cx inl st.env st.aD st.fz o.op (PF o.dst st tr k) ρ w=alG y): ∃r,y=w r/\WO F (o::l) p tr (Q r):=by
 have hS:=h.aD;have hE:=h.env;have shr: ∀(f:FuncId) (N8:List SV) (Wf:List PV),RL st.aD N8 Wf->(∀n,xH F (run F n) p.env p.aD p.fz o.op=gm (run F n) f Wf p.aD p.fz)->
  inl f N8 st.aD st.fz R' (fun v s' z'=>PF o.dst st tr k (.shr v s' z')) ρ w=alG y-> ∃r,y=w r/\WO F (o::l) p tr (Q r):=by
  intro f N8 Wf hv fP hi;obtain ⟨r,hr,hd⟩:=JR f N8 st.aD st.fz R' _ ρ w y Wf p.aD (fun r v s z=>(IR (alF p.aD) (alF s)&&p.fz.all (has z))=alI/\WO F l {p with env:=jb o.dst v p.env,aD:=s,fz:=z} (TG::tr) (Q r)) hv hS hi
   (fun v s' z' pv x6 BO w' y' hR hS' hk=>by
    unfold PF at hk;dsimp only at hk;rw [JC] at hk;obtain ⟨hk,c9,SL⟩:=B4 hk;obtain ⟨hz,hk⟩:=db hk;have sR:=N9 SL;have Xn:ek s' (JH o.dst v (dgE (vD (alF st.aD)) st.env)) (jb o.dst pv p.env):=by
     cases o.dst with
     |none=>exact ek.fr sR hE
     |some t=>exact ⟨pv,p.env,rfl,hR,ek.fr sR hE⟩
    have hR':Ae {env:=JH o.dst v (dgE (vD (alF st.aD)) st.env),aD:=s',fz:=z',kn:=st.kn} {p with env:=jb o.dst pv p.env,aD:=x6,fz:=z'}:=⟨Xn,hS',rfl,h.kn⟩;obtain ⟨r,hr,Xo⟩:=hl _ _ _ _ _ _ hR' hk;refine ⟨r,hr,?_,Xo⟩;rw [h.fz,hz,aex,hS.len,hS'.len];simpa using c9)
  refine ⟨r,hr,WO.afr hw fP ?_⟩;rw [h.fz];rw [h.fz] at hd;exact hd
 have loc: ∀{k':gp->gM R'},mQ st.env st.aD st.fz o.op k' ρ w=alG y->C0 o.op=alJ->(∀sr,k' sr=PF o.dst st tr k (.loc sr))-> ∃r,y=w r/\WO F (o::l) p tr (Q r):=by intro k' hv hc hk;obtain ⟨sr,pr,h1,G,h2⟩:=Xi hE hS (pe:=p.env) hv;rw [hk] at h2;exact w9 hl h hw ⟨0,by rw [JA hc,h.fz,h1];rfl⟩ G h2
 generalize fP:o.op=op at hg;cases op with
 |call m f args=>
  have lF:=zt hE args;simp only [Ig] at hg;cases m with
  |V6=>
   dsimp only at hg;cases hx:sV st.aD (kZ st.aD deep) (jW st.env args) with
   |none=>rw [hx] at hg;cases hg
   |some vs=>rw [hx] at hg;obtain ⟨q,h1,h2⟩:=u6 hS (Ey hS deep) lF hx;obtain ⟨sr,pr,⟨n,h3⟩,G,h4⟩:=yC (f:=f) (z:=st.fz) hS h1 h2 (Af hS (FM hS deep) lF hx) (fun c hc=>Ei.con f c hc) hg;exact w9 hl h hw ⟨n,by rw [fP,h.fz];simp only [xH,h3];rfl⟩ G h4
  |own=>
   dsimp only at hg;cases hx:sV st.aD (kZ st.aD deep) (jW st.env args) with
   |none=>rw [hx] at hg;cases hg
   |some vs=>rw [hx] at hg;obtain ⟨q,h1,h2⟩:=u6 hS (Ey hS deep) lF hx;obtain ⟨sr,pr,⟨n,h3⟩,G,h4⟩:=yC (f:=f) (z:=st.fz) hS h1 h2 (Af hS (FM hS deep) lF hx) (fun c hc=>Ei.con f c hc) hg;exact w9 hl h hw ⟨n,by rw [fP,h.fz];simp only [xH,h3];rfl⟩ G h4
  |shr=>exact shr f _ _ lF (fun n=>by rw [fP];rfl) hg
  |fp=>
   dsimp only at hg;cases hx:NN st.aD (kZ st.aD deep) (jW st.env args) with
   |false=>rw [hx] at hg;cases hg
   |true=>
    rw [hx] at hg;dsimp only at hg;obtain ⟨hz,hg⟩:=db hg;cases h1:uj (pk (rX (xZ st.aD deep) (jW st.env args))) (jW st.env args) with
    |none=>rw [h1] at hg;cases hg
    |some vs=>
     cases h2:Hz st.aD (pk (rX (xZ st.aD deep) (jW st.env args))) (pk (rX (xZ st.aD deep) (jW st.env args))) with
     |none=>rw [h1,h2] at hg;cases hg
     |some s0=>rw [h1,h2] at hg;obtain ⟨sr,pr,⟨n,h3⟩,G,h4⟩:=PU (f:=f) (z:=st.fz) hS lF (by rw [T2 hS (FM hS deep) lF hx]) hz h1 h2 (fun c hc=>Ei.fpc f c hc) hg;exact w9 hl h hw ⟨n,by rw [fP,h.fz];simp only [xH,h3];rfl⟩ G h4
 |xF x args=>
  have lF:=zt hE args;simp only [Ig] at hg;have hx:=dX hE x;generalize cf st.env x=v at hg hx;cases v with
  |eO f a b=>
   dsimp only at hg;obtain ⟨pa,pb,hx,ha,hb⟩:=hx;have arG: ∀{vs:List SV} {q:List PV},RL st.aD vs q->(AR vs=alI->q.any EK=alI):=by
    intro vs
    induction vs with
    |nil=>intro q _ h;cases h
    |cons v vs ih=>
     intro q hq hp;obtain ⟨a,as,rfl,h1,h2⟩:=hq.cons_inv;simp only [AR,alB] at hp;simp only [alC,alB];rcases hp with hp|hp
     · left
       cases v with
       |own _ _=>obtain ⟨_,_,rfl,_⟩:=h1;rfl
       |pre _ _ _ _=>obtain ⟨_,rfl,_⟩:=h1;rfl
       |part _ _ _ _ _=>obtain ⟨_,rfl,_⟩:=h1;rfl
       |pa _ _ _ _ _=>obtain ⟨rfl,_⟩:=h1;rfl
       |pb _ _ _=>obtain ⟨_,rfl,_⟩:=h1;rfl
       |bp _ _ _=>rw [show a=_ from h1];rfl
       |mp _=>rw [show a=_ from h1];rfl
       |_=>cases hp
     right;exact ih h2 hp
   cases hp:AR (jW st.env args++b) with
   |true=>rw [hp] at hg;have:=arG (lF.append hb) hp;exact shr f _ _ ((ha.append lF).append hb) (fun n=>by rw [fP];simp only [xH,hx,this,if_true]) hg
   |false=>
    rw [hp] at hg;simp only [lm] at hg;cases hxx:sV st.aD (kZ st.aD deep) (a++jW st.env args++b) with
    |none=>rw [hxx] at hg;cases hg
    |some vs=>
     rw [hxx] at hg;have hno: ∀{vs u:List SV} {q:List PV},RL st.aD vs q->AR vs=alJ->sV st.aD (kZ st.aD deep) vs=alG u->q.any EK=alJ:=by
      intro vs
      induction vs with
      |nil=>intro u q hq _ _;rw [show q=[] from hq];rfl
      |cons v vs ih=>
       intro u q hq hp hu;obtain ⟨a,as,rfl,h1,h2⟩:=hq.cons_inv;simp only [AR,Bool.or_eq_false_iff] at hp;simp only [sV] at hu;split at hu
       · rename_i y1 y2 e1 e2
         simp only [alC,ih h2 hp.2 e2,Bool.or_false];cases v with
         |agg _|cj _|bO _ _=>obtain ⟨_,rfl,_⟩:=h1;rfl
         |eO _ _ _=>obtain ⟨_,_,rfl,_⟩:=h1;rfl
         |int _ _|bool _|str _|eg|sl _ _|nil _ _|undef|jR=>rw [show a=_ from h1];rfl
         |jk=>cases e1
         |own _ _|pre _ _ _ _|part _ _ _ _ _|pa _ _ _ _ _|pb _ _ _|bp _ _ _|mp _=>cases hp.1
       cases hu
     have aft: ∃u2,sV st.aD (kZ st.aD deep) (jW st.env args++b)=alG u2:=by
      have: ∀(l:List SV) {m u:List SV},sV st.aD (kZ st.aD deep) (l++m)=alG u-> ∃u2,sV st.aD (kZ st.aD deep) m=alG u2:=by
       intro l
       induction l with
       |nil=>intro m u h;exact ⟨u,h⟩
       |cons x l ih=>
        intro m u h;simp only [afc,sV] at h;split at h
        · rename_i e1 e2;exact ih e2
        cases h
      rw [ad9] at hxx;exact this a hxx
     obtain ⟨u2,hu2⟩:=aft;have arH:=hno (lF.append hb) hp hu2;have rU:=(ha.append lF).append hb;obtain ⟨q,h1,h2⟩:=u6 hS (Ey hS deep) rU hxx;obtain ⟨sr,pr,⟨n,h3⟩,G,h4⟩:=yC (f:=f) (z:=st.fz) hS h1 h2 (Af hS (FM hS deep) rU hxx) (fun c hc=>Ei.con f c hc) hg;exact w9 hl h hw ⟨n,by rw [fP,h.fz];simp only [xH,hx,arH,NE,if_false,h3];rfl⟩ G h4
  |_=>cases hg
 |_=>exact loc (k':=fun r=>PF o.dst st tr k (.loc r)) (by rw [fP];exact hg) (by rw [fP];rfl) (fun _=>rfl)
theorem xa (Ei:gq F cx) (JR:LN F inl): ∀(ops:List bY) {st:qH} {p:St} {tr:List Tr} {k:qH->List Tr->gM R'} {ρ:Type} {w:R'->ρ} {y:ρ} {Q:R'->St->List Tr->Prop},
 arF F k Q->Ae st p->pB cx inl ops st tr k ρ w=alG y-> ∃r,y=w r/\WO F ops p tr (Q r)
 | [],st,p,tr,k,ρ,w,y,Q,hk,h,he=>by obtain ⟨r,hr,hq⟩:=hk st p tr ρ w y h he;exact ⟨r,hr,WO.nil hq⟩
 |o::l,st,p,tr,k,ρ,w,y,Q,hk,h,he=>by
  have hl: ∀st p tr ρ (w:R'->ρ) y,Ae st p->pB cx inl l st tr k ρ w=alG y-> ∃r,y=w r/\WO F l p tr (Q r):=fun st p tr ρ w y h he=>xa Ei JR l hk h he
  have Rm: ∀{st:qH} {c:Nat} {v:SV},Ae st p->R st.aD v (lk c p.env)->Ae {st with env:=AO c v st.env} p:=fun h hv=>⟨h.env.AO hv,h.aD,h.fz,h.kn⟩
  have afu: ∀{st:qH},Ae st p->wanted o.guard p.env=alG alI->(match o.op with
   | .pick (.t c) a b=>match Hm c st.env with
    | .bool x=>gR x (PF o.dst {st with env:=AO c (.bool alI) st.env} tr (pB cx inl l · · k) (.loc {v:=cf st.env a}))
     (PF o.dst {st with env:=AO c (.bool alJ) st.env} tr (pB cx inl l · · k) (.loc {v:=cf st.env b}))
    |_=>aM
   |op=>Ig cx inl st.env st.aD st.fz op (PF o.dst st tr (pB cx inl l · · k))) ρ w=alG y-> ∃r,y=w r/\WO F (o::l) p tr (Q r):=by
   intro st h hw he;have plain:Ig cx inl st.env st.aD st.fz o.op (PF o.dst st tr (pB cx inl l · · k)) ρ w=alG y-> ∃r,y=w r/\WO F (o::l) p tr (Q r):=fun he=>LO Ei JR hl h hw he
   generalize fP:o.op=op at he;cases op with
   |pick c a b=>
    cases c with
    |c v=>exact plain (by rw [fP];exact he)
    |t c=>
     dsimp only at he;generalize hv:Hm c st.env=v at he;cases v with
     |bool x=>
      have hx:lk c p.env= .bool x:=by have:=h.env.lk c;rw [hv] at this;exact this
      rcases fF he with ⟨rfl,he⟩|⟨rfl,he⟩
      · have hR:=Rm h (c:=c) (v:= .bool alI) hx
        exact w9 (o:=o) hl hR hw ⟨0,by rw [fP];simp only [xH,bI,fS.ev,hx];rfl⟩ (Good.val hR.aD (dX h.env a)) he
      have hR:=Rm h (c:=c) (v:= .bool alJ) hx
      exact w9 (o:=o) hl hR hw ⟨0,by rw [fP];simp only [xH,bI,fS.ev,hx];rfl⟩ (Good.val hR.aD (dX h.env b)) he
     |_=>cases he
   |_=>exact plain (by rw [fP];exact he)
  have Ua: ∀{st:qH},Ae st p->wanted o.guard p.env=alG alJ->pB cx inl l {st with env:=JH o.dst .jR st.env} (Tr.idle::tr) k ρ w=alG y-> ∃r,y=w r/\WO F (o::l) p tr (Q r):=by
   intro st h hw he;have hR:Ae {st with env:=JH o.dst .jR st.env} {p with env:=jb o.dst .jR p.env}:=by
    refine ⟨?_,h.aD,h.fz,h.kn⟩;cases o.dst with
    |none=>exact h.env
    |some t=>exact ⟨.jR,p.env,rfl,rfl,h.env⟩
   obtain ⟨r,hr,Xo⟩:=hl _ _ _ _ _ _ hR he;exact ⟨r,hr,WO.skip hw Xo⟩
  simp only [pB] at he;cases M':o.guard with
  |none=>rw [M'] at he;exact afu h (by rw [M'];rfl) he
  |some g=>
   obtain ⟨c,want⟩:=g;rw [M'] at he;dsimp only at he;generalize hv:Hm c st.env=v at he;cases v with
   |bool x=>
    have hx:lk c p.env= .bool x:=by have:=h.env.lk c;rw [hv] at this;exact this
    have hwx: ∀b,x=b->wanted o.guard p.env=alG (b==want):=fun b hb=>by rw [M'];simp only [wanted,hx,hb]
    cases want with
    |true=>
     simp only [lc] at he;rcases fF he with ⟨rfl,he⟩|⟨rfl,he⟩
     · exact afu (Rm h (v:= .bool alI) hx) (hwx alI rfl) he
     exact Ua (Rm h (v:= .bool alJ) hx) (hwx alJ rfl) he
    |false=>
     simp only [lm] at he;rcases fF he with ⟨rfl,he⟩|⟨rfl,he⟩
     · exact Ua (Rm h (v:= .bool alI) hx) (hwx alI rfl) he
     exact afu (Rm h (v:= .bool alJ) hx) (hwx alJ rfl) he
   |jR=>
    have hx:lk c p.env= .jR:=by have:=h.env.lk c;rw [hv] at this;exact this
    exact Ua h (by rw [M'];simp only [wanted,hx]) he
   |_=>cases he
theorem FY {e:SE}: ∀{gj:List Nat} {k:SE->gM R'} {ρ:Type} {w:R'->ρ} {y:ρ},Lx e gj k ρ w=alG y->k (gj.map fun s=>(s,Hm s e)) ρ w=alG y
 | [],k,ρ,w,y,h=>h
 |s::r,k,ρ,w,y,h=>by simp only [Lx] at h;rw [JC] at h;have:=FY h;exact this
theorem Ub {s:List SB} {e:SE} {pe:Env} (h:ek s e pe): ∀(gj:List Nat),ek s (gj.map fun t=>(t,Hm t e)) (gj.map fun t=>(t,lk t pe))
 | []=>rfl
 |t::r=>⟨_,_,rfl,h.lk t,Ub h r⟩
end
mutual
theorem Iu: ∀(v:SV) (q:List x5),tQ v (C3 v++q)=(v,q)
 | .jk,q| .undef,q| .jR,q| .eg,q| .int _ _,q| .bool _,q| .str _,q| .sl _ _,q| .nil _ _,q| .own _ _,q| .pre _ _ _ _,q| .part _ _ _ _ _,q| .pa _ _ _ _ _,q| .pb _ _ _,q| .bp _ _ _,q| .mp _,q=>rfl
 | .agg cs,q=>by simp only [tQ,C3,sG]
 | .cj cs,q=>by simp only [tQ,C3,sG]
 | .bO cs o,q=>by simp only [tQ,C3,sG]
 | .eO f a b,q=>by simp only [tQ,C3,ad9,sG]
theorem sG: ∀(v:List SV) (q:List x5),rZ v (C4 v++q)=(v,q)
 | [],q=>rfl
 |x::xs,q=>by simp only [rZ,C4,ad9,Iu,sG]
end
theorem Iv: ∀(v:List SB) (q:List x5),AQ v (JF v++q)=(v,q)
 | [],q=>rfl
 |x::xs,q=>by
  have: ∀q,NS x (TD x++q)=(x,q):=by intro q;cases x<;>first|rfl|simp only [NS,TD,sG]
  simp only [AQ,JF,ad9,this,Iv]
theorem Iw: ∀(v:SE) (q:List x5),Lv v (Q' v++q)=(v,q)
 | [],q=>rfl
 |(t,x)::xs,q=>by simp only [Lv,Q',ad9,Iu,Iw]
theorem Oa (st:qH):Ab st (xO st)=st:=by have hs:=Iv st.aD [];rw [adc] at hs;simp only [Ab,xO,Iw,hs]
theorem Rn {cx:Ctx} {inl:WZ} (Ei:gq F cx) (JR:LN F inl): ∀(c:kz) (R':Type) {st:qH} {p:St} {k:iA->qH->gM R'} {ρ:Type} {w:R'->ρ} {y:ρ} {Q:R'->iA->St->Prop},
 (∀e st p ρ (w:R'->ρ) y,Ae st p->k e st ρ w=alG y-> ∃r,y=w r/\Q r e p)->Ae st p->BN cx inl c R' st k ρ w=alG y-> ∃r,y=w r/\WP F c p (Q r):=by
 intro c
 induction c with
 |skip=>intro R' st p k ρ w y Q hk h he;obtain ⟨r,hr,hq⟩:=hk _ _ _ _ _ _ h he;exact ⟨r,hr,WP.skip hq⟩
 |ret=>intro R' st p k ρ w y Q hk h he;obtain ⟨r,hr,hq⟩:=hk _ _ _ _ _ _ h he;exact ⟨r,hr,WP.ret hq⟩
 |exit id=>intro R' st p k ρ w y Q hk h he;obtain ⟨r,hr,hq⟩:=hk _ _ _ _ _ _ h he;exact ⟨r,hr,WP.exit hq⟩
 |region d ops gj=>
  intro R' st p k ρ w y Q hk h he;simp only [BN] at he;have fin: ∀st p ρ (w:R'->ρ) y,Ae st p->Lx st.env gj (fun e=>k .normal {st with env:=e}) ρ w=alG y-> ∃r,y=w r/\Q r .normal (qy gj p):=by intro st p ρ w y h he;have:=FY he;have hR:Ae {st with env:=gj.map fun t=>(t,Hm t st.env)} (qy gj p):=⟨Ub h.env gj,h.aD,h.fz,h.kn⟩;exact hk _ _ _ _ _ _ hR this
  cases d with
  |none=>obtain ⟨r,hr,Xo⟩:=xa Ei JR ops (Q:=fun r s _=>Q r .normal (qy gj s)) (fun st p tr ρ w y h he=>fin st p ρ w y h he) h he;exact ⟨r,hr,WP.region Xo⟩
  |some bf=>
   obtain ⟨r,hr,Xo⟩:=xa Ei JR ops (Q:=fun r s t=>rS 0 (t.reverse.zip bf)=alI/\Q r .normal (qy gj s)) (fun st p tr ρ w y h he=>by
    dsimp only at he;cases ho:rS 0 (tr.reverse.zip bf) with
    |false=>rw [ho] at he;cases he
    |true=>rw [ho] at he;obtain ⟨r,hr,hq⟩:=fin st p ρ w y h he;exact ⟨r,hr,ho,hq⟩) h he
   exact ⟨r,hr,WP.Wj Xo⟩
 |seq a b iha ihb=>
  intro R' st p k ρ w y Q hk h he;simp only [BN] at he;obtain ⟨r,hr,Ob⟩:=iha R' (Q:=fun r=>andThen (fun s=>WP F b s (Q r)) (Q r)) (fun e st p ρ w y h he=>by
   cases e with
   |normal=>exact ihb R' hk h he
   |exit i=>exact hk _ _ _ _ _ _ h he
   |ret=>exact hk _ _ _ _ _ _ h he) h he
  exact ⟨r,hr,WP.seq Ob⟩
 |cond c a b iha ihb=>
  intro R' st p k ρ w y Q hk h he;simp only [BN] at he;have hx:=dX h.env c;generalize cf st.env c=v at he hx;cases v with
  |bool x=>
   rcases fF he with ⟨rfl,he⟩|⟨rfl,he⟩
   · obtain ⟨r,hr,Ob⟩:=iha R' hk h he
     exact ⟨r,hr,WP.adD hx Ob⟩
   obtain ⟨r,hr,Ob⟩:=ihb R' hk h he
   exact ⟨r,hr,WP.adE hx Ob⟩
  |_=>cases he
 |block id b ih=>
  intro R' st p k ρ w y Q hk h he;simp only [BN] at he;obtain ⟨r,hr,Ob⟩:=ih R' (Q:=fun r=>inBlock id (Q r)) (fun e st p ρ w y h he=>by
   cases e with
   |normal=>exact hk _ _ _ _ _ _ h he
   |ret=>exact hk _ _ _ _ _ _ h he
   |exit j=>
    dsimp only at he;cases hj:M2 j id with
    |true=>rw [hj] at he;obtain ⟨r,hr,hq⟩:=hk _ _ _ _ _ _ h he;have WA:=pp hj;exact ⟨r,hr,by simpa [inBlock,WA] using hq⟩
    |false=>
     rw [hj] at he;obtain ⟨r,hr,hq⟩:=hk _ _ _ _ _ _ h he;have:j≠id:=by intro e;subst e;simp at hj
     exact ⟨r,hr,by simpa [inBlock,this] using hq⟩) h he
  exact ⟨r,hr,WP.block Ob⟩
 |loop live b ih=>
  intro R' st p k ρ w y Q hk h he;simp only [BN] at he;cases hn:Fy cx.rk live st with
  |none=>rw [hn] at he;cases he
  |some oo=>
   rw [hn] at he;dsimp only at he;have afv: ∀{β:Type 1} (l:List AK) (c:List AK->β),ksK l c=c l:=by
    intro β l;have ans: ∀{β:Type 1} (l:List PT) (c:List PT->β),rK l c=c l:=by
     intro β l
     induction l with
     |nil=>intro c;rfl
     |cons p r ih=>intro c;cases p<;>simp only [rK,ptK,ih]
    induction l with
    |nil=>intro c;rfl
    |cons a r ih=>intro c;cases a<;>simp only [ksK,ans,ih]
   rw [afv] at he;generalize afb (xO oo)=ks at he;cases hp:ru ks (xO oo) with
   |none=>rw [hp] at he;cases he
   |some y0=>
    rw [hp] at he;dsimp only at he;obtain ⟨p1,hp1,hR1⟩:=PQ h hn;have ant: ∀(NV:qH) (y':kC ks),FA oo NV=alI->ru ks (xO NV)=alG y'->Ab oo (mW ks y')=NV:=fun NV y' h1 h2=>by rw [sX h2,Rk h1]
    obtain ⟨n,hit⟩:=Tw he;have h0:Ae (Ab oo (mW ks y0)) p1:=by rw [sX hp,Oa];exact hR1
    clear he hp hn h hR1
    induction n generalizing y0 p p1 with
    |zero=>cases hit
    |succ n ihn=>
     have body: ∀zr,BN cx inl b (Step (kC ks) ρ) (Ab oo (mW ks y0)) (fun e Ec=>match e with
      | .normal=>match Fy cx.rk live Ec with
       |some NV=>bif FA oo NV then (match ru ks (xO NV) with
        |some y'=>Ib (.next y')
        |none=>aM) else aM
       |none=>aM
      |e=>fun BO w'=>k e Ec BO fun r=>w' (.done (w r))) (Step (kC ks) ρ) (fun z=>z)=alG zr->
      WP F b p1 (fun e s=>match zr with
       | .next y'=>e= .normal/\ ∃p3,norm live s=alG p3/\Ae (Ab oo (mW ks y')) p3
       | .done x=>e≠ .normal/\ ∃r,x=w r/\Q r e s):=by
      intro zr qE;obtain ⟨zr',O',Ob⟩:=ih (Step (kC ks) ρ) (Q:=fun zr e s=>match zr with
       | .next y'=>e= .normal/\ ∃p3,norm live s=alG p3/\Ae (Ab oo (mW ks y')) p3
       | .done x=>e≠ .normal/\ ∃r,x=w r/\Q r e s) (fun e Ec p2 BO w' y2 h2 DJ=>by
       cases e with
       |normal=>
        dsimp only at DJ;cases hn3:Fy cx.rk live Ec with
        |none=>rw [hn3] at DJ;cases DJ
        |some NV=>
         rw [hn3] at DJ;obtain ⟨vU,DJ⟩:=db DJ;cases hp3:ru ks (xO NV) with
         |none=>rw [hp3] at DJ;cases DJ
         |some y3=>rw [hp3] at DJ;injection DJ with DJ;obtain ⟨p3,arJ,hR3⟩:=PQ h2 hn3;exact ⟨.next y3,DJ.symm,rfl,p3,arJ,by rw [ant NV y3 vU hp3];exact hR3⟩
       |exit i=>obtain ⟨r,hr,hq⟩:=hk _ _ _ _ _ _ h2 DJ;exact ⟨.done (w r),hr,(by intro e;cases e),r,rfl,hq⟩
       |ret=>obtain ⟨r,hr,hq⟩:=hk _ _ _ _ _ _ h2 DJ;exact ⟨.done (w r),hr,(by intro e;cases e),r,rfl,hq⟩) h0 qE
      subst O';exact Ob
     simp only [qF] at hit;split at hit
     · rename_i y' qE
       obtain ⟨m,e,s,cB,rfl,p3,hp3,hR3⟩:=body _ qE;obtain ⟨r,hr,Ob⟩:=ihn y' p3 hp3 hit hR3;exact ⟨r,hr,WP.again hp1 ⟨m,.normal,s,cB,Ob⟩⟩
     · rename_i x qE
       injection hit with hit;obtain ⟨m,e,s,cB,dW,r,hr,hq⟩:=body _ qE;refine ⟨r,by rw [<- hit];exact hr,WP.again hp1 ⟨m,e,s,cB,?_⟩⟩;cases e with
       |normal=>exact absurd rfl dW
       |exit i=>exact hq
       |ret=>exact hq
     cases hit
end
end Go.Vm
/- Contracts from the typed machine. -/
namespace Go.Vm
section
variable {F : nv} {cx : Ctx} {inl : WZ}
theorem LQ {s:List SB}: ∀{l:List SV} {q:List PV} (i:Nat),RL s l q->ek s (NX i l) (vF i q)
 | [],q,i,h=>by rw [show q=[] from h];rfl
 |x::xs,q,i,h=>by obtain ⟨a,as,rfl,h1,h2⟩:=h.cons_inv;exact ⟨a,vF (i+1) as,rfl,h1,LQ (i+1) h2⟩
theorem Uc {st:qH} {p:St} (h:Ae st p) {r:RV} {v:SV} (hr:NW st r=alG v): ∃q,EM p r=alG q/\R st.aD v q:=by
 cases r with
 |tmp t=>injection hr with hr;subst hr;exact ⟨_,rfl,h.env.lk t⟩
 |cell t agg=>
  simp only [NW] at hr;have vU:=h.env.lk t;split at hr
  · rename_i u n off hv
    rw [hv] at vU;rw [cC] at hr;split at hr
    · rename_i cs cy
      obtain ⟨q,h1,h2⟩:=h.aD.box cy;obtain ⟨x,h3,h4⟩:=uq h2 hr;refine ⟨x,?_,h4⟩;simp only [EM,show lk t p.env=_ from vU,pj,h1,adB,if_true,h3];rfl
    cases hr
  · rename_i cs off hv
    rw [hv] at vU;obtain ⟨q,h1,h2⟩:=vU;obtain ⟨x,h3,h4⟩:=uq h2 hr;refine ⟨x,?_,h4⟩;simp only [EM,h1,pj,h3];rfl
  cases hr
theorem Ix {st:qH} {p:St} (h:Ae st p): ∀{l:List RV} {vs:List SV},zq st l=alG vs-> ∃q,oy p l=alG q/\RL st.aD vs q
 | [],vs,hr=>by injection hr with hr;subst hr;exact ⟨[],rfl,rfl⟩
 |r::l,vs,hr=>by
  simp only [zq] at hr;split at hr
  · rename_i v M5 h1 h2
    injection hr with hr;subst hr;obtain ⟨q,h3,h4⟩:=Uc h h1;obtain ⟨qs,h5,h6⟩:=Ix h h2;exact ⟨q::qs,by simp only [oy,h3,h5],RL.cons h4 h6⟩
  cases hr
theorem LR {s:List SB} {vs:List SV} {q:List PV} (h:RL s vs q):R s (C5 vs) (results1 q):=by
 match vs,q,h with
 | [],q,h=>rw [show q=[] from h];exact ⟨[],rfl,rfl⟩
 | [v],q,h=>obtain ⟨a,as,rfl,h1,h2⟩:=h.cons_inv;rw [show as=[] from h2];exact h1
 |v::u::r,q,h=>have rU:=h;obtain ⟨a,as,rfl,h1,h2⟩:=h.cons_inv;obtain ⟨b,bs,rfl,h3,h4⟩:=h2.cons_inv;exact ⟨_,rfl,rU⟩
theorem yD (Ei:gq F cx) (JR:LN F inl) {f:FuncId} {x:aF} (hf:F f=alG (.code x)) {R':Type} {args:List SV} {s:List SB} {z:List Nat} {k:SV->List SB->List Nat->gM R'} {ρ:Type} {w:R'->ρ} {y:ρ} {pa:List PV} {ps:cK}
 {Q:R'->PV->cK->List Nat->Prop} (ha:RL s args pa) (hS:cN s ps) (he:Ly cx inl x R' args s z k ρ w=alG y)
 (hk: ∀v s' z' p x6 BO (w':R'->BO) y',R s' v p->cN s' x6->k v s' z' BO w'=alG y'-> ∃r,y'=w' r/\Q r p x6 z'): ∃r,y=w r/\Ay F f pa ps z (fun p x6 z'=>Q r p x6 z'):=by
 unfold Ly at he;obtain ⟨hn,he⟩:=db he;have fin: ∀st p BO (w':R'->BO) y',Ae st p->(match zq st x.res with
  |some vs=>k (C5 vs) st.aD st.fz
  |none=>aM) BO w'=alG y'-> ∃r,y'=w' r/\ ∃vs,oy p x.res=alG vs/\Q r (results1 vs) p.aD p.fz:=by
  intro st p BO w' y' h he;cases hr:zq st x.res with
  |none=>rw [hr] at he;cases he
  |some vs=>rw [hr] at he;obtain ⟨q,h1,h2⟩:=Ix h hr;obtain ⟨r,h3,h4⟩:=hk _ _ _ _ _ _ _ _ (LR h2) h.aD he;exact ⟨r,h3,q,h1,by rw [h.fz];exact h4⟩
 obtain ⟨r,hr,Ob⟩:=Rn Ei JR x.code R' (Q:=fun r=>I' x fun p x6 z'=>Q r p x6 z') (p:={env:=vF 0 pa,aD:=ps,fz:=z,kn:=alF ps}) (fun e st p BO w' y' h he=>by
  cases e with
  |normal=>exact fin st p BO w' y' h he
  |ret=>exact fin st p BO w' y' h he
  |exit i=>cases he) ⟨LQ 0 ha,hS,rfl,hS.len⟩ he
 exact ⟨r,hr,Ay.of hf (by rw [ha.ny];exact hn) Ob⟩
theorem JS {α:Type} {l m r:List α} {i:Int} (h:zn l i m=alG r):0<=i/\i.toNat<=alF l/\alF m=1/\alF l+1<=1048576/\r=l.take i.toNat++m++l.drop i.toNat:=by
 unfold zn at h;split at h
 · rename_i hc
   injection h with h;exact ⟨hc.1,hc.2.1,hc.2.2.1,hc.2.2.2,h.symm⟩
 cases h
theorem Ro {e:Nat} {args:List SV} {s:List SB} {z:List Nat} {a:anb} (h:W0 e args s z=alG a):
 ∃x u x2 m,args=[.own a.t x,.int .i64 a.i,.own u x2]/\nth s a.t=alG (.arr a.r a.l)/\nth s u=alG (.arr a.r m)/\a.m=m/\alF a.r=e/\M2 a.t u=alJ/\has z a.t=alJ:=by
 unfold W0 at h;split at h
 case h_2=>cases h
 split at h
 case h_2=>cases h
 split at h
 case h_2=>cases h
 split at h
 case h_2=>cases h
 rename_i m' hm;cases hc:(M2 _ e&&_&&_) with
 |false=>rw [hc] at h;cases h
 |true=>rw [hc] at h;injection h with h;subst h;simp only [rc,aeF,ad5] at hc;obtain ⟨rfl,rfl⟩:=pC hm;exact ⟨_,_,_,_,rfl,by assumption,by assumption,rfl,hc.1.1,hc.1.2,hc.2⟩
theorem Oc {e:Nat} {f:FuncId} (hf:F f=alG (.Hi (I9 e))) {R':Type} {args:List SV} {s:List SB} {z:List Nat} {k:SV->List SB->List Nat->gM R'} {ρ:Type} {w:R'->ρ} {y:ρ} {pa:List PV} {ps:cK}
 {Q:R'->PV->cK->List Nat->Prop} (ha:RL s args pa) (hS:cN s ps) (he:aff e args s z k ρ w=alG y)
 (hk: ∀v s' z' p x6 BO (w':R'->BO) y',R s' v p->cN s' x6->k v s' z' BO w'=alG y'-> ∃r,y'=w' r/\Q r p x6 z'): ∃r,y=w r/\Ay F f pa ps z (fun p x6 z'=>Q r p x6 z'):=by
 unfold aff at he;cases hA:W0 e args s z with
 |none=>rw [hA] at he;cases he
 |some a=>
 rw [hA] at he;dsimp only at he;obtain ⟨l',hl,he⟩:=cU he;obtain ⟨x,u,x2,m0,rfl,ht,hu,hm,Sn,htu,hz⟩:=Ro hA;obtain ⟨t,q,l,i,m⟩:=a;dsimp only at*;subst hm Sn;obtain ⟨i0,il,m1,lP,rfl⟩:=JS hl;obtain ⟨p0,pr0,rfl,h0,ha⟩:=ha;obtain ⟨p1,pr1,rfl,h1,ha⟩:=ha;obtain ⟨p2,pr2,rfl,h2,ha⟩:=ha;obtain rfl:pr2=[]:=ha;obtain rfl:p1= .int .i64 i:=h1;have Pr:s[t]? =alG (.arr q l):=by rw [<- cC];exact ht
 have CB:s[u]? =alG (.arr q m):=by rw [<- cC];exact hu
 obtain ⟨e0,n0,rfl,o0⟩:=h0;obtain ⟨e2,n2,rfl,o2⟩:=h2;obtain ⟨rfl,rfl⟩:e0=alF q/\n0=(alF l):=by
  rcases o0 with ⟨r1,l1,a,b,c⟩|a
  · rw [Pr] at a;injection a with a;injection a with a1 a2;subst a1;subst a2;exact ⟨b,c⟩
  rw [Pr] at a;cases a
 obtain ⟨rfl,rfl⟩:e2=alF q/\n2=(alF m):=by
  rcases o2 with ⟨r1,l1,a,b,c⟩|a
  · rw [CB] at a;injection a with a;injection a with a1 a2;subst a1;subst a2;exact ⟨b,c⟩
  rw [CB] at a;cases a
 obtain ⟨b1,K1,JT⟩:=hS.at_ t _ Pr;obtain ⟨b2,hb2,afw⟩:=hS.at_ u _ CB;have JT:b1= .arr (alF q) (l.map (RT.pv q)):=JT;have afw:b2= .arr (alF q) (m.map (RT.pv q)):=afw;subst JT afw;have c9:(CC [t] (s.set t .dead)).length=(alF s):=by rw [wS];simp
 obtain ⟨L,hL⟩: ∃L,L=l.take i.toNat++m++l.drop i.toNat:=⟨_,rfl⟩;rw [<- hL] at he;have G:=Good.put hS (b:= .dead) (q:= .dead) (l:=[.arr q L]) (ql:=[.arr (alF q) (L.map (RT.pv q))]) (v:= .own (alF s) alJ)
  (p:= .own (alF s) (alF q) 0 (alF L) (alF L) alJ) (rd:=[]) Pr (.inr rfl) rfl rfl
  (fun j b hj=>by
   cases j with
   |zero=>simp at hj;subst hj;exact ⟨_,rfl,rfl⟩
   |succ j=>simp at hj)
  ⟨alF q,alF L,rfl,.inl ⟨q,L,by rw [<- c9];exact mX,rfl,rfl⟩⟩
 have AD:(alF L)=alF l+1:=by rw [hL];simp only [aeK,adG,al5,m1];omega
 obtain ⟨rr,hr,hq⟩:=hk _ _ _ _ _ _ _ _ G.v G.aD he;refine ⟨rr,hr,1,_,_,_,?_,hq⟩;rw [lO];have iM:IR (alF l+1) fa=alI:=by simp [fa];omega
 have hbl:IR i.toNat (alF l)=alI:=by simpa using il
 have hLm:L.map (RT.pv q)=(l.map (RT.pv q)).take i.toNat++m.map (RT.pv q)++(l.map (RT.pv q)).drop i.toNat:=by rw [hL,adN,adN,adH,aei]
 simp [step,hf,I9,K1,hb2,m1,htu,hz,i0,iM,il,AD,hS.len,gC,KL,hLm]
theorem Rp {α:Type} {l m r:List α} (h:Q8 l m=alG r):1<=alF l+alF m/\alF l+alF m<=1048576/\r=l++m:=by
 unfold Q8 at h;split at h
 · rename_i hc
   injection h with h;exact ⟨hc.1,hc.2,h.symm⟩
 cases h
theorem Rq {args:List SV} {s:List SB} {z:List Nat} {a:anc} (h:W3 args s z=alG a):
 ∃cap x m,args=[.part a.t 0 2 cap x]/\nth s a.t=alG (.box [.sl a.r a.l,.sl a.r m])/\a.m=m/\alF a.r=1/\has z a.t=alJ:=by
 unfold W3 at h;split at h
 case h_2=>cases h
 split at h
 case h_2=>cases h
 split at h
 case h_2=>cases h
 rename_i m' hm;cases hc:(M2 _ 1&&M2 _ 0&&M2 _ 2&&_) with
 |false=>rw [hc] at h;cases h
 |true=>rw [hc] at h;injection h with h;subst h;simp only [rc,aeF,ad5] at hc;obtain ⟨rfl,rfl⟩:=pC hm;obtain ⟨⟨⟨h1,rfl⟩,rfl⟩,h2⟩:=hc;exact ⟨_,_,_,rfl,by assumption,rfl,h1,h2⟩
theorem Iy {r:List PT} (h:(alF r)=1) (l:List (RT r)):wE (l.map (RT.pv r))=alI:=by
 unfold wE;rw [adJ];intro x hx;obtain ⟨a,_,rfl⟩:=al1.1 hx
 match r,h with
 | [p],_=>show (M2 [p.pv a].length 1&&[p.pv a].all PV.plain)=alI;cases p<;>rfl
theorem Oe {f:FuncId} (hf:F f=alG (.Hi I7)) {R':Type} {args:List SV} {s:List SB} {z:List Nat} {k:SV->List SB->List Nat->gM R'} {ρ:Type} {w:R'->ρ} {y:ρ} {pa:List PV} {ps:cK}
 {Q:R'->PV->cK->List Nat->Prop} (ha:RL s args pa) (hS:cN s ps) (he:afg args s z k ρ w=alG y)
 (hk: ∀v s' z' p x6 BO (w':R'->BO) y',R s' v p->cN s' x6->k v s' z' BO w'=alG y'-> ∃r,y'=w' r/\Q r p x6 z'): ∃r,y=w r/\Ay F f pa ps z (fun p x6 z'=>Q r p x6 z'):=by
 unfold afg at he;cases hA:W3 args s z with
 |none=>rw [hA] at he;cases he
 |some a=>
 rw [hA] at he;dsimp only at he;obtain ⟨l',hl,he⟩:=cU he;obtain ⟨cap,x,m0,rfl,ht,hm,Sn,hz⟩:=Rq hA;obtain ⟨t,q,l,m⟩:=a;dsimp only at*;subst hm;obtain ⟨hp,lP,rfl⟩:=Rp hl;obtain ⟨p0,pr0,rfl,h0,ha⟩:=ha;obtain rfl:pr0=[]:=ha;have Pr:s[t]? =alG (.box [.sl q l,.sl q m]):=by rw [<- cC];exact ht
 obtain ⟨e0,rfl,o0⟩:=h0;obtain rfl:e0=1:=by
  rcases o0 with ⟨r1,l1,a,b⟩|a|⟨_,a,b⟩
  · rw [Pr] at a;cases a
  · rw [Pr] at a;cases a
  exact b
 obtain ⟨b1,K1,JT⟩:=hS.at_ t _ Pr;obtain ⟨ps1,rfl,p1,q1,rfl,hp1,p2,q2,rfl,hp2,rfl⟩:=JT;have hp1:p1= .sl (alF q) alJ (l.map (RT.pv q)):=hp1;have hp2:p2= .sl (alF q) alJ (m.map (RT.pv q)):=hp2;subst hp1 hp2;have c9:(CC [t] (s.set t .dead)).length=(alF s):=by rw [wS];simp
 obtain ⟨L,hL⟩: ∃L,L=l++m:=⟨_,rfl⟩;rw [<- hL] at he;have G:=Good.put hS (b:= .dead) (q:= .dead) (l:=[.arr q L]) (ql:=[.arr (alF q) (L.map (RT.pv q))]) (v:= .own (alF s) alJ)
  (p:= .own (alF s) (alF q) 0 (alF L) (alF L) alJ) (rd:=[]) Pr (.inr rfl) rfl rfl
  (fun j b hj=>by
   cases j with
   |zero=>simp at hj;subst hj;exact ⟨_,rfl,rfl⟩
   |succ j=>simp at hj)
  ⟨alF q,alF L,rfl,.inl ⟨q,L,by rw [<- c9];exact mX,rfl,rfl⟩⟩
 have AD:(alF L)=alF l+(alF m):=by rw [hL];simp
 obtain ⟨rr,hr,hq⟩:=hk _ _ _ _ _ _ _ _ G.v G.aD he;refine ⟨rr,hr,1,_,_,_,?_,hq⟩;rw [lO];have iM:IR (alF l+alF m) fa=alI:=by simp [fa];omega
 have Hr:IR 1 (alF l+alF m)=alI:=by simpa using hp
 have hLm:L.map (RT.pv q)=l.map (RT.pv q)++m.map (RT.pv q):=by rw [hL,adN]
 have hc:(M2 1 1&&M2 0 0&&M2 2 2&&!has z t&&wE (l.map (RT.pv q))&&wE (m.map (RT.pv q))&&IR 1 ((l.map (RT.pv q)).length+(m.map (RT.pv q)).length)&&IR ((l.map (RT.pv q)).length+(m.map (RT.pv q)).length) fa&&(M2 (alF q) 1||(l.map (RT.pv q)).isEmpty)&&(M2 (alF q) 1||(m.map (RT.pv q)).isEmpty))=alI:=by rw [Iy Sn,Iy Sn,hz,ady,ady,Hr,iM,Sn];rfl
 simp only [step,hf];unfold I7
 dsimp only;rw [K1];dsimp only;rw [hc];simp [hS.len,gC,KL,hLm,AD,Sn]
theorem LS: ∀(p:PT) (a:p.T),BM p (p.pv a)=alG a
 | .i k,a=>by have:fO k k=alI:=fE.2 rfl;simp [BM,PT.pv,this]
 | .b,a=>rfl
theorem PX: ∀(r:List PT) (a:RT r),HA r (RT.pv r a)=alG a
 | [],a=>rfl
 | [p],a=>LS p a
 |p::q::r,a=>by
  show (match BM p (p.pv a.1),HA (q::r) (RT.pv (q::r) a.2) with
   |some a,alG b=>alG (a,b)
   |_,_=>alH)=_
  rw [LS,PX (q::r)]
theorem LU (r:List PT): ∀l:List (RT r),DQ r (l.map (RT.pv r))=alG l
 | []=>rfl
 |a::l=>by
  show (match HA r (RT.pv r a),DQ r (l.map (RT.pv r)) with
   |some a,alG l=>alG (a::l)
   |_,_=>alH)=_
  rw [PX,LU r l]
theorem Xp {s:List SB} {g:Option FuncId} {a:List SV} {p:List PV} (h:DS g a=alI) (hr:RL s a p):WX g p=alI:=by
 unfold DS at h;split at h
 · obtain rfl:p=[]:=hr
   rfl
 · obtain ⟨p0,pr,rfl,h0,hr⟩:=hr
   obtain rfl:pr=[]:=hr;obtain ⟨x,y,rfl,hx,hy⟩:=h0;obtain rfl:x=[]:=hx;obtain rfl:y=[]:=hy;exact h
 cases h
theorem Rr {r:List PT} {g:Option FuncId} {args:List SV} {s:List SB} {z:List Nat} {t:Nat} {o:Option Nat} {l:List (RT r)} (h:W4 r g args s z=alG (t,o,l)):
 ∃x a,args=x::a/\nth s t=alG (.arr r l)/\has z t=alJ/\DS g a=alI/\((o=alH/\ ∃ex,x= .own t ex)\/ ∃len cap ex,o=alG len/\x= .pre t len cap ex):=by
 unfold W4 at h;split at h
 · split at h
   · split at h
     · rename_i hm
       cases hc:(!has z _&&DS g _) with
       |false=>rw [hc] at h;cases h
       |true=>rw [hc] at h;simp only [lc,AC,acl] at h;obtain ⟨rfl,rfl,rfl⟩:=h;simp only [rc,ad5] at hc;obtain ⟨rfl,rfl⟩:=pC hm;exact ⟨_,_,rfl,by assumption,hc.1,hc.2,.inl ⟨rfl,_,rfl⟩⟩
     cases h
   cases h
 · split at h
   · split at h
     · rename_i hm
       cases hc:(!has z _&&DS g _) with
       |false=>rw [hc] at h;cases h
       |true=>rw [hc] at h;simp only [lc,AC,acl] at h;obtain ⟨rfl,rfl,rfl⟩:=h;simp only [rc,ad5] at hc;obtain ⟨rfl,rfl⟩:=pC hm;exact ⟨_,_,rfl,by assumption,hc.1,hc.2,.inr ⟨_,_,_,rfl,rfl⟩⟩
     cases h
   cases h
 cases h
theorem Of {α:Type} {f:List α->Option (List α)} {l m:List α} (h:DP f l=alG m):(alF l)<=1048576/\f l=alG m/\alF m=(alF l):=by
 unfold DP at h;split at h
 · rename_i hl
   split at h
   · rename_i m' hm
     split at h
     · rename_i he
       injection h with h;subst h;exact ⟨hl,hm,he⟩
     cases h
   cases h
 cases h
theorem JU {α:Type} {f:List α->Option (List α)} {n:Nat} {l m:List α} (h:zo f n l=alG m):n<=alF l/\ ∃m',DP f (l.take n)=alG m'/\m=m'++l.drop n:=by
 unfold zo at h;split at h
 · rename_i hn
   cases hm:DP f (l.take n) with
   |none=>rw [hm] at h;cases h
   |some m'=>rw [hm] at h;injection h with h;exact ⟨hn,m',rfl,h.symm⟩
 cases h
theorem Og {q:Srt} {f:FuncId} (hf:F f=alG (.Hi (JG q))) {R':Type} {args:List SV} {s:List SB} {z:List Nat} {k:SV->List SB->List Nat->gM R'} {ρ:Type} {w:R'->ρ} {y:ρ} {pa:List PV} {ps:cK}
 {Q:R'->PV->cK->List Nat->Prop} (ha:RL s args pa) (hS:cN s ps) (he:afh q args s z k ρ w=alG y)
 (hk: ∀v s' z' p x6 BO (w':R'->BO) y',R s' v p->cN s' x6->k v s' z' BO w'=alG y'-> ∃r,y'=w' r/\Q r p x6 z'): ∃r,y=w r/\Ay F f pa ps z (fun p x6 z'=>Q r p x6 z'):=by
 have key: ∀(t len:Nat) (l m':List (RT q.r)) (ex:Bool) (cap:Nat) (pr:List PV) (a:List SV),s[t]? =alG (.arr q.r l)->has z t=alJ->DS q.g a=alI->RL s a pr->pa= .own t (alF q.r) 0 len cap ex::pr->len<=alF l->DP q.fn (l.take len)=alG m'->
  k (.cj []) (gp.nV s {v:= .cj [],wr:=[(t,.arr q.r (m'++l.drop len))]}) z ρ w=alG y-> ∃r,y=w r/\Ay F f pa ps z (fun p x6 z'=>Q r p x6 z'):=by
  intro t len l m' ex cap pr a ht hz hg har S1 c9 Ef he;subst S1;obtain ⟨s1,s2,s3⟩:=Of Ef;obtain ⟨b1,K1,JT⟩:=hS.at_ t _ ht;have JT:b1= .arr (alF q.r) (l.map (RT.pv q.r)):=JT;subst JT;have AD:(l.take len).length=len:=by rw [adG];omega
  have KB:(m'++l.drop len).length=(alF l):=by rw [aeK,al5,s3,AD];omega
  have G:=Good.put hS (b:= .arr q.r (m'++l.drop len)) (q:= .arr (alF q.r) ((m'++l.drop len).map (RT.pv q.r))) (l:=[]) (ql:=[]) (v:= .cj []) (p:= .cj []) (rd:=[]) ht (.inl ⟨_,rfl,KB⟩) rfl rfl
   (fun j b hj=>by simp at hj) ⟨[],rfl,rfl⟩
  obtain ⟨rr,hr,hq⟩:=hk _ _ _ _ _ _ _ _ G.v G.aD he;refine ⟨rr,hr,1,_,_,_,?_,hq⟩;rw [lO];have hg':=Xp hg har;have hrt:DQ q.r ((l.map (RT.pv q.r)).take len)=alG (l.take len):=by rw [<- adH];exact LU q.r _
  have hbl:IR len (alF l)=alI:=by simpa using c9
  have hmo:IR len fa=alI:=by simp [fa];omega
  have hbe:M2 (alF m') (l.take len).length=alI:=by rw [s3];exact adB _
  simp only [step,hf,JG,K1,ady,adB,hbl,hmo,hz,hg',hrt,s2,hbe,ae7,aex,if_true,Option.map_some,gC,KL,adN,aei]
 unfold afh at he;cases hA:W4 q.r q.g args s z with
 |none=>rw [hA] at he;cases he
 |some u=>
  obtain ⟨t,o,l⟩:=u;rw [hA] at he;obtain ⟨x,a,rfl,ht,hz,hg,h⟩:=Rr hA;obtain ⟨p0,pr,rfl,h0,ha⟩:=ha;rw [cC] at ht;rcases h with ⟨rfl,ex,rfl⟩|⟨len,cap,ex,rfl,rfl⟩
  · obtain ⟨m,hm,he⟩:=cU he
    obtain ⟨e0,n0,rfl,o0⟩:=h0;obtain ⟨rfl,rfl⟩:e0=alF q.r/\n0=(alF l):=by
     rcases o0 with ⟨r1,l1,a,b,c⟩|a
     · rw [ht] at a;injection a with a;injection a with a1 a2;subst a1;cases a2;exact ⟨b,c⟩
     rw [ht] at a;cases a
    refine key t (alF l) l m ex (alF l) pr a ht hz hg ha rfl (afn _) (by rw [List.take_length];exact hm) ?_;rw [List.drop_length,adc];exact he
  obtain ⟨m,hm,he⟩:=cU he
  obtain ⟨e0,rfl,o0⟩:=h0;obtain rfl:e0=(alF q.r):=by
   rcases o0 with ⟨r1,l1,a,b⟩|a|⟨_,a,_⟩
   · rw [ht] at a;injection a with a;injection a with a1 a2;subst a1;exact b
   · rw [ht] at a;cases a
   rw [ht] at a;cases a
  obtain ⟨hn,m',Ef,rfl⟩:=JU hm;exact key t len l m' ex cap pr a ht hz hg ha rfl hn Ef he
theorem JV (Ei:gq F cx): ∀n,LN F (TI cx n)
 |0=>fun f args s z R' k ρ w y pa ps Q _ _ h _=>by cases h
 |n+1=>fun f args s z R' k ρ w y pa ps Q ha hS h hk=>by
  simp only [TI] at h;cases hx:cx.code f with
  |none=>rw [hx] at h;cases h
  |some x=>
   rw [hx] at h;cases x with
   |code x=>exact yD Ei (JV Ei n) (Ei.code f _ hx) ha hS h hk
   |ins e=>exact Oc (Ei.code f _ hx) ha hS h hk
   |srt q=>exact Og (Ei.code f _ hx) ha hS h hk
   |cat=>exact Oe (Ei.code f _ hx) ha hS h hk
def Xq:Kd->Bool->Bool
 | .own,b=>b
 |_,b=>!b
def Ud (kd:Kd) {β:Type} (res:Arg β) (b:β) (p:PV) (ps:cK) (z:List Nat):Prop:=
 match kd with
 | .pure=>p.kU=alI/\sW (res.enc b)=alG p
 | .mA=>p.kU=alJ/\ ∃q,zb ps p=alG q/\sW (res.enc b)=alG q
 | .own=> ∀nx,∃p0 p' q seen,zT ps z nx [] p=alG (p',q,seen)/\sW (res.enc b)=alG p0/\FQ nx p0=alG (p',q)
mutual
theorem LV {s:List SB}: ∀{v:SV} {p:PV},R s v p->AP v=alI->sW v=alG p
 | .int _ _,p,h,_| .bool _,p,h,_| .str _,p,h,_=>by rw [show p=_ from h];rfl
 | .agg cs,p,h,hn=>by obtain ⟨q,rfl,h⟩:=h;simp only [sW,FZ h hn]
 | .cj cs,p,h,hn=>by obtain ⟨q,rfl,h⟩:=h;simp only [sW,FZ h hn]
 | .jk,_,_,h| .undef,_,_,h| .jR,_,_,h| .eg,_,_,h| .sl _ _,_,_,h| .nil _ _,_,_,h| .own _ _,_,_,h| .pre _ _ _ _,_,_,h| .part _ _ _ _ _,_,_,h| .pa _ _ _ _ _,_,_,h| .pb _ _ _,_,_,h| .bp _ _ _,_,_,h| .bO _ _,_,_,h| .eO _ _ _,_,_,h| .mp _,_,_,h=>by cases h
theorem FZ {s:List SB}: ∀{v:List SV} {p:List PV},RL s v p->rY v=alI->qJ v=alG p
 | [],p,h,_=>by rw [show p=_ from h];rfl
 |x::xs,p,h,hn=>by obtain ⟨a,as,rfl,h1,h2⟩:=h.cons_inv;simp only [rY,rc] at hn;exact eX.2 ⟨_,_,rfl,LV h1 hn.1,FZ h2 hn.2⟩
end
theorem Oh {kd:Kd} {β:Type} {res:Arg β} {v:SV} {s:List SB} {z:List Nat} {p:PV} {ps:cK} {ρ:Type} {w:β->ρ} {y:ρ} (hv:R s v p) (hS:cN s ps) (h:TJ kd res v s z ρ w=alG y):
 ∃b,y=w b/\Ud kd res b p ps z:=by
 unfold TJ at h;cases kd with
 |pure=>dsimp only at h;obtain ⟨h1,h2⟩:=db h;obtain ⟨b,h3,h4⟩:=bR h2;injection h4 with h4;exact ⟨b,h4.symm,LL hv h1,res.law h3 (LV hv h1)⟩
 |mA=>dsimp only at h;obtain ⟨h1,h2⟩:=sF h;obtain ⟨u,h3,h4⟩:=bR h2;obtain ⟨b,h5,h6⟩:=bR h4;injection h6 with h6;obtain ⟨q,h7,h8⟩:=aee hS hv h3;exact ⟨b,h6.symm,Iq hv h1 h3,q,h7,res.law h5 h8⟩
 |own=>dsimp only at h;obtain ⟨u,h3,h4⟩:=bR h;obtain ⟨b,h5,h6⟩:=bR h4;injection h6 with h6;refine ⟨b,h6.symm,fun nx=>?_⟩;obtain ⟨p0,p',q,h7,h8,h9⟩:=T7 hS (v':=u.1) (seen':=u.2) nx hv h3;exact ⟨p0,p',q,u.2,h9,res.law h5 h7,h8⟩
theorem cN.nil:cN [] []:=⟨rfl,fun t b h=>by simp at h⟩
theorem dM.of {f:FuncId} {x:aF} {α β:Type} {args:au α} {res:Arg β} {kd:Kd} {fn:α->Option β} {ow:Bool} (hf:F f=alG (.code x)) (ho:Xq kd ow=alI) (Ei:gq F cx)
 (h: ∀a,ad8 cx x args res kd a=fn a):dM F f ⟨args,res,fn,kd,ow⟩:=by
 intro a b as pa aD fz hb S1 hex;have hb:fn a=alG b:=hb;rw [<- h a] at hb;obtain ⟨r,hr,n,v,s,z,cB,hl⟩:=yD Ei (JV Ei 8) hf (Q:=fun r p ps z=>Ud kd res r p ps z) (FV S1) cN.nil hb (fun v s' z' p x6 BO w' y' hv hS hk=>Oh hv hS hk);have hr':b=r:=hr;subst hr';cases kd with
 |pure=>
  obtain ⟨h1,h2⟩:=hl;have how:ow=alJ:=by simpa [Xq] using ho
  subst how;refine ⟨n,{v:=v,rd:=dL (dA aD deep) as},?_,v,h2,rfl⟩;simp only [dF,hex,hf,cB,NE,if_false,h1,if_true]
 |mA=>
  obtain ⟨h1,q,h2,h3⟩:=hl;have how:ow=alJ:=by simpa [Xq] using ho
  subst how;refine ⟨n,{v:=q,rd:=dL (dA aD deep) as,fr:=dL (dA aD deep) as},?_,q,h3,rfl⟩;simp only [dF,hex,hf,cB,NE,if_false,h1,h2]
 |own=>have how:ow=alI:=ho;subst how;obtain ⟨p0,p',q,seen,h1,h2,h3⟩:=hl (alF aD);refine ⟨n,{v:=p',news:=q,rd:=dL (dA aD deep) as},?_,p0,p',q,h2,h3,rfl⟩;simp only [dF,hex,hf,cB,if_true,h1]
theorem LW: ∀(s:List SB) (q:List x5),(AQ s q).1.length=alF s
 | [],q=>rfl
 |b::r,q=>by simp only [AQ,ad6,LW r]
mutual
theorem R.take {s:List SB} {k:Nat}: ∀{v:SV} {p:PV},R s v p->(∀t∈NO tM v,t<k)->R (s.take k) v p
 | .jk,_,_,_=>trivial
 | .undef,_,h,_| .jR,_,h,_| .eg,_,h,_| .int _ _,_,h,_| .bool _,_,h,_| .str _,_,h,_| .sl _ _,_,h,_| .nil _ _,_,h,_| .bp _ _ _,_,h,_| .mp _,_,h,_=>h
 | .agg cs,_,h,ht=>by obtain ⟨q,rfl,h⟩:=h;exact ⟨q,rfl,RL.F3 h ht⟩
 | .cj cs,_,h,ht=>by obtain ⟨q,rfl,h⟩:=h;exact ⟨q,rfl,RL.F3 h ht⟩
 | .bO cs o,_,h,ht=>by obtain ⟨q,rfl,h⟩:=h;exact ⟨q,rfl,RL.F3 h ht⟩
 | .eO f a b,_,h,ht=>by obtain ⟨pa,pb,rfl,h1,h2⟩:=h;exact ⟨pa,pb,rfl,RL.F3 h1 (fun t h=>ht t (aez _ h)),RL.F3 h2 (fun t h=>ht t (aev _ h))⟩
 | .own t ex,_,h,ht=>by
  obtain ⟨e,n,rfl,dm⟩:=h;have hk:=ht t (ael.2 rfl);refine ⟨e,n,rfl,?_⟩;rcases dm with ⟨r,l,h1,h2,h3⟩|h1
  · exact .inl ⟨r,l,by rw [EQ hk];exact h1,h2,h3⟩
  exact .inr (by rw [EQ hk];exact h1)
 | .pre t a b c,_,h,ht=>by
  obtain ⟨e,rfl,dm⟩:=h;have hk:=ht t (ael.2 rfl);refine ⟨e,rfl,?_⟩;rcases dm with ⟨r,l,h1,h2⟩|h1
  · exact .inl ⟨r,l,by rw [EQ hk];exact h1,h2⟩
  exact .inr (by rw [EQ hk];exact h1)
 | .part t o a b c,_,h,ht=>by
  obtain ⟨e,rfl,dm⟩:=h;have hk:=ht t (ael.2 rfl);refine ⟨e,rfl,?_⟩;rcases dm with ⟨r,l,h1,h2⟩|h1
  · exact .inl ⟨r,l,by rw [EQ hk];exact h1,h2⟩
  exact .inr (by rw [EQ hk];exact h1)
 | .pa t r i a o,_,h,ht=>by
  obtain ⟨rfl,dm⟩:=h;have hk:=ht t (aej ..);refine ⟨rfl,?_⟩;rcases dm with ⟨l,h1,h2⟩|h1
  · exact .inl ⟨l,by rw [EQ hk];exact h1,h2⟩
  exact .inr (by rw [EQ hk];exact h1)
 | .pb t i o,_,h,ht=>by
  obtain ⟨e,rfl,dm⟩:=h;have hk:=ht t (aej ..);refine ⟨e,rfl,?_⟩;rcases dm with ⟨r,l,h1,h2⟩|h1
  · exact .inl ⟨r,l,by rw [EQ hk];exact h1,h2⟩
  exact .inr (by rw [EQ hk];exact h1)
theorem RL.F3 {s:List SB} {k:Nat}: ∀{v:List SV} {p:List PV},RL s v p->(∀t∈rX tM v,t<k)->RL (s.take k) v p
 | [],_,h,_=>h
 |x::xs,_,h,ht=>by obtain ⟨a,as,rfl,h1,h2⟩:=h.cons_inv;exact RL.cons (R.take h1 (fun t h=>ht t (aez _ h))) (RL.F3 h2 (fun t h=>ht t (aev _ h)))
end
theorem F4 {R' ρ:Type} {w:R'->ρ} {y:ρ}: ∀{s s':List SB} {k:gM R'},BP s s' k ρ w=alG y->k ρ w=alG y/\alF s'=alF s/\ ∀(t:Nat) (x z:SB),s[t]? =alG x->s'[t]? =alG z->T9 x z
 | [],[],k,h=>⟨h,rfl,fun t x z h=>by simp at h⟩
 | [],_::_,k,h=>by cases h
 |_::_,[],k,h=>by cases h
 |x::xs,y'::ys,k,h=>by
  have step: ∀(_:BP xs ys k ρ w=alG y) (_:T9 x y'),k ρ w=alG y/\(y'::ys).length=(x::xs).length/\ ∀(t:Nat) (a b:SB),(x::xs)[t]? =alG a->(y'::ys)[t]? =alG b->T9 a b:=by
   intro h hx;obtain ⟨h1,h2,h3⟩:=F4 h;refine ⟨h1,by simpa using h2,fun t a b ha hb=>?_⟩;cases t with
   |zero=>simp at ha hb;subst ha hb;exact hx
   |succ t=>exact h3 t a b (by simpa using ha) (by simpa using hb)
  cases x with
  |arr r l=>
   cases y' with
   |arr q m=>obtain ⟨hr,h2⟩:=db (a:=gR (alF m==alF l) (BP xs ys k) aM) h;obtain ⟨hl,h3⟩:=iP h2;exact step h3 ⟨vW hr,by simpa using hl⟩
   |_=>cases h
  |dead=>cases y' with
   |dead=>exact step h trivial
   |_=>cases h
  |box cs=>cases y' with
   |box _=>exact step h trivial
   |_=>cases h
  |set l=>cases y' with
   |set _=>exact step h trivial
   |_=>cases h
  |bA p l=>cases y' with
   |bA _ _=>exact step h trivial
   |_=>cases h
theorem F5: ∀{s:List SB},FB s=alI-> ∀(t:Nat) (b:SB),s[t]? =alG b->zp b=alI
 | [],_,t,b,h=>by simp at h
 |x::xs,hs,0,b,h=>by simp only [FB,rc] at hs;simp at h;subst h;exact hs.1
 |x::xs,hs,t+1,b,h=>by simp only [FB,rc] at hs;exact F5 hs.2 t b (by simpa using h)
theorem hZ.of {f:FuncId} {x:aF} {wd:Bool} {ka ko:List AK} {ta:List SV} {tb to:List SB} {tv:SV} {fn:kC ka->Option (kC ko)} (hf:F f=alG (.code x)) (Ei:gq F cx)
 (h: ∀a,arq wd cx x ka ta tb ko tv to a=fn a):hZ F f ⟨ka,ta,tb,ko,tv,to,fn⟩:=by
 intro a b pa ps hb ha hS;rw [show (⟨ka,ta,tb,ko,tv,to,fn⟩:dQ).fn a=fn a from rfl,<- h a] at hb;have c9:(dQ.sa ⟨ka,ta,tb,ko,tv,to,fn⟩ a).length=(alF tb):=LW _ _;obtain ⟨r,hr,n,v,s,z,cB,hz,hq⟩:=yD Ei (JV Ei 8) hf (Q:=fun (r:kC ko) p x6 z'=>z'=[]/\iL (alF tb) p x6=alI/\
  R (dQ.sb ⟨ka,ta,tb,ko,tv,to,fn⟩ r) (dQ.vb ⟨ka,ta,tb,ko,tv,to,fn⟩ r) p/\cN (dQ.sb ⟨ka,ta,tb,ko,tv,to,fn⟩ r) (x6.take (alF tb))/\
  (dQ.sb ⟨ka,ta,tb,ko,tv,to,fn⟩ r).length=(dQ.sa ⟨ka,ta,tb,ko,tv,to,fn⟩ a).length/\
  ∀(t:Nat) (x y:SB),(dQ.sa ⟨ka,ta,tb,ko,tv,to,fn⟩ a)[t]? =alG x->(dQ.sb ⟨ka,ta,tb,ko,tv,to,fn⟩ r)[t]? =alG y->T9 x y) ha hS hb (fun v s' z' p x6 BO w' y' hv hS' hk=>by
  cases z' with
  |cons _ _=>cases hk
  |nil=>
   dsimp only at hk;obtain ⟨hc,hk⟩:=db hk;simp only [rc] at hc;obtain ⟨⟨⟨⟨c1,c2⟩,c3⟩,c4⟩,c5⟩:=hc;obtain ⟨hk,f1,f2⟩:=F4 hk;obtain ⟨r,hr,hk⟩:=bR hk;injection hk with hk;have hu:R s' (bif wd then Ie s' v else v) p:=by
    cases wd with
    |true=>exact PN hv
    |false=>exact hv
   generalize (bif wd then Ie s' v else v)=u at c1 c3 c4 hr hu;have E4:=sX hr;have Ue:dQ.vb ⟨ka,ta,tb,ko,tv,to,fn⟩ r=u:=by show (tQ tv (mW ko r)).1=u;rw [E4,Ez _ c1]
   have hsb:dQ.sb ⟨ka,ta,tb,ko,tv,to,fn⟩ r=s'.take (alF tb):=by show (AQ to (tQ tv (mW ko r)).2).1=_;rw [E4,Ez _ c1];have:=B0 [] c2;rw [adc] at this;rw [this]
   have lP:(alF tb)<=(alF s'):=by
    have:=f1;rw [adG] at this;have h2:(dQ.sa ⟨ka,ta,tb,ko,tv,to,fn⟩ a).length=(alF tb):=c9;have h3:min (alF tb) (alF s')=(alF tb):=by rw [this];exact h2
    omega
   unfold ad7 at c3;rw [adJ] at c3;have hkv: ∀t∈NO tM u,t<(alF tb):=fun t ht=>by simpa using c3 t (aez _ ht)
   have hkb: ∀b∈s'.take (alF tb),∀t∈Ft b,t<(alF tb):=fun b hb t ht=>by simpa using c3 t (aev _ (al9.2 ⟨b,hb,ht⟩))
   have qA:cN (s'.take (alF tb)) (x6.take (alF tb)):=⟨by simp [hS'.len],fun t x hx=>by
    have dV:t<(alF tb):=by have:=(ut.1 hx).1;rw [adG] at this;omega
    have hx':=hx;rw [EQ dV] at hx';obtain ⟨q,q1,q2⟩:=hS'.at_ t x hx';refine ⟨q,by rw [EQ dV];exact q1,?_⟩;cases x with
    |box cs=>obtain ⟨pc,rfl,hpc⟩:=q2;exact ⟨pc,rfl,RL.F3 hpc (hkb _ (ae8 hx))⟩
    |_=>exact q2⟩
   refine ⟨r,hk.symm,rfl,?_,by rw [Ue,hsb];exact R.take hu hkv,by rw [hsb];exact qA,by rw [hsb];exact f1,by rw [hsb];exact f2⟩;unfold iL;rw [adJ];intro t ht;rw [alt] at ht;rcases ht with ht|ht
   · rw [<- T1 (bx:=tM) (fun _=>rfl) hu c4] at ht
     simpa using hkv t ht
   rw [al9] at ht
   obtain ⟨q,hq,ht⟩:=ht;obtain ⟨j,hj,he⟩:=aeD hq;have Nh:j<(s'.take (alF tb)).length:=by rw [<- qA.len];exact hj
   obtain ⟨x,hx⟩: ∃x,(s'.take (alF tb))[j]? =alG x:=⟨_,Do Nh⟩;obtain ⟨q',q1,q2⟩:=qA.at_ j x hx;rw [Do hj,he] at q1;injection q1 with q1;subst q1;rw [<- JM q2 (F5 c5 j x hx)] at ht;simpa using hkb x (ae8 hx) t ht)
 have hr':b=r:=hr;subst hr';subst hz;refine ⟨n,v,s,cB,?_⟩;rw [c9];obtain ⟨h1,h2,h3,h4,h5⟩:=hq;exact ⟨h1,h2,h3,by rw [h4,c9],h5⟩
theorem Oi {f:FuncId} {r:List PT} (hf:F f=alG (.kG alJ (fU (alF r)))) (l:List (RT r)) (hl:(alF l)<=1048576) {as:List PV} {aD:cK} {fz:List Nat} (hex:CF aD (x9 aD deep) as=alG [.sl (alF r) alJ (l.map (RT.pv r))]):
 ∃n x,dF F (run F n) alJ f as aD fz=alG x/\aef .own (alF aD) (dL (dA aD deep) as) (.sl r l) x:=by
 refine ⟨0,{v:= .own (alF aD) (alF r) 0 (alF l) (alF l) alJ,news:=[.arr (alF r) (l.map (RT.pv r))],rd:=dL (dA aD deep) as},?_,.sl (alF r) alJ (l.map (RT.pv r)),.own (alF aD) (alF r) 0 (alF l) (alF l) alJ,[.arr (alF r) (l.map (RT.pv r))],rfl,by simp only [FQ,ady],rfl⟩;simp only [dF,hex,hf];cases l with
 |nil=>rfl
 |cons a l=>
  have h2:IR ((l.map (RT.pv r)).length+1) fa=alI:=by simp [fa] at hl ⊢;omega
  simp only [adz,fU,adB,h2,adA,if_true,zT];simp [has]
theorem dM.clone {f:FuncId} {n:Nat} {r:List PT} (hf:F f=alG (.kG alJ (fU n))) (hn:n=alF r):dM F f (tR.clone r):=by
 intro (a:List (RT r)) (b:List (RT r)) as pa aD fz hb S1 hex;subst hn;have hb:bV a=alG b:=hb;obtain ⟨rfl,hl⟩:=AV hb;have afx:pa=[.sl (alF r) alJ (b.map (RT.pv r))]:=by have:alG [PV.sl (alF r) alJ (b.map (RT.pv r))]=alG pa:=S1;exact (adP this).symm
 subst afx;exact Oi hf b hl hex
theorem dM.PH {f:FuncId} (hf:F f=alG (.kG alJ Aw)):dM F f tR.PH:=by
 intro a b as pa aD fz hb S1 hex;obtain ⟨x,y,c⟩:=a;have Bl:pD x y c=alG b:=hb;unfold pD at Bl;cases hc:(alK (0<=x)&&alK (0<=y)&&alK (0<=c)&&alK (c<=1)) with
 |false=>rw [hc] at Bl;cases Bl
 |true=>
  rw [hc] at Bl;injection Bl with Bl;subst Bl;simp only [rc,decide_eq_true_eq] at hc;obtain ⟨⟨⟨h1,h2⟩,h3⟩,h4⟩:=hc;obtain ⟨x,rfl⟩:=UV h1;obtain ⟨y,rfl⟩:=UV h2;obtain ⟨c,rfl⟩:=UV h3;have afx:pa=[.int .u64 (.ofNat x),.int .u64 (.ofNat y),.int .u64 (.ofNat c)]:=by have:alG [PV.int .u64 (x:Int),.int .u64 (y:Int),.int .u64 (c:Int)]=alG pa:=S1;exact (adP this).symm
  subst afx;have hcb:IR c 1=alI:=by simp;omega
  refine ⟨0,{v:= .cj [.int .u64 (.ofNat ((x+y+c)%18446744073709551616)),.int .u64 (.ofNat ((x+y+c) / 18446744073709551616))],rd:=dL (dA aD deep) as},?_,_,rfl,rfl⟩;show dF F (run F 0) alJ f as aD fz=_;simp only [dF,hex,hf,Aw,hcb,if_true];rfl
theorem hZ.zero {f:FuncId} {c:dQ} (h: ∀a,c.fn a=alH):hZ F f c:=fun a b pa ps hb=>by rw [h a] at hb;cases hb
theorem dM.zero {f:FuncId} {c:tR} (h: ∀a,c.fn a=alH):dM F f c:=fun a b as pa aD fz hb=>by rw [h a] at hb;cases hb
theorem dM.at0 {f:FuncId} {fn:Unit->Option Bool} (h:dM F f ⟨au.nil,Arg.bool,fn,.pure,alJ⟩) (hb:fn ()=alG alI):dM F f ⟨au.nil,Arg.bool,fun _=>alG alI,.pure,alJ⟩:=by intro a b as args aD fz hr hp hx;obtain rfl:alI=b:=adP hr;exact h () alI as args aD fz hb hp hx
end
end Go.Vm
/- What comes in to a law, as typed values; a law from a contract. -/
namespace Go.Vm
open Go.ChangeShapes Go.WideShapes Go.ChangeAt Go.RowKit
def PT.wf:(p:PT)->p.T->Prop
 | .i k,n=>(Lit.int k n).wf=alI
 | .b,_=>True
def RT.wf:(r:List PT)->RT r->Prop
 | [],_=>True
 | [p],a=>p.wf a
 |p::q::r,a=>p.wf a.1/\RT.wf (q::r) a.2
def ia (r:List PT) (vs:List SV):Prop:= ∃a:RT r,vs=RT.sv r a/\RT.wf r a
def LX (r:List PT) (vs:List SV):Prop:= ∃l:List (RT r),vs=[.sl r l]/\ ∀a∈l,RT.wf r a
def Xr:List (List SV->Prop)->List SV->Prop
 | [],vs=>vs=[]
 |K::Ks,vs=> ∃a b,vs=a++b/\K a/\Xr Ks b
theorem ia.cons {p:PT}: ∀{r:List PT} {a b:List SV},ia [p] a->ia r b->ia (p::r) (a++b)
 | [],a,b,⟨x,hx,wx⟩,⟨y,hy,_⟩=>⟨x,by rw [hx,hy];rfl,wx⟩
 |q::r,a,b,⟨x,hx,wx⟩,⟨y,hy,wy⟩=>⟨(x,y),by rw [hx,hy];rfl,wx,wy⟩
theorem ia.split {p q:PT} {r:List PT} {vs:List SV}:ia (p::q::r) vs-> ∃a b,vs=a++b/\ia [p] a/\ia (q::r) b
 |⟨x,hx,wx⟩=>⟨[p.sv x.1],RT.sv (q::r) x.2,hx,⟨x.1,rfl,wx.1⟩,⟨x.2,rfl,wx.2⟩⟩
theorem ia.app: ∀{r s:List PT} {a b:List SV},ia r a->ia s b->ia (r++s) (a++b)
 | [],s,a,b,⟨x,hx,_⟩,h=>by have:a=[]:=hx;subst this;exact h
 | [p],s,a,b,h,k=>ia.cons h k
 |p::q::r,s,a,b,h,k=>by
  obtain ⟨a1,a2,rfl,h1,h2⟩:=ia.split h
  rw [ad9];exact ia.cons h1 (ia.app h2 k)
theorem nX: ∀{rs:List (List PT)} {vs:List SV},Xr (rs.map ia) vs->ia rs.flatten vs
 | [],vs,h=>by have:vs=[]:=h;subst this;exact ⟨(),rfl,trivial⟩
 |r::rs,vs,⟨a,b,h1,h2,h3⟩=>by subst h1;rw [List.flatten_cons];exact ia.app h2 (nX h3)
def cD (P : Program) (t : TypeId) (K : List SV -> Prop) : Prop :=
  ∀ (H : Type) (enc : TypeId × Value -> H) (w : World) (AJ : Nat) (cs : List Value) (x : DataW H × List MemPlace), DataW.trod enc P w 0 (fun _ => alI) alI AJ t cs = alG x ->
    ∃ vs q, K vs /\ qJ vs = alG q /\ fx (Fp w) gz q cs
section
variable {P : Program}
theorem cD.mono {t:TypeId} {K K':List SV->Prop} (h:cD P t K) (hk: ∀vs,K vs->K' vs):cD P t K':=fun H enc w AJ cs x hx=>by obtain ⟨vs,q,h1,h2,h3⟩:=h H enc w AJ cs x hx;exact ⟨vs,q,hk vs h1,h2,h3⟩
theorem cD.int {t:TypeId} {k:IntKind} (ht:P.underlying t=alG (.int k)):cD P t (ia [.i k]):=fun H enc w AJ cs x h=>by obtain ⟨n,rfl,_,hw⟩:=DataW.trod_int ht h;exact ⟨[.int k n],[.int k n],⟨n,rfl,hw⟩,rfl,.cons _ _ _ _ (.int k n) .nil⟩
theorem cD.bool {t:TypeId} (ht:P.underlying t=alG .bool):cD P t (ia [.b]):=fun H enc w AJ cs x h=>by obtain ⟨b,rfl,_⟩:=DataW.trod_bool ht h;exact ⟨[.bool b],[.bool b],⟨b,rfl,trivial⟩,rfl,.cons _ _ _ _ (.bool b) .nil⟩
def bw (P:Program):List Field->List (List SV->Prop)->Nat->Prop
 | [],[],_=>True
 |f::fs,K::Ks,off=>f.offset=off/\cD P f.type K/\bw P fs Ks (off+P.cellsOf f.type)
 |_,_,_=>False
theorem bw.nil {off:Nat}:bw P [] [] off:=trivial
theorem bw.cons {f:Field} {fs:List Field} {K:List SV->Prop} {Ks:List (List SV->Prop)} {off:Nat} (h1:f.offset=off) (h2:cD P f.type K) (h3:bw P fs Ks (off+P.cellsOf f.type)):bw P (f::fs) (K::Ks) off:=⟨h1,h2,h3⟩
def yE (P:Program):List Field->Nat
 | []=>0
 |f::fs=>P.cellsOf f.type+yE P fs
theorem F6 {im:Im} {loc:Loc}: ∀{p:List PV} {vs:List Value} {q:List PV} {us:List Value},fx im loc p vs->fx im loc q us->fx im loc (p++q) (vs++us)
 | [],[],_,_,.nil,h=>h
 |_::_,_::_,_,_,.cons x v xs ws h hs,k=> .cons x v _ _ h (F6 hs k)
theorem F7 {H:Type} {enc:TypeId×Value->H} {w:World} {n:Nat} {cs:List Value}: ∀{fs:List Field} {Ks:List (List SV->Prop)} {off:Nat},bw P fs Ks off->alF cs=off+yE P fs->
 (∀f∈fs,∃x,DataW.trod enc P w 0 (fun _=>alI) alI n f.type ((cs.drop f.offset).take (P.cellsOf f.type))=alG x)-> ∃vs q,Xr Ks vs/\qJ vs=alG q/\fx (Fp w) gz q (cs.drop off)
 | [],[],off,_,hl,_=>⟨[],[],rfl,rfl,by rw [List.drop_eq_nil_of_le (by simp [yE] at hl;omega)];exact .nil⟩
 |f::fs,K::Ks,off,⟨h1,h2,h3⟩,hl,hx=>by
  obtain ⟨x,Hl⟩:=hx f (by simp);obtain ⟨vs,q,k1,k2,k3⟩:=h2 H enc w n _ x Hl;obtain ⟨M5,q',k1',k2',k3'⟩:=F7 (n:=n) h3 (by simp only [yE] at hl;omega) (fun g hg=>hx g (by simp [hg]));refine ⟨vs++M5,q++q',⟨vs,M5,rfl,k1,k1'⟩,AS k2 k2',?_⟩;rw [h1] at k3;have:cs.drop off=(cs.drop off).take (P.cellsOf f.type)++cs.drop (off+P.cellsOf f.type):=by rw [<- List.drop_drop,List.take_append_drop]
  rw [this];exact F6 k3 k3'
 | [],_::_,_,h,_,_=>h.elim
 |_::_,[],_,h,_,_=>h.elim
theorem cD.struct {t:TypeId} {fs:Array Field} {Ks:List (List SV->Prop)} (ht:P.underlying t=alG (.struct fs)) (hF:bw P fs.toList Ks 0) (hc:P.cellsOf t=yE P fs.toList):cD P t (Xr Ks):=fun H enc w AJ cs x h=>by
 obtain ⟨xs,n,rfl,_,hl,hxl,rU⟩:=DataW.trod_struct ht h;have:=F7 (P:=P) (enc:=enc) (w:=w) (n:=n) (cs:=cs) hF (by omega) (fun f hf=>by
  obtain ⟨i,hi,he⟩:=List.mem_iff_getElem.1 hf;have uY:i<fs.size:=by simpa using hi
  have hg:fs[i]? =alG f:=by rw [Array.getElem?_eq_getElem uY];simpa using he
  have:=rU i f hg;rw [Do (by omega)] at this;exact ⟨_,this⟩)
 rwa [adK] at this
theorem RT.vrl {r:List PT} {a:RT r} {q:List PV} (h:qJ (RT.sv r a)=alG q):q=RT.pv r a:=by rw [RT.Ih] at h;exact (adP h).symm
theorem fx.nth {im:Im} {loc:Loc}: ∀{p:List PV} {vs:List Value},fx im loc p vs-> ∀(k:Nat) (c:PV),p[k]? =alG c-> ∃v,vs[k]? =alG v/\VR im loc c v
 |_::_,_::_,.cons x v xs ws h hs,0,c,hc=>by simp at hc;subst hc;exact ⟨v,by simp,h⟩
 |_::_,_::_,.cons x v xs ws h hs,k+1,c,hc=>by obtain ⟨u,h1,h2⟩:=fx.nth hs k c (by simpa using hc);exact ⟨u,by simpa using h1,h2⟩
theorem cD.slice {t e:TypeId} {r:List PT} (ht:P.underlying t=alG (.slice e)) (he:cD P e (ia r)) (hc:P.cellsOf e=alF r) (hr:0<alF r):cD P t (LX r):=fun H enc w AJ cs x h=>by
 rcases Go.Deep.open_slice ht h with ⟨rfl,_⟩|⟨a,len,cap,m,n,D,Pl,rfl,_,hl,hm,hmm,_,hx⟩
 · exact ⟨[.sl r []],[.sl (alF r) alJ []],⟨[],rfl,by simp⟩,rfl,.cons _ _ _ _ (.sl (alF r) alJ [] alH 0 (afn _) (fun h=>by cases h) (fun h=>absurd rfl h)) .nil⟩
 have CW:len<=m:=by rw [hmm];split<;>omega
 have each: ∀i,i<len-> ∃A:RT r,RT.wf r A/\ ∃HR,w.cells? 0 (a.add (i*alF r)) (alF r)=alG HR/\fx (Fp w) gz (RT.pv r A) HR:=by intro i hi;obtain ⟨HR,h1,h2⟩:=hx i (by omega);obtain ⟨vs,q,⟨A,hA,wA⟩,k2,k3⟩:=he H enc w n HR _ h2;subst hA;rw [RT.vrl k2] at k3;rw [hc] at h1;exact ⟨A,wA,HR,h1,k3⟩
 have ch: ∃A:Nat->RT r,∀i,i<len->RT.wf r (A i)/\ ∃HR,w.cells? 0 (a.add (i*alF r)) (alF r)=alG HR/\fx (Fp w) gz (RT.pv r (A i)) HR:=by
  classical
  refine ⟨fun i=>if h:i<len then (each i h).choose else RT.zero r,fun i hi=>?_⟩;simp only [dif_pos hi];exact (each i hi).choose_spec
 obtain ⟨A,hA⟩:=ch;refine ⟨[.sl r ((ak0 len).map A)],[.sl (alF r) alJ (((ak0 len).map A).map (RT.pv r))],⟨_,rfl,fun x hx=>?_⟩,rfl,.cons _ _ _ _ ?_ .nil⟩
 · obtain ⟨i,hi,rfl⟩:=al1.1 hx
   exact (hA i (List.mem_range.1 hi)).1
 have c9:(((ak0 len).map A).map (RT.pv r)).length=len:=by simp
 have:=VR.sl (im:=Fp w) (loc:=gz) (alF r) alJ (((ak0 len).map A).map (RT.pv r)) (alG a) cap (by rw [c9];exact hl) (fun h=>by cases h) (fun dW=>by
  have Hr:0<len:=by
   rcases ajj len with h|h
   · subst h;exact absurd rfl dW
   exact h
  obtain ⟨_,cs0,h0,_⟩:=hA 0 Hr;obtain ⟨_,Kz,Fb⟩:=al2 h0;obtain ⟨b,off,spot⟩:=a;have anw:spot=alH:=by have h1:=Fb 0 hr;rw [Do (by omega)] at h1;simpa [Addr.add] using World.cell?_spot h1
  subst anw;refine ⟨b,off,rfl,fun i row vH=>?_⟩;simp only [List.map_map,List.getElem?_map,adC] at vH;obtain ⟨j,hj,rfl⟩:=vH;have Nh:=cP hj;have:j=i:=by rw [List.getElem?_range (by simpa using Nh)] at hj;exact (adP hj).symm
  subst this;have anx:j<len:=by simpa using Nh
  obtain ⟨_,HR,h1,h2⟩:=hA j anx;obtain ⟨_,HU,DK⟩:=al2 h1;refine ⟨RT.wQ r (A j),fun k c hk=>?_⟩;obtain ⟨v,hv,pg⟩:=fx.nth h2 k c hk;have hkr:k<(alF r):=by
   have:=cP hk
   rwa [Function.comp,RT.wQ] at this
  have cc:=DK k hkr;rw [hv] at cc;rw [Go.WideShapes.add_plain,Go.WideShapes.add_plain] at cc;have Ng:c.plain=alI:=adJ.1 (RT.plain r (A j)) c (ae8 hk);exact ⟨v,pg.plain Ng,Q5 cc⟩)
 rw [c9] at this;exact this
theorem cD.afy {t:TypeId} {fs:Array Field} {K:List SV->Prop} (h:cD P t K) (ht:P.underlying t=alG (.struct fs)) {H:Type} {enc:TypeId×Value->H} {w:World} {oE:Nat} {v:Value} {d:DataW H} {p:List MemPlace}
 (hv:Value.okWide P w .any oE t v) (hd:DataW.Trod enc P w 0 (fun _=>alI) alI t v d p): ∃vs q,K vs/\qJ vs=alG q/\VR (Fp w) gz (.agg q) v:=by
 obtain ⟨cs,rfl,_⟩:=okWide_struct ht hv;obtain ⟨AJ,hf⟩:=hd;obtain ⟨vs,q,k1,k2,k3⟩:=h H enc w AJ _ _ hf;exact ⟨vs,q,k1,k2,.agg q _ k3⟩
theorem cD.arM {t:TypeId} {k:IntKind} (ht:P.underlying t=alG (.int k)) {H:Type} {enc:TypeId×Value->H} {w:World} {oE:Nat} {v:Value} {d:DataW H} {p:List MemPlace}
 (hv:Value.okWide P w .any oE t v) (hd:DataW.Trod enc P w 0 (fun _=>alI) alI t v d p): ∃n,(Lit.int k n).wf=alI/\VR (Fp w) gz (.int k n) v:=by
 obtain ⟨n,rfl,_,_,hw⟩:=open_int ht hv hd;exact ⟨n,hw,.int k n⟩
theorem wf_i64 {n:Int} (h:(Lit.int .i64 n).wf=alI): -9223372036854775808<=n/\n<9223372036854775808:=by
 simp only [Lit.wf,rc,decide_eq_true_eq] at h;have e1:IntKind.i64.min= -9223372036854775808:=by decide
 have e2:IntKind.i64.max=9223372036854775807:=by decide
 rw [e1,e2] at h;omega
end
theorem dM.arN {F:nv} {f:FuncId} {x:aF} {α:Type} {A:au α} {fn:α->Option Bool} (h:dM F f ⟨A,Arg.bool,fn,.pure,alJ⟩) (hf:F f=alG (.code x)) {a:α} (hb:fn a=alG alI) {ps:List PV} (hp:qJ (A.enc a)=alG ps) (hx:CF [] (x9 [] deep) ps=alG ps):
 ∃n s z,run F n (.func f ps [] [])=alG (.func (.bool alI) s z):=by
 obtain ⟨n,r,h1,p,h2,rfl⟩:=h a alI ps ps [] [] hb hp hx;have hp':p= .bool alI:=(adP h2).symm;subst hp';refine ⟨n,?_⟩;simp only [dF,hx,hf] at h1;split at h1
 · rename_i v s z hr
   simp only [NE,if_false] at h1;split at h1
   · injection h1 with h1
     injection h1 with h1;subst h1;exact ⟨s,z,hr⟩
   rename_i hn
   split at h1
   · rename_i v' hv
     injection h1 with h1;injection h1 with h1;subst h1;exfalso;cases v with
     |bool b=>exact hn rfl
     |int _ _|str _|sl _ _ _=>injection hv with hv;cases hv
     |agg cs=>simp only [zb,adC] at hv;obtain ⟨_,_,hv⟩:=hv;cases hv
     |cj cs=>simp only [zb,adC] at hv;obtain ⟨_,_,hv⟩:=hv;cases hv
     |own t e off len cap ex=>simp only [zb] at hv;split at hv<;>first|(injection hv with hv;cases hv)|cases hv
     |_=>cases hv
   cases h1
 cases h1
end Go.Vm
