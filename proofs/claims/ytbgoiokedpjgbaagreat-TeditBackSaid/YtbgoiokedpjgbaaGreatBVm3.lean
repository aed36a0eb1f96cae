/- The logical machine, part 3: SvCod, SvRel, SvOps1, SvOps2, SvOps3, SvOps4, SvNorm, SvCall, SvFp, SvRun, SvCon, SvLaw. -/
import Derived.Test.YtbgoiokedpjgbaaGreatBVm2
open Nat renaming eq_of_beq_eq_true->ut,ble->M2,beq->NE,le_of_ble_eq_true->UV,beq_refl->afb,lt_or_ge->afQ,zero_add->agb,beq_eq->agG,min_eq_left->agX,le_refl->akr,blt->aks,eq_zero_or_pos->am6,le_of_lt->amo,sub_self->anv
open Bool renaming and_eq_true->v6,false_eq_true->PP,not_eq_true'->ae9,and_self->afa,not_false->afI,and_true->agd,not_true->alt,or_eq_true->ant,true->anB,false->anC
open List renaming getElem?_eq_some_iff->ww,getElem?_append_left->AC,getElem?_append_right->Do,getElem?_eq_getElem->F0s,getElem?_take_of_lt->If,getElem?_set->IR,length_cons->af2,append_assoc->af4,append_nil->af5,length_map->af6,map_cons->af7,replicate->aff,length_take->afg,map_take->afh,take_of_length_le->afi,all_eq_true->afj,drop_zero->afk,getElem?_cons_succ->afm,map_append->afo,mem_of_getElem?->afK,getElem?_eq_none_iff->afR,map_drop->afS,mem_cons_self->afU,mem_singleton->afV,length_eq_zero_iff->aga,mem_append_right->agc,mem_cons_of_mem->agj,mem_append_left->agr,getElem_of_mem->agt,length_append->agH,getElem?_cons_zero->agM,cons_append->agS,nodup_cons->aig,take_succ_cons->akt,all_cons->aku,cons_beq_cons->am1,range->am8,map_set->am9,ext_getElem?->amW,map_nil->amY,flatMap_cons->an0,mem_map->an1,any_eq_true->an9,length_drop->anp,mem_flatMap->anq,all_append->anr,mem_append->ans,any_cons->anu,all_map->anw,length->anx
open Option.some renaming injEq->EQ,inj->afE
open Int renaming eq_ofNat_of_zero_le->acl,ofNat->afF,le_trans->agx
open Prod.mk renaming injEq->adc
open Option renaming map_eq_some_iff->afc,isSome_iff_exists->agJ,getD_none->agO,getD_some->an4,some->anz,none->anA
open Go.World renaming cells?_some->an2
open Decidable renaming decide->anD
/- The types of arguments and results, as cells. -/
namespace Go.Vm
theorem pf {r q:List PT} {l:List (RT r)} {m:List (RT q)} (h:sA r q l=anz m): ∃e:r=q,m=e▸l:=by
 unfold sA at h;split at h
 · rename_i hs
   injection h with h;exact ⟨vn hs,h.symm⟩
 cases h
theorem BC {r q:List PT} {l:List (RT r)} {m:List (RT q)} (h:sA r q l=anz m):r=q/\m.map (RT.pv q)=l.map (RT.pv r)/\anx m=(anx l):=by
 obtain ⟨rfl,rfl⟩:=pf h;exact ⟨rfl,rfl,rfl⟩
theorem eF {x:SV} {xs:List SV} {ps:List PV}:qZ (x::xs)=anz ps↔ ∃p qs,ps=p::qs/\sC x=anz p/\qZ xs=anz qs:=by
 simp only [qZ];constructor
 · intro h
   split at h
   · rename_i y ys h1 h2
     injection h with h;exact ⟨y,ys,h.symm,h1,h2⟩
   cases h
 rintro ⟨p,qs,rfl,h1,h2⟩
 rw [h1,h2]
theorem AF: ∀{xs ys:List SV} {p q:List PV},qZ xs=anz p->qZ ys=anz q->qZ (xs++ys)=anz (p++q)
 | [],ys,p,q,h,k=>by simp only [qZ,EQ] at h;subst h;exact k
 |x::xs,ys,p,q,h,k=>by
  obtain ⟨a,as,rfl,h1,h2⟩:=eF.1 h;exact eF.2 ⟨a,as++q,rfl,h1,AF h2 k⟩
theorem PT.pS: ∀{p:PT} {v:SV} {a:p.T},p.of v=anz a->v=p.sv a
 | .i k,.int l n,a,h=>by
  simp only [PT.of] at h;cases hk:fA l k with
  |false=>rw [hk] at h;cases h
  |true=>
   rw [hk] at h;injection h with h;subst h;rw [fj.1 hk];rfl
 | .b,.bool x,a,h=>by injection h with h;subst h;rfl
 | .i k,.bool _,a,h=>by cases h
 | .b,.int _ _,a,h=>by cases h
 | .i _,.iS,a,h| .i _,.undef,a,h| .i _,.jB,a,h| .i _,.dR,a,h| .i _,.str _,a,h| .i _,.agg _,a,h| .i _,.cq _,a,h| .i _,.sl _ _,a,h| .i _,.nil _ _,a,h| .i _,.own _ _,a,h| .i _,.pre _ _ _ _,a,h| .i _,.part _ _ _ _ _,a,h| .i _,.pa _ _ _ _ _,a,h| .i _,.pb _ _ _,a,h| .i _,.bp _ _ _,a,h| .i _,.bH _ _,a,h| .i _,.eI _ _ _,a,h| .i _,.mp _,a,h=>by cases h
 | .b,.iS,a,h| .b,.undef,a,h| .b,.jB,a,h| .b,.dR,a,h| .b,.str _,a,h| .b,.agg _,a,h| .b,.cq _,a,h| .b,.sl _ _,a,h| .b,.nil _ _,a,h| .b,.own _ _,a,h| .b,.pre _ _ _ _,a,h| .b,.part _ _ _ _ _,a,h| .b,.pa _ _ _ _ _,a,h| .b,.pb _ _ _,a,h| .b,.bp _ _ _,a,h| .b,.bH _ _,a,h| .b,.eI _ _ _,a,h| .b,.mp _,a,h=>by cases h
theorem RT.pS: ∀{r:List PT} {vs:List SV} {a:RT r},RT.of r vs=anz a->vs=RT.sv r a
 | [],[],a,_=>rfl
 | [p],[v],a,h=>by
  have:=PT.pS (p:=p) h
  rw [this];rfl
 |p::q::r,v::vs,a,h=>by
  simp only [RT.of] at h;split at h
  · rename_i x y h1 h2
    injection h with h;subst h;rw [PT.pS h1,RT.pS h2];rfl
  cases h
 | [],_::_,a,h=>by simp [RT.of] at h
 | [p],[],a,h=>by simp [RT.of] at h
 | [p],_::_::_,a,h=>by simp [RT.of] at h
 |_::_::_,[],a,h=>by simp [RT.of] at h
theorem PT.HW (p:PT) (a:p.T):sC (p.sv a)=anz (p.pv a):=by cases p<;>rfl
theorem RT.HW: ∀(r:List PT) (a:RT r),qZ (RT.sv r a)=anz (RT.pv r a)
 | [],_=>rfl
 | [p],a=>eF.2 ⟨_,_,rfl,PT.HW p a,rfl⟩
 |p::q::r,a=>eF.2 ⟨_,_,rfl,PT.HW p a.1,RT.HW (q::r) a.2⟩
theorem RT.vV: ∀(r:List PT) (a:RT r),(RT.pv r a).length=anx r
 | [],_=>rfl
 | [p],a=>rfl
 |p::q::r,a=>by simp [RT.pv,RT.vV (q::r) a.2]
theorem RT.Jr: ∀(r:List PT) (a:RT r),(RT.sv r a).length=anx r
 | [],_=>rfl
 | [p],a=>rfl
 |p::q::r,a=>by simp [RT.sv,RT.Jr (q::r) a.2]
theorem HX: ∀(n:Nat) {vs:List SV} {ps:List PV},qZ vs=anz ps-> ∃p q,ps=p++q/\qZ (vs.take n)=anz p/\qZ (vs.drop n)=anz q
 |0,vs,ps,h=>⟨[],ps,rfl,by simp [qZ],by simpa using h⟩
 |n+1,[],ps,h=>⟨[],ps,rfl,by simp [qZ],by simpa using h⟩
 |n+1,v::vs,ps,h=>by
  obtain ⟨p,qs,rfl,h1,h2⟩:=eF.1 h;obtain ⟨a,b,rfl,h3,h4⟩:=HX n h2;exact ⟨p::a,b,rfl,by rw [akt];exact eF.2 ⟨p,a,rfl,h1,h3⟩,by simpa using h4⟩
def cA.int (k:IntKind):cA Int where
 enc n:=[.int k n]
 dec vs:=match vs with
  | .int l n::r=>bif fA l k then anz (n,r) else anA
  |_=>anA
 law:=fun {vs a rest ps} h hp=>by
  split at h
  · rename_i l n r
    cases hk:fA l k with
    |false=>rw [hk] at h;cases h
    |true=>
     rw [hk] at h;simp only [lw,EQ,adc] at h;obtain ⟨rfl,rfl⟩:=h;obtain ⟨p,qs,rfl,h1,h2⟩:=eF.1 hp;rw [fj.1 hk] at h1;exact ⟨[p],qs,rfl,eF.2 ⟨p,[],rfl,h1,rfl⟩,h2⟩
  cases h
def cA.bool:cA Bool where
 enc n:=[.bool n]
 dec vs:=match vs with
  | .bool n::r=>anz (n,r)
  |_=>anA
 law:=fun {vs a rest ps} h hp=>by
  split at h
  · simp only [EQ,adc] at h
    obtain ⟨rfl,rfl⟩:=h;obtain ⟨p,qs,rfl,h1,h2⟩:=eF.1 hp;exact ⟨[p],qs,rfl,eF.2 ⟨p,[],rfl,h1,rfl⟩,h2⟩
  cases h
def Qh (r:List PT):SV->Option (List (RT r))
 | .sl q l=>sA q r l
 | .nil e c=>bif NE e (anx r)&&!c then anz [] else anA
 |_=>anA
theorem HY {r:List PT} {v:SV} {l:List (RT r)} {p:PV} (h:Qh r v=anz l) (hp:sC v=anz p):sC (.sl r l)=anz p:=by
 cases v with
 |sl q m=>
  obtain ⟨rfl,h2,_⟩:=BC h;rw [<- hp];simp only [sC,h2]
 |nil e c=>
  simp only [Qh] at h;cases hc:(NE e (anx r)&&!c) with
  |false=>rw [hc] at h;cases h
  |true=>
   rw [hc] at h;injection h with h;subst h;simp only [v6,agG,ae9] at hc;obtain ⟨rfl,rfl⟩:=hc;rw [<- hp];rfl
 |_=>cases h
def cA.sl (r:List PT):cA (List (RT r)) where
 enc l:=[.sl r l]
 dec vs:=match vs with
  |v::rest=>match Qh r v with
   |some l=>anz (l,rest)
   |none=>anA
  | []=>anA
 law:=fun {vs a rest ps} h hp=>by
  split at h
  · split at h
    · rename_i v r' x l hl
      simp only [EQ,adc] at h;obtain ⟨rfl,rfl⟩:=h;obtain ⟨p,qs,rfl,h1,h2⟩:=eF.1 hp;exact ⟨[p],qs,rfl,eF.2 ⟨p,[],rfl,HY hl h1,rfl⟩,h2⟩
    cases h
  cases h
def cA.row (r:List PT):cA (RT r) where
 enc:=RT.sv r
 dec vs:=match RT.of r (vs.take (anx r)) with
  |some a=>anz (a,vs.drop (anx r))
  |none=>anA
 law:=fun {vs a rest ps} h hp=>by
  split at h
  · rename_i x hx
    simp only [EQ,adc] at h;obtain ⟨rfl,rfl⟩:=h;obtain ⟨p,q,rfl,h1,h2⟩:=HX (anx r) hp;rw [RT.pS hx] at h1;exact ⟨p,q,rfl,h1,h2⟩
  cases h
def cA.prod {α β:Type} (A:cA α) (B:cA β):cA (α×β) where
 enc p:=A.enc p.1++B.enc p.2
 dec vs:=match A.dec vs with
  |some p=>match B.dec p.2 with
   |some q=>anz ((p.1,q.1),q.2)
   |none=>anA
  |none=>anA
 law:=fun {vs a rest ps} h hp=>by
  split at h
  · rename_i p hA
    split at h
    · rename_i q hB
      simp only [EQ,adc] at h;obtain ⟨rfl,rfl⟩:=h;obtain ⟨p1,p2,rfl,h1,h2⟩:=A.law (a:=p.1) (rest:=p.2) hA hp;obtain ⟨q1,q2,rfl,h3,h4⟩:=B.law (a:=q.1) (rest:=q.2) hB h2;exact ⟨p1++q1,q2,by simp,AF h1 h3,h4⟩
    cases h
  cases h
def cA.iso {α β:Type} (A:cA α) (f:α->β) (g:β->α) (h: ∀a,g (f a)=a):cA β where
 enc b:=A.enc (g b)
 dec vs:=match A.dec vs with
  |some p=>anz (f p.1,p.2)
  |none=>anA
 law:=fun {vs a rest ps} hd hp=>by
  split at hd
  · rename_i p hA
    simp only [EQ,adc] at hd;obtain ⟨rfl,rfl⟩:=hd;rw [h];exact A.law hA hp
  cases hd
def Arg.int (k:IntKind):Arg Int where
 enc n:= .int k n
 dec v:=match v with
  | .int l n=>bif fA l k then anz n else anA
  |_=>anA
 law:=fun {v a p} h hp=>by
  split at h
  · rename_i l n
    cases hk:fA l k with
    |false=>rw [hk] at h;cases h
    |true=>rw [hk] at h;injection h with h;subst h;rw [fj.1 hk] at hp;exact hp
  cases h
def Arg.bool:Arg Bool where
 enc n:= .bool n
 dec v:=match v with
  | .bool n=>anz n
  |_=>anA
 law:=fun {v a p} h hp=>by
  split at h
  · injection h with h;subst h;exact hp
  cases h
def Arg.sl (r:List PT):Arg (List (RT r)) where
 enc l:= .sl r l
 dec:=Qh r
 law:=HY
def Arg.agg {α:Type} (A:cA α):Arg α where
 enc a:= .agg (A.enc a)
 dec v:=match v with
  | .agg cs=>match A.dec cs with
   |some p=>match p.2 with
    | []=>anz p.1
    |_=>anA
   |none=>anA
  |_=>anA
 law:=fun {v a p} h hp=>by
  split at h
  · rename_i cs
    split at h
    · rename_i q hA
      obtain ⟨x,rest⟩:=q;dsimp only at h;cases rest with
      |cons _ _=>cases h
      |nil=>
       injection h with h;subst h;simp only [sC] at hp;cases hc:qZ cs with
       |none=>rw [hc] at hp;cases hp
       |some l=>
        rw [hc] at hp;injection hp with hp;subst hp;obtain ⟨p1,p2,rfl,h1,h2⟩:=A.law hA hc;simp only [qZ,EQ] at h2;subst h2;simp only [sC,h1,af5]
    cases h
  cases h
def Arg.ref {α:Type} (A:cA α):Arg α where
 enc a:= .bH (A.enc a) 0
 dec v:=match v with
  | .bH cs 0=>match A.dec cs with
   |some p=>match p.2 with
    | []=>anz p.1
    |_=>anA
   |none=>anA
  |_=>anA
 law:=fun {v a p} h hp=>by
  split at h
  · rename_i cs
    split at h
    · rename_i q hA
      obtain ⟨x,rest⟩:=q;dsimp only at h;cases rest with
      |cons _ _=>cases h
      |nil=>
       injection h with h;subst h;simp only [sC] at hp;cases hc:qZ cs with
       |none=>rw [hc] at hp;cases hp
       |some l=>
        rw [hc] at hp;injection hp with hp;subst hp;obtain ⟨p1,p2,rfl,h1,h2⟩:=A.law hA hc;simp only [qZ,EQ] at h2;subst h2;simp only [sC,h1,af5]
    cases h
  cases h
def ax.nil:ax Unit where
 enc _:=[]
 dec vs:=match vs with
  | []=>anz ()
  |_=>anA
 law:=fun {vs a ps} h hp=>by
  split at h
  · exact hp
  cases h
def ax.one {α:Type} (A:Arg α):ax α where
 enc a:=[A.enc a]
 dec vs:=match vs with
  | [v]=>A.dec v
  |_=>anA
 law:=fun {vs a ps} h hp=>by
  split at h
  · obtain ⟨p,qs,rfl,h1,h2⟩:=eF.1 hp
    exact eF.2 ⟨p,qs,rfl,A.law h h1,h2⟩
  cases h
def ax.cons {α β:Type} (A:Arg α) (B:ax β):ax (α×β) where
 enc a:=A.enc a.1::B.enc a.2
 dec vs:=match vs with
  |v::r=>match A.dec v with
   |some x=>match B.dec r with
    |some y=>anz (x,y)
    |none=>anA
   |none=>anA
  | []=>anA
 law:=fun {vs a ps} h hp=>by
  split at h
  · split at h
    · rename_i x hx
      split at h
      · rename_i y hy
        injection h with h;subst h;obtain ⟨p,qs,rfl,h1,h2⟩:=eF.1 hp;exact eF.2 ⟨p,qs,rfl,A.law hx h1,B.law hy h2⟩
      cases h
    cases h
  cases h
def Arg.cq {α:Type} (A:ax α):Arg α where
 enc a:= .cq (A.enc a)
 dec v:=match v with
  | .cq vs=>A.dec vs
  |_=>anA
 law:=fun {v a p} h hp=>by
  split at h
  · rename_i vs
    simp only [sC] at hp;cases hc:qZ vs with
    |none=>rw [hc] at hp;cases hp
    |some l=>
     rw [hc] at hp;injection hp with hp;subst hp;simp only [sC,A.law h hc]
  cases h
def Arg.eI {α:Type} (f:FuncId) (A:ax α):Arg α where
 enc a:= .eI f [] (A.enc a)
 dec v:=match v with
  | .eI g [] b=>bif NE g f then A.dec b else anA
  |_=>anA
 law:=fun {v a p} h hp=>by
  split at h
  · rename_i g b
    cases hg:NE g f with
    |false=>rw [hg] at h;cases h
    |true=>
     rw [hg] at h
     have:=ut hg
     subst this;simp only [sC,qZ] at hp ⊢;cases hc:qZ b with
     |none=>rw [hc] at hp;cases hp
     |some l=>
      rw [hc] at hp;rw [A.law h hc];exact hp
  cases h
def bz.clone (r:List PT):bz:=⟨.one (.sl r),.sl r,bP,.own,anC⟩
def pg (a b c:Int):Option (Int×Int):=bif anD (0<=a)&&anD (0<=b)&&anD (0<=c)&&anD (c<=1) then anz ((a+b+c)%18446744073709551616,(a+b+c) / 18446744073709551616) else anA
def bz.Ly:bz:=⟨.cons (.int .u64) (.cons (.int .u64) (.one (.int .u64))),.cq (.cons (.int .u64) (.one (.int .u64))),fun a=>pg a.1 a.2.1 a.2.2,.pure,anC⟩
def Lz:List (Nat×bz)->FuncId->List bz
 | [],_=>[]
 |(g,c)::r,f=>bif NE g f then c::Lz r f else Lz r f
def LA:List (Nat×dN)->FuncId->List dN
 | [],_=>[]
 |(g,c)::r,f=>bif NE g f then c::LA r f else LA r f
def Js:List (Nat×Cd)->FuncId->Option Cd
 | [],_=>anA
 |(g,c)::r,f=>bif NE g f then anz c else Js r f
def iT (lp:Option Nat) (c:List (Nat×bz)) (p:List (Nat×dN)) (x:List (Nat×Cd)) (rk:List (Nat×List PT)):Ctx:=⟨lp,Lz c,LA p,Js x,rk⟩
end Go.Vm
/- What a typed value says of a value of the logical machine. -/
namespace Go.Vm
def OwnAt (s:List SB) (t e n:Nat):Prop:=(∃r l,s[t]? =anz (.arr r l)/\e=anx r/\n=anx l)\/s[t]? =anz .dead
def zT (s:List SB) (t e:Nat):Prop:=(∃r l,s[t]? =anz (.arr r l)/\e=anx r)\/s[t]? =anz .dead\/(∃cs,s[t]? =anz (.box cs)/\e=1)
def UC (s:List SB) (t:Nat) (r:List PT) (i:Int) (a:RT r):Prop:=(∃l,s[t]? =anz (.arr r l)/\aI l i=anz a)\/s[t]? =anz .dead
def agT (s:List SB) (t:Nat) (i:Int):Prop:=(∃r l,s[t]? =anz (.arr r l)/\(aI l i).isSome=anB)\/s[t]? =anz .dead
mutual
def R (s:List SB):SV->PV->Prop
 | .iS,_=>True
 | .undef,v=>v= .undef
 | .jB,v=>v= .jB
 | .dR,v=>v= .dR
 | .int k n,v=>v= .int k n
 | .bool b,v=>v= .bool b
 | .str x,v=>v= .str x
 | .agg cs,v=> ∃ps,v= .agg ps/\RL s cs ps
 | .cq cs,v=> ∃ps,v= .cq ps/\RL s cs ps
 | .sl r l,v=>v= .sl (anx r) anC (l.map (RT.pv r))
 | .nil e c,v=>v= .sl e c []
 | .own t ex,v=> ∃e n,v= .own t e 0 n n ex/\OwnAt s t e n
 | .pre t len cap ex,v=> ∃e,v= .own t e 0 len cap ex/\zT s t e
 | .part t off len cap ex,v=> ∃e,v= .own t e off len cap ex/\zT s t e
 | .pa t r i a off,v=>v= .ptr t (anx r) i.toNat off/\UC s t r i a
 | .pb t i off,v=> ∃e,v= .ptr t e i.toNat off/\agT s t i
 | .bp t n off,v=>v= .ptr t n 0 off
 | .bH cs off,v=> ∃ps,v= .bH ps off/\RL s cs ps
 | .eI f a b,v=> ∃pa pb,v= .eI f pa pb/\RL s a pa/\RL s b pb
 | .mp t,v=>v= .mp t
def RL (s:List SB):List SV->List PV->Prop
 | [],ps=>ps=[]
 |x::xs,ps=> ∃p q,ps=p::q/\R s x p/\RL s xs q
end
def tc:List Int->PV
 | [a]=> .int .i64 a
 |l=> .agg (l.map (.int .i64))
def BD (k:List Int):PV×PV:=(tc k,.bool anB)
def D4 (p:PT) (a:RT [.i .i64,p]):PV×PV:=(.int .i64 a.1,p.pv a.2)
def RB (s:List SB):SB->jX->Prop
 | .arr r l,b=>b= .arr (anx r) (l.map (RT.pv r))
 | .box cs,b=> ∃ps,b= .box ps/\RL s cs ps
 | .set l,b=>b= .map (l.map BD)
 | .aO p l,b=>b= .map (l.map (D4 p))
 | .dead,b=>b= .dead
structure cJ (s:List SB) (p:cH):Prop where
 len:(anx p)=anx s
 at_: ∀(t:Nat) (b:SB),s[t]? =anz b-> ∃q,p[t]? =anz q/\RB s b q
def dU (s:List SB):SE->Env->Prop
 | [],e=>e=[]
 |(t,v)::r,e=> ∃p q,e=(t,p)::q/\R s v p/\dU s r q
structure zU (st:qB) (p:St):Prop where
 env:dU st.aE st.env p.env
 aE:cJ st.aE p.aE
 fz:p.fz=st.fz
 kn:p.kn=st.kn
theorem mz: ∀(s l:List SB),apS s l=s++l
 | [],_=>rfl
 |b::r,l=>by simp [apS,mz r l]
theorem BE: ∀(s:List SB) (t:Nat) (b:SB),Ux s t b=s.set t b
 | [],_,_=>by simp [Ux]
 |_::_,0,_=>rfl
 |x::r,n+1,b=>by simp [Ux,BE r n b]
theorem RL.nil {s:List SB}:RL s [] []:=rfl
theorem RL.cons {s:List SB} {x:SV} {xs:List SV} {p:PV} {q:List PV} (h:R s x p) (k:RL s xs q):RL s (x::xs) (p::q):=⟨p,q,rfl,h,k⟩
theorem RL.cons_inv {s:List SB} {x:SV} {xs:List SV} {ps:List PV} (h:RL s (x::xs) ps): ∃p q,ps=p::q/\R s x p/\RL s xs q:=h
theorem RL.mY {s:List SB}: ∀{xs:List SV} {ps:List PV},RL s xs ps->anx ps=anx xs
 | [],ps,h=>by rw [show ps=[] from h];rfl
 |x::xs,ps,h=>by
  obtain ⟨p,q,rfl,_,h2⟩:=h.cons_inv;simp [h2.mY]
theorem RL.append {s:List SB}: ∀{xs:List SV} {ps:List PV},RL s xs ps-> ∀{ys:List SV} {qs:List PV},RL s ys qs->RL s (xs++ys) (ps++qs)
 | [],ps,h,_,_,k=>by rw [show ps=[] from h];exact k
 |x::xs,ps,h,_,_,k=>by
  obtain ⟨p,q,rfl,h1,h2⟩:=h.cons_inv;exact RL.cons h1 (h2.append k)
theorem RL.take {s:List SB}: ∀{xs:List SV} {ps:List PV},RL s xs ps-> ∀n,RL s (xs.take n) (ps.take n)
 | [],ps,h,n=>by rw [show ps=[] from h];simp;exact RL.nil
 |x::xs,ps,h,0=>by simp;exact RL.nil
 |x::xs,ps,h,n+1=>by
  obtain ⟨p,q,rfl,h1,h2⟩:=h.cons_inv;exact RL.cons h1 (h2.take n)
theorem RL.drop {s:List SB}: ∀{xs:List SV} {ps:List PV},RL s xs ps-> ∀n,RL s (xs.drop n) (ps.drop n)
 | [],ps,h,n=>by rw [show ps=[] from h];simp;exact RL.nil
 |x::xs,ps,h,0=>h
 |x::xs,ps,h,n+1=>by
  obtain ⟨p,q,rfl,h1,h2⟩:=h.cons_inv;exact h2.drop n
theorem RL.nth {s:List SB}: ∀{xs:List SV} {ps:List PV},RL s xs ps-> ∀{n:Nat} {v:SV},Vm.nth xs n=anz v-> ∃p,ps[n]? =anz p/\R s v p
 | [],_,_,_,_,e=>by cases e
 |x::xs,ps,h,0,v,e=>by
  obtain ⟨p,q,rfl,h1,_⟩:=h.cons_inv;injection e with e;subst e;exact ⟨p,rfl,h1⟩
 |x::xs,ps,h,n+1,v,e=>by
  obtain ⟨p,q,rfl,_,h2⟩:=h.cons_inv;obtain ⟨p',h3,h4⟩:=h2.nth (n:=n) e;exact ⟨p',by simpa using h3,h4⟩
mutual
theorem Ov (s:List SB): ∀v:PV,R s (XC v) v
 | .undef=>rfl
 | .jB=>rfl
 | .dR=>rfl
 | .int _ _=>rfl
 | .bool _=>rfl
 | .str _=>rfl
 | .agg cs=>⟨cs,rfl,vW s cs⟩
 | .cq cs=>⟨cs,rfl,vW s cs⟩
 | .sl e c rows=>by
  cases rows with
  |nil=>exact rfl
  |cons _ _=>trivial
 | .eI f a b=>⟨a,b,rfl,vW s a,vW s b⟩
 | .own .. =>trivial
 | .ptr .. =>trivial
 | .bH .. =>trivial
 | .mp _=>trivial
theorem vW (s:List SB): ∀l:List PV,RL s (Bv l) l
 | []=>rfl
 |x::xs=>RL.cons (Ov s x) (vW s xs)
end
theorem dU.lk {s:List SB}: ∀{e:SE} {p:Env},dU s e p-> ∀t,R s (G9 t e) (Vm.lk t p)
 | [],p,h,t=>by rw [show p=[] from h];rfl
 |(u,v)::r,p,h,t=>by
  obtain ⟨q,qs,rfl,h1,h2⟩:=h;simp only [G9,Vm.lk];cases hb:NE u t with
  |true=>exact h1
  |false=>exact dU.lk h2 t
theorem dU.AA {s:List SB}: ∀{e:SE} {p:Env},dU s e p-> ∀{t:Nat} {v:SV},R s v (Vm.lk t p)->dU s (Vm.AA t v e) p
 | [],p,h,t,v,_=>h
 |(u,x)::r,p,h,t,v,hv=>by
  obtain ⟨q,qs,rfl,h1,h2⟩:=h;simp only [Vm.AA];simp only [Vm.lk] at hv;cases hb:NE u t with
  |true=>rw [hb] at hv;exact ⟨q,qs,rfl,hv,h2⟩
  |false=>rw [hb] at hv;exact ⟨q,qs,rfl,h1,dU.AA h2 hv⟩
theorem dJ {s:List SB} {e:SE} {p:Env} (h:dU s e p): ∀x:fE,R s (bW e x) (x.ev p)
 | .t n=>h.lk n
 | .c v=>Ov s v
theorem y7 {s:List SB} {e:SE} {p:Env} (h:dU s e p): ∀l:List fE,RL s (jG e l) (EE p l)
 | []=>rfl
 |x::xs=>RL.cons (dJ h x) (y7 h xs)
def Fr (bad:List Nat) (s s':List SB):Prop:= ∀(t:Nat) (b:SB),s[t]? =anz b->match b with
 | .arr r l=>(∃l',s'[t]? =anz (.arr r l')/\anx l'=anx l/\(has bad t=anC->l'=l))\/s'[t]? =anz .dead
 | .dead=>s'[t]? =anz .dead
 | .box _=>(∃cs,s'[t]? =anz (.box cs))\/s'[t]? =anz .dead
 |_=>True
theorem Fr.refl (bad:List Nat) (s:List SB):Fr bad s s:=fun t b h=>by
 cases b with
 |arr r l=>exact .inl ⟨l,h,rfl,fun _=>rfl⟩
 |dead=>exact h
 |box cs=>exact .inl ⟨cs,h⟩
 |_=>trivial
theorem Fr.app (bad:List Nat) (s l:List SB):Fr bad s (s++l):=fun t b h=>by
 have h':(s++l)[t]? =anz b:=by
  have:=(ww.1 h).1
  rw [AC this];exact h
 cases b with
 |arr r l=>exact .inl ⟨l,h',rfl,fun _=>rfl⟩
 |dead=>exact h'
 |box cs=>exact .inl ⟨cs,h'⟩
 |_=>trivial
theorem Fr.trans {bad:List Nat} {a b c:List SB} (h:Fr bad a b) (k:Fr bad b c):Fr bad a c:=fun t x hx=>by
 have h1:=h t x hx;cases x with
 |arr r l=>
  rcases h1 with ⟨l',h2,h3,h4⟩|h2
  · have k1:=k t _ h2
    rcases k1 with ⟨l2,k2,k3,k4⟩|k2
    · exact .inl ⟨l2,k2,k3.trans h3,fun hb=>(k4 hb).trans (h4 hb)⟩
    exact .inr k2
  exact .inr (k t _ h2)
 |dead=>exact k t _ h1
 |box cs=>
  rcases h1 with ⟨c2,h2⟩|h2
  · exact k t _ h2
  exact .inr (k t _ h2)
 |_=>trivial
theorem Dz {α:Type} {l m:List α} {i:Int} (h:(aI l i).isSome=anB) (hl:(anx m)=anx l):(aI m i).isSome=anB:=by
 cases i with
 |ofNat n=>
  simp only [aI] at h ⊢;rw [agJ] at h;obtain ⟨a,ha⟩:=h
  have:=(ww.1 ha).1
  rw [F0s (by omega)];rfl
 |negSucc n=>simp [aI] at h
mutual
theorem R.fr {bad:List Nat} {s s':List SB} (hf:Fr bad s s'): ∀{v:SV} {p:PV},R s v p->R s' (WY bad v) p
 | .iS,_,_=>trivial
 | .undef,_,h=>h
 | .jB,_,h=>h
 | .dR,_,h=>h
 | .int _ _,_,h=>h
 | .bool _,_,h=>h
 | .str _,_,h=>h
 | .agg cs,_,h=>by obtain ⟨ps,rfl,h⟩:=h;exact ⟨ps,rfl,RL.fr hf h⟩
 | .cq cs,_,h=>by obtain ⟨ps,rfl,h⟩:=h;exact ⟨ps,rfl,RL.fr hf h⟩
 | .sl _ _,_,h=>h
 | .nil _ _,_,h=>h
 | .own t ex,_,h=>by
  obtain ⟨e,n,rfl,h⟩:=h;refine ⟨e,n,rfl,?_⟩;rcases h with ⟨r,l,h1,h2,h3⟩|h1
  · rcases hf t _ h1 with ⟨l',k1,k2,_⟩|k1
    · exact .inl ⟨r,l',k1,h2,by rw [h3,k2]⟩
    exact .inr k1
  exact .inr (hf t _ h1)
 | .pre t len cap ex,_,h=>by
  obtain ⟨e,rfl,h⟩:=h;refine ⟨e,rfl,?_⟩;rcases h with ⟨r,l,h1,h2⟩|h1|⟨cs,h1,h2⟩
  · rcases hf t _ h1 with ⟨l',k1,_,_⟩|k1
    · exact .inl ⟨r,l',k1,h2⟩
    exact .inr (.inl k1)
  · exact .inr (.inl (hf t _ h1))
  rcases hf t _ h1 with ⟨c2,k1⟩|k1
  · exact .inr (.inr ⟨c2,k1,h2⟩)
  exact .inr (.inl k1)
 | .part t off len cap ex,_,h=>by
  obtain ⟨e,rfl,h⟩:=h;refine ⟨e,rfl,?_⟩;rcases h with ⟨r,l,h1,h2⟩|h1|⟨cs,h1,h2⟩
  · rcases hf t _ h1 with ⟨l',k1,_,_⟩|k1
    · exact .inl ⟨r,l',k1,h2⟩
    exact .inr (.inl k1)
  · exact .inr (.inl (hf t _ h1))
  rcases hf t _ h1 with ⟨c2,k1⟩|k1
  · exact .inr (.inr ⟨c2,k1,h2⟩)
  exact .inr (.inl k1)
 | .pa t r i a off,_,h=>by
  obtain ⟨rfl,h⟩:=h;simp only [WY];cases hb:has bad t with
  |true=>
   refine ⟨_,rfl,?_⟩;rcases h with ⟨l,h1,h2⟩|h1
   · rcases hf t _ h1 with ⟨l',k1,k2,_⟩|k1
     · exact .inl ⟨r,l',k1,Dz (by rw [h2];rfl) k2⟩
     exact .inr k1
   exact .inr (hf t _ h1)
  |false=>
   refine ⟨rfl,?_⟩;rcases h with ⟨l,h1,h2⟩|h1
   · rcases hf t _ h1 with ⟨l',k1,_,k3⟩|k1
     · exact .inl ⟨l',k1,by rw [k3 hb];exact h2⟩
     exact .inr k1
   exact .inr (hf t _ h1)
 | .pb t i off,_,h=>by
  obtain ⟨e,rfl,h⟩:=h;refine ⟨e,rfl,?_⟩;rcases h with ⟨r,l,h1,h2⟩|h1
  · rcases hf t _ h1 with ⟨l',k1,k2,_⟩|k1
    · exact .inl ⟨r,l',k1,Dz h2 k2⟩
    exact .inr k1
  exact .inr (hf t _ h1)
 | .bp _ _ _,_,h=>h
 | .bH cs off,_,h=>by obtain ⟨ps,rfl,h⟩:=h;exact ⟨ps,rfl,RL.fr hf h⟩
 | .eI f a b,_,h=>by obtain ⟨pa,pb,rfl,h1,h2⟩:=h;exact ⟨pa,pb,rfl,RL.fr hf h1,RL.fr hf h2⟩
 | .mp _,_,h=>h
theorem RL.fr {bad:List Nat} {s s':List SB} (hf:Fr bad s s'): ∀{v:List SV} {p:List PV},RL s v p->RL s' (Uw bad v) p
 | [],_,h=>h
 |x::xs,_,h=>by
  obtain ⟨p,q,rfl,h1,h2⟩:=h.cons_inv;exact RL.cons (R.fr hf h1) (RL.fr hf h2)
end
mutual
theorem Qi: ∀v:SV,WY [] v=v
 | .iS| .undef| .jB| .dR| .int _ _| .bool _| .str _| .sl _ _| .nil _ _| .own _ _| .pre _ _ _ _| .part _ _ _ _ _| .pb _ _ _| .bp _ _ _| .mp _=>rfl
 | .agg cs=>by simp only [WY,tz cs]
 | .cq cs=>by simp only [WY,tz cs]
 | .bH cs _=>by simp only [WY,tz cs]
 | .eI _ a b=>by simp only [WY,tz a,tz b]
 | .pa t r i a off=>by simp [WY,has]
theorem tz: ∀v:List SV,Uw [] v=v
 | []=>rfl
 |x::xs=>by simp only [Uw,Qi x,tz xs]
end
theorem R.ext {s s':List SB} (hf:Fr [] s s') {v:SV} {p:PV} (h:R s v p):R s' v p:=by
 have:=R.fr hf h
 rwa [Qi] at this
theorem RL.ext {s s':List SB} (hf:Fr [] s s') {v:List SV} {p:List PV} (h:RL s v p):RL s' v p:=by
 have:=RL.fr hf h
 rwa [tz] at this
theorem RB.fr {bad:List Nat} {s s':List SB} (hf:Fr bad s s') {b:SB} {p:jX} (h:RB s b p):RB s' (XH bad b) p:=by
 cases b with
 |box cs=>obtain ⟨ps,rfl,h⟩:=h;exact ⟨ps,rfl,RL.fr hf h⟩
 |_=>exact h
theorem RB.ext {s s':List SB} (hf:Fr [] s s') {b:SB} {p:jX} (h:RB s b p):RB s' b p:=by
 cases b with
 |box cs=>obtain ⟨ps,rfl,h⟩:=h;exact ⟨ps,rfl,RL.ext hf h⟩
 |_=>exact h
theorem dU.fr {bad:List Nat} {s s':List SB} (hf:Fr bad s s'): ∀{e:SE} {p:Env},dU s e p->dU s' (dgE bad e) p
 | [],_,h=>h
 |(t,v)::r,_,h=>by
  obtain ⟨p,q,rfl,h1,h2⟩:=h;exact ⟨p,q,rfl,R.fr hf h1,dU.fr hf h2⟩
theorem dU.ext {s s':List SB} (hf:Fr [] s s'): ∀{e:SE} {p:Env},dU s e p->dU s' e p
 | [],_,h=>h
 |(t,v)::r,_,h=>by
  obtain ⟨p,q,rfl,h1,h2⟩:=h;exact ⟨p,q,rfl,R.ext hf h1,dU.ext hf h2⟩
theorem cJ.app {s:List SB} {p:cH} (h:cJ s p) {l:List SB} {q:cH} (hl:(anx q)=anx l) (hb: ∀(j:Nat) (b:SB),l[j]? =anz b-> ∃x,q[j]? =anz x/\RB (s++l) b x):cJ (s++l) (p++q) where
 len:=by simp [h.len,hl]
 at_:=fun t b ht=>by
  rcases afQ t (anx s) with dI|WR
  · rw [AC dI] at ht
    obtain ⟨x,h1,h2⟩:=h.at_ t b ht;exact ⟨x,by rw [AC (by rw [h.len];exact dI)];exact h1,h2.ext (Fr.app [] s l)⟩
  rw [Do WR] at ht
  obtain ⟨x,h1,h2⟩:=hb _ b ht;exact ⟨x,by rw [Do (by rw [h.len];exact WR),h.len];exact h1,h2⟩
theorem rL (ts:List Nat): ∀(s:List SB) (t:Nat),(Cm ts s)[t]? =(s[t]?).map (XH ts)
 | [],t=>by simp [Cm]
 |b::r,0=>by simp [Cm]
 |b::r,t+1=>by simp [Cm,rL ts r t]
theorem vX (ts:List Nat): ∀(s:List SB),(Cm ts s).length=anx s
 | []=>rfl
 |b::r=>by simp [Cm,vX ts r]
theorem Fr.dg {bad ts:List Nat} {s s':List SB} (h:Fr bad s s'):Fr bad s (Cm ts s'):=fun t b hb=>by
 have h1:=h t b hb;cases b with
 |arr r l=>
  rcases h1 with ⟨l',h2,h3,h4⟩|h2
  · exact .inl ⟨l',by rw [rL,h2];rfl,h3,h4⟩
  exact .inr (by rw [rL,h2];rfl)
 |dead=>show (Cm ts s')[t]? =_;rw [rL,h1];rfl
 |box cs=>
  rcases h1 with ⟨c2,h2⟩|h2
  · exact .inl ⟨Uw ts c2,by rw [rL,h2];rfl⟩
  exact .inr (by rw [rL,h2];rfl)
 |_=>trivial
theorem HZ {s:List SB}: ∀(r:List PT) (a:RT r),RL s (RT.sv r a) (RT.pv r a)
 | [],_=>rfl
 | [p],a=>by refine RL.cons ?_ RL.nil;cases p<;>rfl
 |p::q::r,a=>by refine RL.cons ?_ (HZ (q::r) a.2);cases p<;>rfl
theorem y8 {s:List SB}: ∀(r:List PT) (a:RT r) {ps:List PV},RL s (RT.sv r a) ps->ps=RT.pv r a
 | [],_,ps,h=>h
 | [p],a,ps,h=>by
  obtain ⟨x,q,rfl,h1,h2⟩:=h.cons_inv;have Sb:q=[]:=h2;subst Sb;cases p<;>(have NC:=h1;simp only [PT.sv,R] at NC;rw [NC];rfl)
 |p::q::r,a,ps,h=>by
  obtain ⟨x,qs,rfl,h1,h2⟩:=h.cons_inv;rw [y8 (q::r) a.2 h2];cases p<;>(have NC:=h1;simp only [PT.sv,R] at NC;rw [NC];rfl)
theorem RT.plain: ∀(r:List PT) (a:RT r),(RT.pv r a).all PV.plain=anB
 | [],_=>rfl
 | [p],a=>by cases p<;>rfl
 |p::q::r,a=>by
  have:=RT.plain (q::r) a.2
  cases p<;>(simp only [RT.pv,aku,this,agd];rfl)
theorem R.cells {s:List SB} {v:SV} {p:PV} (h:R s v p) (hj:v≠ .iS):RL s v.cells p.cells:=by
 cases v with
 |iS=>exact absurd rfl hj
 |agg cs=>obtain ⟨ps,rfl,h⟩:=h;exact h
 |undef=>rw [show p= .undef from h];exact RL.cons rfl RL.nil
 |jB=>rw [show p= .jB from h];exact RL.cons rfl RL.nil
 |dR=>rw [show p= .dR from h];exact RL.cons rfl RL.nil
 |int k n=>rw [show p= .int k n from h];exact RL.cons rfl RL.nil
 |bool b=>rw [show p= .bool b from h];exact RL.cons rfl RL.nil
 |str x=>rw [show p= .str x from h];exact RL.cons rfl RL.nil
 |sl r l=>rw [show p=_ from h];exact RL.cons rfl RL.nil
 |nil e c=>rw [show p=_ from h];exact RL.cons rfl RL.nil
 |bp t n o=>rw [show p=_ from h];exact RL.cons rfl RL.nil
 |mp t=>rw [show p=_ from h];exact RL.cons rfl RL.nil
 |cq cs=>obtain ⟨ps,rfl,h⟩:=h;exact RL.cons ⟨ps,rfl,h⟩ RL.nil
 |own t ex=>obtain ⟨e,n,rfl,h⟩:=h;exact RL.cons ⟨e,n,rfl,h⟩ RL.nil
 |pre t a b c=>obtain ⟨e,rfl,h⟩:=h;exact RL.cons ⟨e,rfl,h⟩ RL.nil
 |part t o a b c=>obtain ⟨e,rfl,h⟩:=h;exact RL.cons ⟨e,rfl,h⟩ RL.nil
 |pa t r i a o=>obtain ⟨rfl,h⟩:=h;exact RL.cons ⟨rfl,h⟩ RL.nil
 |pb t i o=>obtain ⟨e,rfl,h⟩:=h;exact RL.cons ⟨e,rfl,h⟩ RL.nil
 |bH cs o=>obtain ⟨ps,rfl,h⟩:=h;exact RL.cons ⟨ps,rfl,h⟩ RL.nil
 |eI f a b=>obtain ⟨pa,pb,rfl,h⟩:=h;exact RL.cons ⟨pa,pb,rfl,h⟩ RL.nil
theorem R.qj {s:List SB} {v:SV} {p:PV} (h:R s v p) (ho:v.qj=anB):p.qj=anB:=by
 cases v with
 |iS|undef|jB|agg _|cq _=>cases ho
 |dR|int _ _|bool _|str _|sl _ _|nil _ _|bp _ _ _|mp _=>rw [show p=_ from h];rfl
 |own t ex=>obtain ⟨e,n,rfl,h⟩:=h;rfl
 |pre t a b c=>obtain ⟨e,rfl,h⟩:=h;rfl
 |part t o a b c=>obtain ⟨e,rfl,h⟩:=h;rfl
 |pa t r i a o=>obtain ⟨rfl,h⟩:=h;rfl
 |pb t i o=>obtain ⟨e,rfl,h⟩:=h;rfl
 |bH cs o=>obtain ⟨ps,rfl,h⟩:=h;rfl
 |eI f a b=>obtain ⟨pa,pb,rfl,h⟩:=h;rfl
theorem RL.xX {s:List SB}: ∀{cs:List SV} {ps:List PV},RL s cs ps->Vm.xX cs=anB->ps.all PV.qj=anB
 | [],ps,h,_=>by rw [show ps=[] from h];rfl
 |x::xs,ps,h,ho=>by
  obtain ⟨p,q,rfl,h1,h2⟩:=h.cons_inv;simp only [Vm.xX,v6] at ho;simp only [aku,v6];exact ⟨h1.qj ho.1,h2.xX ho.2⟩
theorem R.stored {s:List SB} {v:SV} {p:PV} {w:List SV} (h:R s v p) (hs:v.stored=anz w): ∃q,p.stored=anz q/\RL s w q:=by
 unfold SV.stored at hs;cases ha:Vm.xX v.cells with
 |false=>rw [ha] at hs;cases hs
 |true=>
  rw [ha] at hs;injection hs with hs;subst hs;have hj:v≠ .iS:=by intro e;subst e;cases ha
  have hc:=h.cells hj;exact ⟨p.cells,by unfold PV.stored;rw [pp (hc.xX ha)],hc⟩
theorem R.ofRow {s:List SB} {v:SV} {p:PV} {r:List PT} {a:RT r} (h:R s v p) (hr:RT.of r v.cells=anz a):p.cI=anz (RT.pv r a)/\anx v.cells=(anx r):=by
 have hc:=RT.pS hr;have hl:(anx v.cells)=(anx r):=by rw [hc,RT.Jr]
 refine ⟨?_,hl⟩;have hj:v≠ .iS:=by
  intro e;subst e;cases r with
  |nil=>simp [SV.cells,RT.of] at hr
  |cons p q=>cases q with
   |nil=>cases p<;>simp [SV.cells,RT.of,PT.of] at hr
   |cons _ _=>simp only [SV.cells,RT.of] at hr;split at hr<;>cases hr<;>(rename_i x y h1 h2;simp at h2)
 have h1:=h.cells hj;rw [hc] at h1;have h2:=y8 r a h1;unfold PV.cI;rw [h2,pp (RT.plain r a)]
theorem tB {s:List SB} {agg:Option Nat} {off:Nat} {cs:List SV} {ps:List PV} {v:SV} (h:RL s cs ps) (hp:zP agg off cs=anz v): ∃p,part agg off ps=anz p/\R s v p:=by
 cases agg with
 |none=>
  obtain ⟨p,h1,h2⟩:=h.nth hp;exact ⟨p,h1,h2⟩
 |some n=>
  simp only [zP] at hp;cases hb:M2 (off+n) (anx cs) with
  |false=>rw [hb] at hp;cases hp
  |true=>
   rw [hb] at hp;injection hp with hp;subst hp
   have:off+n<=(anx ps):=by rw [h.mY];exact UV hb
   exact ⟨.agg ((ps.drop off).take n),by simp only [part,pp this],_,rfl,(h.drop off).take n⟩
theorem y9 {s:List SB} {off:Nat} {new old:List SV} {pn po:List PV} (h:RL s new pn) (k:RL s old po):RL s (pQ off new old) (nT off pn po):=by
 unfold pQ nT;rw [h.mY];exact ((k.take off).append h).append (k.drop _)
theorem Qj {s:List SB} {ps:cH} {v:SV} {p:PV} {r:List PT} {l:List (RT r)} (hs:cJ s ps) (h:R s v p) (hc:zQ s v=anz ⟨r,l⟩):
 rowsOf ps (anx r) p=anz (l.map (RT.pv r))/\iO p=vT v:=by
 cases v with
 |sl q m=>
  have Cx:(⟨q,m⟩:Rows)=⟨r,l⟩:=by injection hc
  cases Cx;rw [show p=_ from h];refine ⟨?_,rfl⟩;cases l with
  |nil=>rfl
  |cons a l=>simp [rowsOf]
 |own t ex=>
  simp only [zQ,cw] at hc;split at hc
  · rename_i q m ck
    have Cx:(⟨q,m⟩:Rows)=⟨r,l⟩:=by injection hc
    cases Cx;obtain ⟨e,n,rfl,db⟩:=h;rcases db with ⟨q',m',h1,rfl,rfl⟩|h1
    · rw [ck] at h1
      injection h1 with h1;cases h1;obtain ⟨b,h2,h3⟩:=hs.at_ t _ ck;rw [show b=_ from h3] at h2;refine ⟨?_,rfl⟩;simp only [rowsOf,afb,if_true,h2,afk];rw [afi (by simp)]
    rw [ck] at h1;cases h1
  cases hc
 |pre t len cap ex=>
  simp only [zQ,cw] at hc;split at hc
  · rename_i q m ck
    have Cx:(⟨q,m.take len⟩:Rows)=⟨r,l⟩:=by injection hc
    cases Cx;obtain ⟨e,rfl,db⟩:=h;rcases db with ⟨q',m',h1,rfl⟩|h1|⟨_,h1,_⟩
    · rw [ck] at h1
      injection h1 with h1;cases h1;obtain ⟨b,h2,h3⟩:=hs.at_ t _ ck;rw [show b=_ from h3] at h2;refine ⟨?_,rfl⟩;simp only [rowsOf,afb,if_true,h2];simp
    · rw [ck] at h1;cases h1
    rw [ck] at h1;cases h1
  cases hc
 |part t off len cap ex=>
  simp only [zQ,cw] at hc;split at hc
  · rename_i q m ck
    have Cx:(⟨q,(m.drop off).take len⟩:Rows)=⟨r,l⟩:=by injection hc
    cases Cx;obtain ⟨e,rfl,db⟩:=h;rcases db with ⟨q',m',h1,rfl⟩|h1|⟨_,h1,_⟩
    · rw [ck] at h1
      injection h1 with h1;cases h1;obtain ⟨b,h2,h3⟩:=hs.at_ t _ ck;rw [show b=_ from h3] at h2;refine ⟨?_,rfl⟩;simp only [rowsOf,afb,if_true,h2];simp
    · rw [ck] at h1;cases h1
    rw [ck] at h1;cases h1
  cases hc
 |_=>cases hc
end Go.Vm
/- Operation by operation: what the typed machine does, the logical machine does; the easy ones. -/
namespace Go.Vm
structure Good (s:List SB) (ps:cH) (sr:fY) (pr:nU):Prop where
 rd:pr.rd=sr.rd
 fr:pr.fr=sr.fr
 wr:pr.wr.map (·.1)=x4 sr.wr
 nw:vJ pr.wr=anB
 nl:(anx pr.news)=anx sr.news
 aE:cJ (sr.nB s) (KJ (gj pr.wr ps) pr.news)
 v:R (sr.nB s) sr.v pr.v
 fra:Fr (x4 sr.wr) s (sr.nB s)
section
variable {s : List SB} {ps : cH}
theorem Good.val (hS:cJ s ps) {v:SV} {p:PV} {rd fr:List Nat} (hv:R s v p):Good s ps {v,rd,fr} {v:=p,rd,fr} where
 rd:=rfl
 fr:=rfl
 wr:=rfl
 nw:=rfl
 nl:=rfl
 aE:=by simp only [fY.nB,mz,af5,gj,KJ];exact hS
 v:=by simp only [fY.nB,mz,af5];exact hv
 fra:=by simp only [fY.nB,mz,af5];exact Fr.refl _ _
theorem Good.news (hS:cJ s ps) {v:SV} {p:PV} {l:List SB} {q:cH} {rd:List Nat} (hl:(anx q)=anx l) (hb: ∀(j:Nat) (b:SB),l[j]? =anz b-> ∃x,q[j]? =anz x/\RB (s++l) b x) (hv:R (s++l) v p):
 Good s ps {v,news:=l,rd} {v:=p,news:=q,rd} where
 rd:=rfl
 fr:=rfl
 wr:=rfl
 nw:=rfl
 nl:=hl
 aE:=by simp only [fY.nB,mz,gj,rB];exact hS.app hl hb
 v:=by simp only [fY.nB,mz];exact hv
 fra:=by simp only [fY.nB,mz];exact Fr.app _ _ _
theorem Good.new (hS:cJ s ps) {v:SV} {p:PV} {b:SB} {q:jX} {rd:List Nat} (hb:RB (s++[b]) b q) (hv:R (s++[b]) v p):Good s ps {v,news:=[b],rd} {v:=p,news:=[q],rd}:=
 Good.news hS rfl (fun j x h=>by
  cases j with
  |zero=>simp at h;subst h;exact ⟨q,rfl,hb⟩
  |succ j=>simp at h) hv
def Qk (b0 b:SB):Prop:=
 match b0 with
 | .arr r l=>(∃l',b= .arr r l'/\anx l'=anx l)\/b= .dead
 | .dead=>b= .dead
 | .box _=>(∃cs,b= .box cs)\/b= .dead
 |_=>True
theorem Fr.set {t:Nat} {b0 b:SB} (h0:s[t]? =anz b0) (hk:Qk b0 b):Fr [t] s (s.set t b):=fun u x hu=>by
 by_cases ND:t=u
 · subst ND
   rw [h0] at hu;injection hu with hu;subst hu;have dI:=(ww.1 h0).1;have hb:(s.set t b)[t]? =anz b:=by simp [dI]
   cases b0 with
   |arr r l=>
    rcases hk with ⟨l',rfl,hl⟩|rfl
    · exact .inl ⟨l',hb,hl,fun h=>by simp [has] at h⟩
    exact .inr hb
   |dead=>rw [show b= .dead from hk] at hb ⊢;exact hb
   |box cs=>
    rcases hk with ⟨c2,rfl⟩|rfl
    · exact .inl ⟨c2,hb⟩
    exact .inr hb
   |_=>trivial
 have hb:(s.set t b)[u]? =anz x:=by rw [IR];simp [ND,hu]
 cases x with
 |arr r l=>exact .inl ⟨l,hb,rfl,fun _=>rfl⟩
 |dead=>exact hb
 |box cs=>exact .inl ⟨cs,hb⟩
 |_=>trivial
theorem cJ.put (hS:cJ s ps) {t:Nat} {b0 b:SB} {q:jX} (h0:s[t]? =anz b0) (hk:Qk b0 b) (hq:RB (Cm [t] (s.set t b)) (XH [t] b) q):cJ (Cm [t] (s.set t b)) (ps.set t q) where
 len:=by simp [vX,hS.len]
 at_:=fun u x hu=>by
  have dI:=(ww.1 h0).1;rw [rL] at hu
  by_cases ND:t=u
  · subst ND
    have hb:(s.set t b)[t]? =anz b:=by simp [dI]
    rw [hb] at hu;simp at hu;subst hu;exact ⟨q,by rw [IR];simp [hS.len,dI],hq⟩
  rw [IR] at hu
  simp only [ND,if_false,afc] at hu;obtain ⟨y,hy,rfl⟩:=hu;obtain ⟨q',h1,h2⟩:=hS.at_ u y hy;exact ⟨q',by rw [IR];simp [ND,h1],h2.fr (Fr.dg (Fr.set h0 hk))⟩
theorem Good.put (hS:cJ s ps) {v:SV} {p:PV} {t:Nat} {b0 b:SB} {q:jX} {l:List SB} {ql:cH} {rd:List Nat} (h0:s[t]? =anz b0) (hk:Qk b0 b) (hq:RB (Cm [t] (s.set t b)) (XH [t] b) q)
 (hl:(anx ql)=anx l) (hb: ∀(j:Nat) (x:SB),l[j]? =anz x-> ∃y,ql[j]? =anz y/\RB (Cm [t] (s.set t b)++l) x y) (hv:R (Cm [t] (s.set t b)++l) v p):
 Good s ps {v,wr:=[(t,b)],news:=l,rd} {v:=p,wr:=[(t,q)],news:=ql,rd} where
 rd:=rfl
 fr:=rfl
 wr:=rfl
 nw:=rfl
 nl:=hl
 aE:=by
  simp only [fY.nB,mz,gj,rB,x4,q8,BE];exact (hS.put h0 hk hq).app hl hb
 v:=by simp only [fY.nB,mz,x4,q8,BE];exact hv
 fra:=by
  simp only [fY.nB,mz,x4,q8,BE];exact (Fr.dg (Fr.set h0 hk)).trans (Fr.app _ _ _)
theorem Good.UD (hS:cJ s ps) {t:Nat} {b0 b:SB} {q:jX} {rd:List Nat} (h0:s[t]? =anz b0) (hk:Qk b0 b) (hq:RB (Cm [t] (s.set t b)) (XH [t] b) q):
 Good s ps {v:= .undef,wr:=[(t,b)],rd} {v:= .undef,wr:=[(t,q)],rd}:=
 Good.put hS h0 hk hq rfl (fun j x h=>by simp at h) rfl
end
section
variable {R' ρ : Type} {w : R' -> ρ} {y : ρ}
theorem bK {α:Type} {x:Option α} {k:α->gu R'} (h:lE x k ρ w=anz y): ∃a,x=anz a/\k a ρ w=anz y:=by
 cases x with
 |none=>cases h
 |some a=>exact ⟨a,rfl,h⟩
theorem cN {α:Type} {x:Option α} {k:α->gu R'} (h:lh x k ρ w=anz y): ∃a,x=anz a/\k a ρ w=anz y:=N9 h
theorem fk {c:Bool} {a b:gu R'} (h:gB c a b ρ w=anz y):(c=anB/\a ρ w=anz y)\/(c=anC/\b ρ w=anz y):=Oa h
theorem cU {c:Bool} {a:gu R'} (h:(bif c then a else aN) ρ w=anz y):c=anB/\a ρ w=anz y:=by
 cases c
 · cases h
 exact ⟨rfl,h⟩
theorem rW {c:Bool} {a:gu R'} (h:(bif c then aN else a) ρ w=anz y):c=anC/\a ρ w=anz y:=by
 cases c
 · exact ⟨rfl,h⟩
 cases h
theorem ir {c:Bool} {a:gu R'} (h:gB c a aN ρ w=anz y):c=anB/\a ρ w=anz y:=by
 rcases fk h with ⟨h1,h2⟩|⟨_,h2⟩
 · exact ⟨h1,h2⟩
 cases h2
theorem vY {c:Bool} {a:gu R'} (h:gB c aN a ρ w=anz y):c=anC/\a ρ w=anz y:=by
 rcases fk h with ⟨_,h2⟩|⟨h1,h2⟩
 · cases h2
 exact ⟨h1,h2⟩
end
def gM {R':Type} (s:List SB) (ps:cH) (po:Option nU) (k:fY->gu R') (ρ:Type) (w:R'->ρ) (y:ρ):Prop:=
 ∃sr pr,po=anz pr/\Good s ps sr pr/\k sr ρ w=anz y
section
variable {R' ρ : Type} {w : R' -> ρ} {y : ρ} {s : List SB} {ps : cH} {e : SE} {pe : Env} {z : List Nat} {k : fY -> gu R'}
theorem gM.val (hS:cJ s ps) {po:Option nU} {v:SV} {p:PV} (h:k {v} ρ w=anz y) (hp:po=anz {v:=p}) (hv:R s v p):gM s ps po k ρ w y:=
 ⟨_,_,hp,Good.val hS hv,h⟩
theorem gM.rd (hS:cJ s ps) {po:Option nU} {v:SV} {p:PV} {rd:List Nat} (h:k {v,rd} ρ w=anz y) (hp:po=anz {v:=p,rd}) (hv:R s v p):gM s ps po k ρ w y:=
 ⟨_,_,hp,Good.val hS hv,h⟩
theorem m9 (hE:dU s e pe) {x:fE} {a:IntKind} {n:Int} (h:bW e x= .int a n):x.ev pe= .int a n:=by
 have:=dJ hE x;rw [h] at this;exact this
theorem BF (hE:dU s e pe) {x:fE} {b:Bool} (h:bW e x= .bool b):x.ev pe= .bool b:=by
 have:=dJ hE x;rw [h] at this;exact this
theorem Sc (hE:dU s e pe) {x:fE} {v:SV} (h:bW e x=v):R s v (x.ev pe):=by
 have:=dJ hE x;rwa [h] at this
theorem LB (k:IntKind):fA k k=anB:=by cases k<;>rfl
theorem Ow (hS:cJ s ps) {op:BinOp} {a:IntKind} {m n:Int} (h:Oe op a m n (ofV k) ρ w=anz y): ∃p,arith op a m n=anz p/\gM s ps (anz {v:=p}) k ρ w y:=by
 cases op with
 |quo=>
  obtain ⟨h1,h2⟩:=vY h;have hn:n≠0:=by intro e;subst e;cases h1
  exact ⟨_,by simp only [arith,rc hn],gM.val hS h2 rfl rfl⟩
 |rem=>
  obtain ⟨h1,h2⟩:=vY h;have hn:n≠0:=by intro e;subst e;cases h1
  exact ⟨_,by simp only [arith,rc hn],gM.val hS h2 rfl rfl⟩
 |shl=>cases h
 |shr=>cases h
 |_=>exact ⟨_,rfl,gM.val hS h rfl rfl⟩
theorem XM (hE:dU s e pe) (hS:cJ s ps) {op:BinOp} {a b:fE} (h:my e s z (.bin op a b) k ρ w=anz y):gM s ps (bE pe ps z (.bin op a b)) k ρ w y:=by
 simp only [my] at h;generalize ha:bW e a=va at h;cases va with
 |int ka m=>
  generalize hb:bW e b=vb at h;cases vb with
  |int kb n=>
   have h1:=m9 hE ha;have h2:=m9 hE hb;have key:(op≠ .shl)->(op≠ .shr)->(bif fA ka kb then Oe op ka m n (ofV k) else aN) ρ w=anz y->gM s ps (bE pe ps z (.bin op a b)) k ρ w y:=by
    intro n1 n2 h;obtain ⟨hk,h⟩:=cU h;obtain ⟨p,hp,hs⟩:=Ow hS h
    have:bE pe ps z (.bin op a b)=anz {v:=p}:=by
     simp only [bE,h1,h2];cases op<;>first|exact absurd rfl n1|exact absurd rfl n2|(simp only [Rv,hk,if_true,hp];rfl)
    rw [this];exact hs
   cases op with
   |shl=>
    obtain ⟨hc,h⟩:=vY h;have Cx: ¬n<0:=by simpa using hc
    exact gM.val hS h (by simp only [bE,h1,h2,Rv,Cn,rc Cx];rfl) rfl
   |shr=>
    obtain ⟨hc,h⟩:=vY h;have Cx: ¬n<0:=by simpa using hc
    exact gM.val hS h (by simp only [bE,h1,h2,Rv,Cn,rc Cx];rfl) rfl
   |_=>exact key (by intro e;cases e) (by intro e;cases e) h
  |_=>cases h
 |_=>cases h
theorem UE (hE:dU s e pe) (hS:cJ s ps) {neg:Bool} {a b:fE} (h:my e s z (.KC neg a b) k ρ w=anz y):gM s ps (bE pe ps z (.KC neg a b)) k ρ w y:=by
 simp only [my] at h;generalize ha:bW e a=va at h;cases va with
 |bool x=>
  generalize hb:bW e b=vb at h;cases vb with
  |bool x'=>
   refine gM.val hS h ?_ rfl;simp only [bE,BF hE ha,BF hE hb];cases neg<;>rfl
  |_=>cases h
 |_=>cases h
theorem UF: ∀{xs ys:List SV} {ps qs:List PV} {r:Bool},RL s xs ps->RL s ys qs->eqS xs ys=anz r->dC ps qs=anz r
 | [],[],ps,qs,r,h1,h2,h=>by rw [show ps=[] from h1,show qs=[] from h2];exact h
 |x::xs,b::ys,ps,qs,r,h1,h2,h=>by
  obtain ⟨p,ps,rfl,a1,a2⟩:=h1.cons_inv;obtain ⟨q,qs,rfl,b1,b2⟩:=h2.cons_inv;simp only [eqS] at h;split at h
  · rename_i ka m kb n
    have a1':p= .int ka m:=a1;have b1':q= .int kb n:=b1;subst a1' b1';cases hk:fA ka kb with
    |false=>rw [hk] at h;cases h
    |true=>
     rw [hk] at h;have hc:qT (.int ka m) (.int kb n)=anz (m==n):=by simp only [qT,hk,if_true]
     simp only [dC,hc];cases xs with
     |nil=>
      cases ys with
      |nil=>
       simp only [lw,EQ] at h;subst h;rw [show ps=[] from a2,show qs=[] from b2];cases m==n<;>rfl
      |cons _ _=>cases h
     |cons x2 xs2=>
      simp only [lw] at h;split at h
      · rename_i r' hr
        injection h with h;subst h;rw [UF a2 b2 hr];cases m==n<;>rfl
      cases h
  cases h
 | [],_::_,ps,qs,r,h1,h2,h=>by cases h
 |_::_,[],ps,qs,r,h1,h2,h=>by cases h
theorem XN (hE:dU s e pe) (hS:cJ s ps) {n:Nat} {neg:Bool} {a b:fE} (h:my e s z (.eqc n neg a b) k ρ w=anz y):gM s ps (bE pe ps z (.eqc n neg a b)) k ρ w y:=by
 simp only [my] at h;generalize ha:bW e a=va at h;cases va with
 |agg xs=>
  generalize hb:bW e b=vb at h;cases vb with
  |agg ys=>
   obtain ⟨hl,h⟩:=cU h;obtain ⟨r,hr,h⟩:=bK h;obtain ⟨p,hp,h1⟩:=Sc hE ha;obtain ⟨q,hq,h2⟩:=Sc hE hb;refine gM.val hS h ?_ rfl;simp only [bE,hp,hq,h1.mY,h2.mY];rw [pp hl,UF h1 h2 hr];cases neg<;>rfl
  |_=>cases h
 |_=>cases h
theorem agU (hE:dU s e pe) (hS:cJ s ps) {op:UnOp} {a:fE} (h:my e s z (.un op a) k ρ w=anz y):gM s ps (bE pe ps z (.un op a)) k ρ w y:=by
 simp only [my] at h;cases op with
 |neg=>
  dsimp only at h;generalize ha:bW e a=va at h;cases va with
  |int ka n=>exact gM.val hS h (by simp only [bE,m9 hE ha];rfl) rfl
  |_=>cases h
 |not=>
  dsimp only at h;generalize ha:bW e a=va at h;cases va with
  |bool b=>exact gM.val hS h (by simp only [bE,BF hE ha];rfl) rfl
  |_=>cases h
 |_=>cases h
theorem UG (hE:dU s e pe) (hS:cJ s ps) {a:IntKind} {x:fE} (h:my e s z (.conv a x) k ρ w=anz y):gM s ps (bE pe ps z (.conv a x)) k ρ w y:=by
 simp only [my] at h;generalize ha:bW e x=va at h;cases va with
 |int ka n=>exact gM.val hS h (by simp only [bE,m9 hE ha]) rfl
 |_=>cases h
theorem XO (hE:dU s e pe) (hS:cJ s ps) {x:fE} (h:my e s z (.len x) k ρ w=anz y):gM s ps (bE pe ps z (.len x)) k ρ w y:=by
 simp only [my] at h;have hx:=dJ hE x;generalize bW e x=v at h hx;cases v with
 |nil e' c=>exact gM.val hS h (by simp only [bE,show x.ev pe= .sl e' c [] from hx];rfl) rfl
 |pre t len cap ex=>
  obtain ⟨e',hx,_⟩:=hx;exact gM.val hS h (by simp only [bE,hx]) rfl
 |part t off len cap ex=>
  obtain ⟨e',hx,_⟩:=hx;exact gM.val hS h (by simp only [bE,hx]) rfl
 |sl q m=>
  exact gM.val hS h (by simp only [bE,show x.ev pe=_ from hx,af6]) rfl
 |own t ex=>
  obtain ⟨c,hc,h⟩:=bK h;simp only [zQ,cw] at hc;split at hc
  · rename_i q m ck
    injection hc with hc;subst hc;obtain ⟨e',n,hx,db⟩:=hx;rcases db with ⟨q',m',h1,rfl,rfl⟩|h1
    · rw [ck] at h1;injection h1 with h1;cases h1
      exact gM.val hS h (by simp only [bE,hx]) rfl
    rw [ck] at h1;cases h1
  cases hc
 |_=>obtain ⟨c,hc,h⟩:=bK h;cases hc
theorem BG: ∀{l:List (Nat×Nat×SV)} {pl:List (Nat×Nat×PV)} {cs:List SV} {pc:List PV} {r:List SV},
 (anx pl=anx l/\ ∀(j:Nat) (a:Nat×Nat×SV),l[j]? =anz a-> ∃b,pl[j]? =anz (a.1,a.2.1,b)/\R s a.2.2 b)->RL s cs pc->vU l cs=anz r-> ∃q,nm pl pc=anz q/\RL s r q
 | [],pl,cs,pc,r,hl,hc,h=>by
  have:pl=[]:=aga.1 hl.1
  subst this;injection h with h;subst h;exact ⟨pc,rfl,hc⟩
 |(off,sz,v)::l,pl,cs,pc,r,hl,hc,h=>by
  cases pl with
  |nil=>simp at hl
  |cons p pl=>
   obtain ⟨b,h1,h2⟩:=hl.2 0 _ rfl;simp at h1;subst h1;simp only [vU] at h;split at h
   · rename_i w hw
     obtain ⟨q,hq,hqr⟩:=h2.stored hw;cases XP:(NE (anx w) sz&&M2 (off+sz) (anx cs)) with
     |false=>rw [XP] at h;cases h
     |true=>
      rw [XP] at h;simp only [lw] at h;obtain ⟨q2,h3,h4⟩:=BG (pl:=pl) ⟨by simpa using hl.1,fun j a ha=>hl.2 (j+1) a (by simpa using ha)⟩ (y9 hqr hc) h
      refine ⟨q2,?_,h4⟩;simp only [nm,hq,hqr.mY,hc.mY];rw [pp XP];exact h3
   cases h
theorem LC (hE:dU s e pe): ∀(l:List (Nat×Nat×fE)),((l.map fun p=>(p.1,p.2.1,p.2.2.ev pe)).length=(xY e l).length/\ ∀(j:Nat) (a:Nat×Nat×SV),(xY e l)[j]? =anz a-> ∃b,(l.map fun p=>(p.1,p.2.1,p.2.2.ev pe))[j]? =anz (a.1,a.2.1,b)/\R s a.2.2 b)
 | []=>⟨rfl,fun j a h=>by simp [xY] at h⟩
 |p::l=>by
  obtain ⟨h1,h2⟩:=LC hE l;refine ⟨by simp [xY] at h1 ⊢;omega,fun j a h=>?_⟩
  cases j with
  |zero=>simp [xY] at h;subst h;exact ⟨_,rfl,dJ hE _⟩
  |succ j=>simp only [xY,afm] at h;obtain ⟨b,h3,h4⟩:=h2 j a h;exact ⟨b,by simpa using h3,h4⟩
theorem Sd (hE:dU s e pe) (hS:cJ s ps) {zero:List PV} {parts:List (Nat×Nat×fE)} (h:my e s z (.build zero parts) k ρ w=anz y):gM s ps (bE pe ps z (.build zero parts)) k ρ w y:=by
 simp only [my] at h;obtain ⟨cs,hc,h⟩:=bK h;obtain ⟨q,hq,hr⟩:=BG (LC hE parts) (vW s zero) hc;exact gM.val hS h (by simp only [bE,hq];rfl) ⟨q,rfl,hr⟩
theorem XQ (hE:dU s e pe) (hS:cJ s ps) {x:fE} (h:my e s z (.box x) k ρ w=anz y):gM s ps (bE pe ps z (.box x)) k ρ w y:=by
 simp only [my] at h;obtain ⟨cs,hc,h⟩:=bK h;obtain ⟨q,hq,hr⟩:=(dJ hE x).stored hc;refine ⟨_,_,?_,Good.new hS (b:= .box cs) (q:= .box q) (v:= .bp (anx s) (anx cs) 0) (p:= .ptr (anx s) (anx cs) 0 0) (rd:=[]) ⟨q,rfl,hr.ext (Fr.app _ _ _)⟩ rfl,h⟩;simp only [bE,hq,hS.len,hr.mY]
theorem Se (hS:cJ s ps) {cells:List PV} (h:my e s z (.alloc cells) k ρ w=anz y):gM s ps (bE pe ps z (.alloc cells)) k ρ w y:=by
 simp only [my] at h;refine ⟨_,_,?_,Good.new hS (b:= .box (Bv cells)) (q:= .box cells) (v:= .bp (anx s) (anx cells) 0) (p:= .ptr (anx s) (anx cells) 0 0) (rd:=[]) ⟨cells,rfl,vW _ _⟩ rfl,h⟩;simp only [bE,hS.len]
theorem UH (hE:dU s e pe) (hS:cJ s ps) {x:fE} (h:my e s z (.KD x) k ρ w=anz y):gM s ps (bE pe ps z (.KD x)) k ρ w y:=by
 simp only [my] at h;have hx:=dJ hE x;generalize bW e x=v at h hx;cases v with
 |pa t r i a o=>exact gM.val hS h (by simp only [bE,hx.1]) ⟨rfl,hx.2⟩
 |pb t i o=>
  obtain ⟨e',h1,h2⟩:=hx;exact gM.val hS h (by simp only [bE,h1]) ⟨e',rfl,h2⟩
 |bp t n o=>exact gM.val hS h (by simp only [bE,show x.ev pe=_ from hx]) rfl
 |bH c o=>
  obtain ⟨q,h1,h2⟩:=hx;exact gM.val hS h (by simp only [bE,h1]) ⟨q,rfl,h2⟩
 |eI f a b=>
  obtain ⟨pa,pb,h1,h2⟩:=hx;exact gM.val hS h (by simp only [bE,h1]) ⟨pa,pb,rfl,h2⟩
 |_=>cases h
theorem UI (hE:dU s e pe) (hS:cJ s ps) {off:Nat} {x:fE} (h:my e s z (.KE off x) k ρ w=anz y):gM s ps (bE pe ps z (.KE off x)) k ρ w y:=by
 simp only [my] at h;have hx:=dJ hE x;generalize bW e x=v at h hx;cases v with
 |pa t r i a o=>exact gM.val hS h (by simp only [bE,hx.1]) ⟨rfl,hx.2⟩
 |pb t i o=>
  obtain ⟨e',h1,h2⟩:=hx;exact gM.val hS h (by simp only [bE,h1]) ⟨e',rfl,h2⟩
 |bp t n o=>exact gM.val hS h (by simp only [bE,show x.ev pe=_ from hx]) rfl
 |bH c o=>
  obtain ⟨q,h1,h2⟩:=hx;exact gM.val hS h (by simp only [bE,h1]) ⟨q,rfl,h2⟩
 |_=>cases h
theorem XS (hE:dU s e pe) (hS:cJ s ps) {agg:Option Nat} {off:Nat} {x:fE} (h:my e s z (.ie agg off x) k ρ w=anz y):gM s ps (bE pe ps z (.ie agg off x)) k ρ w y:=by
 simp only [my] at h;generalize hv:bW e x=v at h;cases v with
 |agg cs=>
  obtain ⟨v,h1,h⟩:=bK h;obtain ⟨q,h2,h3⟩:=Sc hE hv;obtain ⟨p,h4,h5⟩:=tB h3 h1;exact gM.val hS h (by simp only [bE,h2,h4];rfl) h5
 |_=>cases h
theorem XT (hE:dU s e pe) (hS:cJ s ps) {i:Nat} {x:fE} (h:my e s z (.ext i x) k ρ w=anz y):gM s ps (bE pe ps z (.ext i x)) k ρ w y:=by
 simp only [my] at h;generalize hv:bW e x=v at h;cases v with
 |cq cs=>
  obtain ⟨v,h1,h⟩:=bK h;obtain ⟨q,h2,h3⟩:=Sc hE hv;obtain ⟨p,h4,h5⟩:=h3.nth h1;exact gM.val hS h (by simp only [bE,h2,h4];rfl) h5
 |_=>cases h
theorem XU (hE:dU s e pe) (hS:cJ s ps) {f:FuncId} {a b:List fE} (h:my e s z (.mkf f a b) k ρ w=anz y):gM s ps (bE pe ps z (.mkf f a b)) k ρ w y:=by
 simp only [my] at h;exact gM.val hS h rfl ⟨_,_,rfl,y7 hE a,y7 hE b⟩
theorem XV (hS:cJ s ps) {m:Option PV} (h:my e s z (.mkm m) k ρ w=anz y):gM s ps (bE pe ps z (.mkm m)) k ρ w y:=by
 simp only [my] at h;cases m with
 |none=>
  refine ⟨_,_,?_,Good.new hS (b:= .set []) (q:= .map []) (v:= .mp (anx s)) (p:= .mp (anx s)) (rd:=[]) rfl rfl,h⟩;simp only [bE,hS.len]
 |some m=>
  obtain ⟨p,_,h⟩:=bK h;refine ⟨_,_,?_,Good.new hS (b:= .aO p []) (q:= .map []) (v:= .mp (anx s)) (p:= .mp (anx s)) (rd:=[]) rfl rfl,h⟩;simp only [bE,hS.len]
theorem afJ: ∀{l:List SV} {q:List PV} {m:Bool} {a:IntKind} {n:Int} {v:SV},RL s l q->mmS m a n l=anz v-> ∃p,mmE m a n q=anz p/\R s v p
 | [],q,m,a,n,v,hl,h=>by
  rw [show q=[] from hl];injection h with h;subst h;exact ⟨_,rfl,rfl⟩
 |x::l,q,m,a,n,v,hl,h=>by
  obtain ⟨p,q,rfl,h1,h2⟩:=hl.cons_inv;simp only [mmS] at h;split at h
  · rename_i b c
    have NC:p= .int b c:=h1;subst NC;cases hk:fA a b with
    |true=>
     rw [hk] at h;obtain ⟨p,h3,h4⟩:=afJ h2 h;refine ⟨p,?_,h4⟩;simp only [mmE,hk,if_true];rw [<- h3];cases m<;>rfl
    |false=>rw [hk] at h;cases h
  cases h
theorem agV (hE:dU s e pe) (hS:cJ s ps) {m:Bool} {x:fE} {xs:List fE} (h:my e s z (.mm m x xs) k ρ w=anz y):gM s ps (bE pe ps z (.mm m x xs)) k ρ w y:=by
 simp only [my] at h;generalize hv:bW e x=v at h;cases v with
 |int a n=>
  obtain ⟨v,h1,h⟩:=bK h;obtain ⟨p,h2,h3⟩:=afJ (y7 hE xs) h1;exact gM.val hS h (by simp only [bE,m9 hE hv,h2];rfl) h3
 |_=>cases h
theorem UJ (hE:dU s e pe) (hS:cJ s ps) {c a b:fE} (h:my e s z (.pick c a b) k ρ w=anz y):gM s ps (bE pe ps z (.pick c a b)) k ρ w y:=by
 simp only [my] at h;generalize hv:bW e c=v at h;cases v with
 |bool x=>
  rcases fk h with ⟨rfl,h⟩|⟨rfl,h⟩
  · exact gM.val hS h (by simp only [bE,BF hE hv]) (dJ hE a)
  exact gM.val hS h (by simp only [bE,BF hE hv]) (dJ hE b)
 |_=>cases h
end
end Go.Vm
/- Operation by operation, second part: elements, blocks, slices, sets. -/
namespace Go.Vm
section
variable {R' ρ : Type} {w : R' -> ρ} {y : ρ} {s : List SB} {ps : cH} {e : SE} {pe : Env} {z : List Nat} {k : fY -> gu R'}
theorem cJ.arr (hS:cJ s ps) {t:Nat} {r:List PT} {l:List (RT r)} (h:s[t]? =anz (.arr r l)):ps[t]? =anz (.arr (anx r) (l.map (RT.pv r))):=by
 obtain ⟨q,h1,h2⟩:=hS.at_ t _ h;rw [show q=_ from h2] at h1;exact h1
theorem cJ.box (hS:cJ s ps) {t:Nat} {cs:List SV} (h:s[t]? =anz (.box cs)): ∃q,ps[t]? =anz (.box q)/\RL s cs q:=by
 obtain ⟨q,h1,q',rfl,h2⟩:=hS.at_ t _ h;exact ⟨q',h1,h2⟩
theorem cJ.ao5 (hS:cJ s ps) {t:Nat} {l:List (List Int)} (h:s[t]? =anz (.set l)):ps[t]? =anz (.map (l.map BD)):=by
 obtain ⟨q,h1,h2⟩:=hS.at_ t _ h;rw [show q=_ from h2] at h1;exact h1
theorem cJ.XW (hS:cJ s ps) {t:Nat} {p:PT} {l:List (RT [.i .i64,p])} (h:s[t]? =anz (.aO p l)):ps[t]? =anz (.map (l.map (D4 p))):=by
 obtain ⟨q,h1,h2⟩:=hS.at_ t _ h;rw [show q=_ from h2] at h1;exact h1
theorem OwnAt.inv {t e n:Nat} {r:List PT} {l:List (RT r)} (h:OwnAt s t e n) (hs:s[t]? =anz (.arr r l)):e=anx r/\n=(anx l):=by
 rcases h with ⟨q,m,h1,rfl,rfl⟩|h1
 · rw [hs] at h1;injection h1 with h1;cases h1;exact ⟨rfl,rfl⟩
 rw [hs] at h1;cases h1
theorem zT.inv {t e:Nat} {r:List PT} {l:List (RT r)} (h:zT s t e) (hs:s[t]? =anz (.arr r l)):e=(anx r):=by
 rcases h with ⟨q,m,h1,rfl⟩|h1|⟨cs,h1,_⟩
 · rw [hs] at h1;injection h1 with h1;cases h1;rfl
 · rw [hs] at h1;cases h1
 rw [hs] at h1;cases h1
theorem UC.inv {t:Nat} {q r:List PT} {i:Int} {a:RT q} {l:List (RT r)} (h:UC s t q i a) (hs:s[t]? =anz (.arr r l)): ∃e:q=r,aI l i=anz (e▸a):=by
 rcases h with ⟨m,h1,h2⟩|h1
 · rw [hs] at h1;injection h1 with h1;cases h1;exact ⟨rfl,h2⟩
 rw [hs] at h1;cases h1
theorem agT.inv {t:Nat} {r:List PT} {i:Int} {l:List (RT r)} (h:agT s t i) (hs:s[t]? =anz (.arr r l)):(aI l i).isSome=anB:=by
 rcases h with ⟨q,m,h1,h2⟩|h1
 · rw [hs] at h1;injection h1 with h1;cases h1;exact h2
 rw [hs] at h1;cases h1
theorem fS {α:Type} {l:List α} {n:Nat} {i:Int} {a:α} (h:aI (l.take n) i=anz a): ∃m:Nat,i=afF m/\m<n/\l[m]? =anz a:=by
 obtain ⟨m,rfl,hm⟩:=nA h;have dI:=(ww.1 hm).1;rw [afg] at dI;have hmn:m<n:=by omega
 rw [If hmn] at hm;exact ⟨m,rfl,hmn,hm⟩
theorem UK (hE:dU s e pe) (hS:cJ s ps) {esz:Nat} {x i:fE} (h:my e s z (.KF esz x i) k ρ w=anz y):gM s ps (bE pe ps z (.KF esz x i)) k ρ w y:=by
 simp only [my] at h;generalize hi:bW e i=vi at h;cases vi with
 |int ki n=>
  have hi:=m9 hE hi;have hx:=dJ hE x;dsimp only at h;unfold afA at h;generalize bW e x=v at h hx;cases v with
  |sl r l=>
   obtain ⟨he,h⟩:=cU h;obtain ⟨a,ha,hk⟩:=cN h;obtain ⟨m,rfl,hm⟩:=nA ha;refine gM.val hS (p:= .bH (RT.pv r a) 0) hk ?_ ⟨_,rfl,HZ r a⟩;have hr:(l.map (RT.pv r))[m]? =anz (RT.pv r a):=by simp [hm]
   simp only [bE,hi,jZ,show x.ev pe=_ from hx,hr,he,if_true]
  |own t ex=>
   simp only [cw] at h;generalize ck:s[t]? =b at h;cases b with
   |none=>cases h
   |some b=>
    cases b with
    |arr r l=>
     obtain ⟨he,h⟩:=cU h;obtain ⟨a,ha,hk⟩:=cN h;obtain ⟨m,rfl,hm⟩:=nA ha;obtain ⟨e',n',hx,db⟩:=hx;obtain ⟨rfl,rfl⟩:=db.inv ck;have dI:=(ww.1 hm).1;have h1:aks m (anx l)=anB:=by simpa using dI
     refine gM.val hS (p:= .ptr t (anx r) m 0) hk ?_ ⟨rfl,.inl ⟨l,ck,ha⟩⟩;simp only [bE,hi,jZ,hx,h1,he,afa,if_true,agb]
    |_=>cases h
  |pre t len cap ex=>
   simp only [cw] at h;generalize ck:s[t]? =b at h;cases b with
   |none=>cases h
   |some b=>
    cases b with
    |arr r l=>
     obtain ⟨he,h⟩:=cU h;obtain ⟨a,ha,hk⟩:=cN h;obtain ⟨m,rfl,dI,hm⟩:=fS ha;obtain ⟨e',hx,db⟩:=hx
     have:=db.inv ck
     subst this;have h1:aks m len=anB:=by simpa using dI
     refine gM.val hS (p:= .ptr t (anx r) m 0) hk ?_ ⟨rfl,.inl ⟨l,ck,hm⟩⟩;simp only [bE,hi,jZ,hx,h1,he,afa,if_true,agb]
    |_=>cases h
  |part t off len cap ex=>
   simp only [cw] at h;generalize ck:s[t]? =b at h;cases b with
   |none=>cases h
   |some b=>
    cases b with
    |arr r l=>
     obtain ⟨he,h⟩:=cU h;obtain ⟨a,ha,hk⟩:=cN h;obtain ⟨m,rfl,dI,hm⟩:=fS ha;rw [List.getElem?_drop] at hm;obtain ⟨e',hx,db⟩:=hx
     have:=db.inv ck
     subst this;have h1:aks m len=anB:=by simpa using dI
     refine gM.val hS (p:= .ptr t (anx r) (off+m) 0) hk ?_ ⟨rfl,.inl ⟨l,ck,hm⟩⟩;simp only [bE,hi,jZ,hx,h1,he,afa,if_true]
    |_=>cases h
  |_=>cases h
 |_=>cases h
theorem AG {n:Nat} {i:Int} {j:Nat} {f:Nat->gu R'}:Ls n i j f ρ w=anz y-> ∃m,i=afF m/\j<=m/\m<j+n/\f m ρ w=anz y:=by
 induction n generalizing j with
 |zero=>intro h;cases h
 |succ n ih=>
  intro h;rcases fk h with ⟨h1,h2⟩|⟨_,h2⟩
  · exact ⟨j,by simpa using h1,akr _,by omega,h2⟩
  obtain ⟨m,h3,h4,h5,h6⟩:=ih h2
  exact ⟨m,h3,by omega,by omega,h6⟩
theorem Sf (hE:dU s e pe) (hS:cJ s ps) {n esz:Nat} {p i:fE} (h:my e s z (.Dj n esz p i) k ρ w=anz y):gM s ps (bE pe ps z (.Dj n esz p i)) k ρ w y:=by
 simp only [my] at h;generalize hi:bW e i=vi at h;cases vi with
 |int ki j=>
  have hi:=m9 hE hi;have hx:=dJ hE p;generalize bW e p=v at h hx;cases v with
  |bp t m o=>
   obtain ⟨j',rfl,_,h2,h⟩:=AG h;have h1:aks j' n=anB:=by simp;omega
   exact gM.val hS h (by simp only [bE,hi,jZ,h1,if_true,show p.ev pe=_ from hx]) rfl
  |bH c o=>
   obtain ⟨j',rfl,_,h2,h⟩:=AG h;have h1:aks j' n=anB:=by simp;omega
   obtain ⟨q,hq,hr⟩:=hx;exact gM.val hS h (by simp only [bE,hi,jZ,h1,if_true,hq]) ⟨q,rfl,hr⟩
  |_=>cases h
 |_=>cases h
theorem XX (hE:dU s e pe) (hS:cJ s ps) {n esz:Nat} {agg:Option Nat} {x i:fE} (h:my e s z (.idx n esz agg x i) k ρ w=anz y):gM s ps (bE pe ps z (.idx n esz agg x i)) k ρ w y:=by
 simp only [my] at h;generalize hi:bW e i=vi at h;cases vi with
 |int ki j=>
  have hi:=m9 hE hi;generalize hx:bW e x=v at h;cases v with
  |agg cs=>
   obtain ⟨j',rfl,_,h2,h⟩:=AG h;have h1:aks j' n=anB:=by simp;omega
   obtain ⟨v,hv,h⟩:=bK h;obtain ⟨q,hq,hr⟩:=Sc hE hx;obtain ⟨p,hp,hpr⟩:=tB hr hv;exact gM.val hS h (by simp only [bE,hi,jZ,h1,if_true,hq,hp];rfl) hpr
  |_=>cases h
 |_=>cases h
theorem UL (hE:dU s e pe) (hS:cJ s ps) {x i:fE} (h:my e s z (.KG x i) k ρ w=anz y):gM s ps (bE pe ps z (.KG x i)) k ρ w y:=by
 simp only [my] at h;generalize hi:bW e i=vi at h;cases vi with
 |int ki j=>
  have hi:=m9 hE hi;generalize hx:bW e x=v at h;cases v with
  |str t=>
   obtain ⟨b,hb,h⟩:=cN h;have hx:=Sc hE hx;cases j with
   |negSucc _=>cases hb
   |ofNat m=>
    simp only [afz,afc] at hb;obtain ⟨c,hc,rfl⟩:=hb;exact gM.val hS h (by simp only [bE,hi,jZ,show x.ev pe=_ from hx,hc]) rfl
  |_=>cases h
 |_=>cases h
theorem UM (hE:dU s e pe) (hS:cJ s ps) {agg:Option Nat} {p:fE} (h:my e s z (.load agg p) k ρ w=anz y):gM s ps (bE pe ps z (.load agg p)) k ρ w y:=by
 simp only [my] at h;have hx:=dJ hE p;unfold afB at h;generalize bW e p=v at h hx;cases v with
 |bp t n off=>
  simp only [cw] at h;generalize ck:s[t]? =b at h;cases b with
  |none=>cases h
  |some b=>
   cases b with
   |box cs=>
    obtain ⟨v,hv,h⟩:=bK h;obtain ⟨q,h1,h2⟩:=hS.box ck;obtain ⟨u,h3,h4⟩:=tB h2 hv;refine gM.rd hS h ?_ h4;show oY ps agg (p.ev pe)=_;rw [show p.ev pe=_ from hx];simp only [oY,h1,afb,if_true,h3];rfl
   |_=>cases h
 |pa t r i a off=>
  simp only [cw] at h;generalize ck:s[t]? =b at h;cases b with
  |none=>cases h
  |some b=>
   cases b with
   |arr q l=>
    obtain ⟨v,hv,hk⟩:=bK h;obtain ⟨hx,db⟩:=hx;obtain ⟨rfl,hg⟩:=db.inv ck;obtain ⟨u,h3,h4⟩:=tB (HZ r a) hv;obtain ⟨m,rfl,hm⟩:=nA hg;refine gM.rd hS hk ?_ h4;show oY ps agg (p.ev pe)=_;rw [hx];have CG:(l.map (RT.pv r))[m]? =anz (RT.pv r a):=by simp [hm]
    have e1:(afF m).toNat=m:=rfl;simp only [oY,hS.arr ck,e1,CG,h3];rfl
   |_=>cases h
 |pb t i off=>
  simp only [cw] at h;generalize ck:s[t]? =b at h;cases b with
  |none=>cases h
  |some b=>
   cases b with
   |arr r l=>
    obtain ⟨a,ha,h⟩:=cN h;obtain ⟨v,hv,hk⟩:=bK h;obtain ⟨e',hx,db⟩:=hx;obtain ⟨u,h3,h4⟩:=tB (HZ r a) hv;obtain ⟨m,rfl,hm⟩:=nA ha;refine gM.rd hS hk ?_ h4;show oY ps agg (p.ev pe)=_;rw [hx];have CG:(l.map (RT.pv r))[m]? =anz (RT.pv r a):=by simp [hm]
    have e1:(afF m).toNat=m:=rfl;simp only [oY,hS.arr ck,e1,CG,h3];rfl
   |_=>cases h
 |bH cs off=>
  obtain ⟨v,hv,h⟩:=bK h;obtain ⟨q,hq,hr⟩:=hx;obtain ⟨u,h3,h4⟩:=tB hr hv;refine gM.val hS h ?_ h4;show oY ps agg (p.ev pe)=_;rw [hq];simp only [oY,h3];rfl
 |_=>cases h
theorem Jt (hS:cJ s ps) {t:Nat} {r:List PT} {l:List (RT r)} (ck:s[t]? =anz (.arr r l)) {i:Int} {b:RT r} {rd:List Nat}:
 Good s ps {v:= .undef,wr:=[(t,.arr r (bZ l i b))],rd} {v:= .undef,wr:=[(t,.arr (anx r) ((l.map (RT.pv r)).set i.toNat (RT.pv r b)))],rd}:=
 Good.UD hS ck (.inl ⟨_,rfl,by simp⟩) (by show _=_;simp [bZ,am9])
theorem Sg (hE:dU s e pe) (hS:cJ s ps) {sz:Nat} {p x:fE} (h:my e s z (.store sz p x) k ρ w=anz y):gM s ps (bE pe ps z (.store sz p x)) k ρ w y:=by
 simp only [my] at h;have hx:=dJ hE p;have hv:=dJ hE x;unfold Uo at h;generalize bW e p=v at h hx;generalize bW e x=u at h hv;cases v with
 |bp t n off=>
  simp only [cw] at h;generalize ck:s[t]? =b at h;cases b with
  |none=>cases h
  |some b=>
   cases b with
   |box cs=>
    obtain ⟨w',hw,h⟩:=bK h;obtain ⟨hc,h⟩:=cU h;obtain ⟨q,h1,h2⟩:=hv.stored hw;obtain ⟨b,h3,h4⟩:=hS.box ck;have sx:=Fr.dg (ts:=[t]) (Fr.set (b:= .box (pQ off w' cs)) ck (.inl ⟨_,rfl⟩));refine ⟨_,_,?_,Good.UD hS (b:= .box (pQ off w' cs)) (q:= .box (nT off q b)) (rd:=[]) ck (.inl ⟨_,rfl⟩) ⟨_,rfl,RL.fr sx (y9 h2 h4)⟩,h⟩
    show sm ps z sz (x.ev pe) (p.ev pe)=_
    rw [show p.ev pe=_ from hx];simp only [sm,h3,h1,h2.mY,h4.mY];rw [pp (by simpa using hc)]
   |_=>cases h
 |pa t r i a off=>
  simp only [cw] at h;generalize ck:s[t]? =b at h;cases b with
  |none=>cases h
  |some b=>
   cases b with
   |arr q l=>
    obtain ⟨hc,h⟩:=cU h;obtain ⟨a',Fi,hk⟩:=bK h;obtain ⟨hx,db⟩:=hx;obtain ⟨rfl,hg⟩:=db.inv ck;obtain ⟨m,rfl,hm⟩:=nA hg;refine ⟨_,_,?_,Jt hS ck (rd:=[]),hk⟩;show sm ps z sz (x.ev pe) (p.ev pe)=_;rw [hx];have CG:(l.map (RT.pv r))[m]? =anz (RT.pv r a):=by simp [hm]
    have e1:(afF m).toNat=m:=rfl;simp only [v6,ae9] at hc;obtain ⟨⟨c1,c2⟩,c3⟩:=hc;have hj:u≠ .iS:=by
     intro e;subst e
     have:=RT.pS Fi
     have hq:=congrArg (fun l=>l[off]?) this
     have ly:=UV c2;have qR:sz=1:=by have:=ut c1;simpa [SV.cells] using this.symm
     have dI:off<(anx r):=by omega
     have HE:off<(RT.sv r a).length:=by rw [RT.Jr];exact dI
     simp only [pQ,SV.cells] at hq;rw [AC (by simp;omega),Do (by simp;omega)] at hq
     simp only [afg,agX (amo HE),anv,agM] at hq
     have: ∀(r:List PT) (b:RT r) (n:Nat),(RT.sv r b)[n]?≠anz .iS:=by
      intro r
      induction r with
      |nil=>intro b n h;simp [RT.sv] at h
      |cons p rest ih=>
       intro b n;cases rest with
       |nil=>cases n<;>cases p<;>simp [RT.sv,PT.sv]
       |cons p2 ao6=>cases n with
        |zero=>cases p<;>simp [RT.sv,PT.sv]
        |succ n=>simpa [RT.sv] using ih b.2 n
     exact this r a' off hq.symm
    have Fz:=hv.cells hj;have uW:=RT.pS Fi;have h5:RL s (RT.sv r a') (nT off (x.ev pe).cells (RT.pv r a)):=by
     rw [<- uW];exact y9 Fz (HZ r a)
    have h6:=y8 r a' h5;have Ox:(x.ev pe).cI=anz (x.ev pe).cells:=by
     unfold PV.cI;rw [pp ?_];have rE:=RT.plain r a';rw [<- h6] at rE;unfold nT at rE;simp only [anr,v6] at rE;exact rE.1.2
    simp only [sm,hS.arr ck,e1,CG,Ox,Fz.mY,RT.vV];rw [pp (by simp [c1,c2,c3])]
    simp only [h6]
   |_=>cases h
 |pb t i off=>
  simp only [cw] at h;generalize ck:s[t]? =b at h;cases b with
  |none=>cases h
  |some b=>
   cases b with
   |arr r l=>
    obtain ⟨hc,h⟩:=cU h;obtain ⟨e',hx,db⟩:=hx;have uu:=db.inv ck;rw [agJ] at uu;obtain ⟨a0,hg⟩:=uu;obtain ⟨m,rfl,hm⟩:=nA hg;have CG:(l.map (RT.pv r))[m]? =anz (RT.pv r a0):=by simp [hm]
    have e1:(afF m).toNat=m:=rfl;simp only [v6,ae9] at hc;obtain ⟨⟨c1,c2⟩,c3⟩:=hc;cases qR:NE sz (anx r) with
    |true=>
     rw [qR] at h;obtain ⟨a',Fi,hk⟩:=bK h;obtain ⟨hp,hl⟩:=hv.ofRow Fi;have NS:=ut qR;have Cv:off=0:=by have:=UV c2;omega
     subst Cv;refine ⟨_,_,?_,Jt hS ck (rd:=[]),hk⟩;show sm ps z sz (x.ev pe) (p.ev pe)=_;rw [hx];simp only [sm,hS.arr ck,e1,CG,hp,RT.vV];rw [pp (by rw [agb,NS];simp [c3])]
     have:nT 0 (RT.pv r a') (RT.pv r a0)=RT.pv r a':=by
      unfold nT;rw [RT.vV,List.drop_of_length_le (by rw [RT.vV];omega)];simp
     rw [this]
    |false=>
     rw [qR] at h;obtain ⟨a,ha,h⟩:=cN h;obtain ⟨a',Fi,hk⟩:=bK h;rw [hg] at ha;injection ha with ha;subst ha;refine ⟨_,_,?_,Jt hS ck (rd:=[]),hk⟩;show sm ps z sz (x.ev pe) (p.ev pe)=_;rw [hx];have hj:u≠ .iS:=by
      intro e;subst e
      have:=RT.pS Fi
      have hq:=congrArg (fun l=>l[off]?) this
      have ly:=UV c2;have qR:sz=1:=by have:=ut c1;simpa [SV.cells] using this.symm
      have dI:off<(anx r):=by omega
      have HE:off<(RT.sv r a0).length:=by rw [RT.Jr];exact dI
      simp only [pQ,SV.cells] at hq;rw [AC (by simp;omega),Do (by simp;omega)] at hq
      simp only [afg,agX (amo HE),anv,agM] at hq
      have: ∀(r:List PT) (b:RT r) (n:Nat),(RT.sv r b)[n]?≠anz .iS:=by
       intro r
       induction r with
       |nil=>intro b n h;simp [RT.sv] at h
       |cons p rest ih=>
        intro b n;cases rest with
        |nil=>cases n<;>cases p<;>simp [RT.sv,PT.sv]
        |cons p2 ao6=>cases n with
         |zero=>cases p<;>simp [RT.sv,PT.sv]
         |succ n=>simpa [RT.sv] using ih b.2 n
      exact this r a' off hq.symm
     have Fz:=hv.cells hj;have uW:=RT.pS Fi;have h5:RL s (RT.sv r a') (nT off (x.ev pe).cells (RT.pv r a0)):=by
      rw [<- uW];exact y9 Fz (HZ r a0)
     have h6:=y8 r a' h5;have Ox:(x.ev pe).cI=anz (x.ev pe).cells:=by
      unfold PV.cI;rw [pp ?_];have rE:=RT.plain r a';rw [<- h6] at rE;unfold nT at rE;simp only [anr,v6] at rE;exact rE.1.2
     simp only [sm,hS.arr ck,e1,CG,Ox,Fz.mY,RT.vV];rw [pp (by simp [c1,c2,c3])]
     simp only [h6]
   |_=>cases h
 |_=>cases h
end
end Go.Vm
/- Operation by operation, third part: slices, new blocks, append, sets; all of them together. -/
namespace Go.Vm
section
variable {R' ρ : Type} {w : R' -> ρ} {y : ρ} {s : List SB} {ps : cH} {e : SE} {pe : Env} {z : List Nat} {k : fY -> gu R'}
def FA (pe:Env) (o:Option fE):Option (Option Nat):=match o with|none=>anz anA|some a=>(jZ (a.ev pe)).map anz
theorem vo (hE:dU s e pe) {o:Option fE} {d a:Int} {n:Nat} (h:CL e d o=anz a) (hd:d=afF n) (h0:0<=a): ∃b,FA pe o=anz b/\b.getD n=a.toNat:=by
 cases o with
 |none=>
  injection h with h;subst h hd;exact ⟨anA,rfl,rfl⟩
 |some x=>
  simp only [CL] at h;split at h
  · rename_i ka m hx
    injection h with h;subst h;obtain ⟨b,rfl⟩:=acl h0;refine ⟨anz b,?_,rfl⟩;simp only [FA,m9 hE hx];rfl
  cases h
theorem AH {esz:Nat} {x:fE} {lo hi mx:Option fE} {l h m:Option Nat} {v:PV} (he:uP esz (x.ev pe)=anB) (h1:FA pe lo=anz l) (h2:FA pe hi=anz h) (h3:FA pe mx=anz m) (hv:qU (x.ev pe) l h m=anz v):
 bE pe ps z (.Ru esz x lo hi mx)=anz {v:=v}:=by
 have e:bE pe ps z (.Ru esz x lo hi mx)=(match FA pe lo,FA pe hi,FA pe mx with|some l,anz h,anz m=>(qU (x.ev pe) l h m).map fun v=>({v}:nU)|_,_,_=>anA):=by
  simp only [bE,he,alt,PP,if_false];rfl
 rw [e,h1,h2,h3];simp only [hv];rfl
theorem FB {α:Type} {l r:List α} {lo hi:Int} (h:fW l lo hi=anz r): ∃a b:Nat,lo=afF a/\hi=afF b/\a<=b/\b<=anx l/\r=(l.drop a).take (b-a):=by
 unfold fW at h;split at h
 · rename_i hc
   obtain ⟨a,rfl⟩:=acl hc.1;obtain ⟨b,rfl⟩:=acl (agx hc.1 hc.2.1);injection h with h;exact ⟨a,b,rfl,rfl,by omega,by omega,by rw [<- h];simp⟩
 cases h
theorem Ju (hE:dU s e pe) (hS:cJ s ps) {esz t off len cap:Nat} {ex:Bool} {x:fE} {lo hi mx:Option fE} (hx:x.ev pe= .own t esz off len cap ex) (db:zT s t esz) (h:Of e t off len cap ex lo hi mx k ρ w=anz y):
 gM s ps (bE pe ps z (.Ru esz x lo hi mx)) k ρ w y:=by
 unfold Of at h;obtain ⟨a,ha,h⟩:=bK h;obtain ⟨b,hb,h⟩:=bK h;have he:uP esz (x.ev pe)=anB:=by rw [hx];simp [uP]
 cases mx with
 |none=>
  obtain ⟨hc,h⟩:=ir h;simp only [v6,decide_eq_true_eq] at hc;obtain ⟨⟨c1,c2⟩,c3⟩:=hc;obtain ⟨l,h1,h2⟩:=vo hE (n:=0) ha rfl c1;obtain ⟨u,h3,h4⟩:=vo hE (n:=len) hb rfl (agx c1 c2);refine gM.val hS h (AH he h1 h3 (m:=anA) rfl ?_) ⟨esz,rfl,db⟩;rw [hx];have c4:(M2 a.toNat b.toNat&&M2 b.toNat cap)=anB:=by
   have c3':b<=(cap:Int):=c3
   simp;omega
  simp only [qU,h2,h4,c4,if_true]
 |some mo=>
  dsimp only at h;generalize hm:bW e mo=vm at h;cases vm with
  |int km c=>
   obtain ⟨hc,h⟩:=ir h;simp only [v6,decide_eq_true_eq] at hc;obtain ⟨⟨⟨c1,c2⟩,c3⟩,c4⟩:=hc;obtain ⟨l,h1,h2⟩:=vo hE (n:=0) ha rfl c1;obtain ⟨u,h3,h4⟩:=vo hE (n:=len) hb rfl (agx c1 c2);have E9:0<=c:=agx (agx c1 c2) c3;obtain ⟨c,rfl⟩:=acl E9
   refine gM.val hS h (AH he h1 h3 (m:=anz c) (by simp only [FA,m9 hE hm];rfl) ?_) ⟨esz,rfl,db⟩
   rw [hx];have c5:(M2 a.toNat b.toNat&&M2 b.toNat c&&M2 c cap)=anB:=by
    have c4':(c:Int)<=(cap:Int):=c4
    simp;omega
   simp only [qU,h2,h4,c5,if_true];rfl
  |_=>cases h
theorem XY (hE:dU s e pe) (hS:cJ s ps) {esz:Nat} {x:fE} {lo hi mx:Option fE} (h:my e s z (.Ru esz x lo hi mx) k ρ w=anz y):gM s ps (bE pe ps z (.Ru esz x lo hi mx)) k ρ w y:=by
 simp only [my] at h;have hx:=dJ hE x;unfold ao1 at h;generalize bW e x=v at h hx;cases v with
 |sl r l=>
  cases mx with
  |some _=>cases h
  |none=>
   dsimp only at h;obtain ⟨he,h⟩:=cU h;have he:=ut he;obtain ⟨a,ha,h⟩:=bK h;obtain ⟨b,hb,h⟩:=bK h;obtain ⟨m,hm,hk⟩:=cN h;obtain ⟨n1,n2,rfl,rfl,c1,c2,rfl⟩:=FB hm;obtain ⟨u1,h1,h2⟩:=vo hE (n:=0) ha rfl (by simp)
   obtain ⟨u2,h3,h4⟩:=vo hE (n:=anx l) hb rfl (by simp)
   have hx':x.ev pe= .sl (anx r) anC (l.map (RT.pv r)):=hx;subst he;refine gM.val hS (p:= .sl (anx r) anC ((((l.drop n1).take (n2-n1))).map (RT.pv r))) hk (AH (m:=anA) (by rw [hx'];simp [uP]) h1 h3 rfl ?_) rfl
   rw [hx'];have Sb:u1.getD 0=n1:=by rw [h2];rfl
   have h4':u2.getD (l.map (RT.pv r)).length=n2:=by rw [af6,h4];rfl
   have c3:(M2 n1 n2&&M2 n2 (l.map (RT.pv r)).length)=anB:=by simp [c1,c2]
   simp only [qU,Sb,h4',c3,if_true,Bool.false_and,afh,afS]
 |own t ex=>
  simp only [cw] at h;generalize ck:s[t]? =b at h;cases b with
  |none=>cases h
  |some b=>
   cases b with
   |arr r l=>
    dsimp only at h;obtain ⟨he,hk⟩:=cU h;have he:=ut he;obtain ⟨e',n',hx,db⟩:=hx;obtain ⟨rfl,rfl⟩:=db.inv ck;subst he;have D0:zT s t (anx r):= .inl ⟨r,l,ck,rfl⟩;have gen:Of e t 0 (anx l) (anx l) ex lo hi mx k ρ w=anz y->gM s ps (bE pe ps z (.Ru (anx r) x lo hi mx)) k ρ w y:=fun h=>Ju hE hS hx D0 h
    have he:uP (anx r) (x.ev pe)=anB:=by rw [hx];simp [uP]
    cases mx with
    |some m=>cases lo<;>cases hi<;>exact gen hk
    |none=>
     cases lo with
     |some _=>cases hi<;>exact gen hk
     |none=>
      cases hi with
      |none=>
       refine gM.val hS hk (AH (l:=anA) (h:=anA) (m:=anA) he rfl rfl rfl ?_) ⟨anx r,anx l,rfl,db⟩;rw [hx];simp [qU]
      |some ho=>
       dsimp only at hk;generalize hh:bW e ho=vh at hk;cases vh with
       |int kh b=>
        obtain ⟨m,hm,hk⟩:=cN hk;obtain ⟨n1,n2,h0,rfl,c1,c2,rfl⟩:=FB hm;refine gM.val hS hk (AH (l:=anA) (h:=anz n2) (m:=anA) he rfl (by simp only [FA,m9 hE hh];rfl) rfl ?_) ⟨anx r,rfl,D0⟩
        rw [hx];have c3:(M2 0 n2&&M2 n2 (anx l))=anB:=by simp [c2]
        simp only [qU,agO,an4,c3,if_true];rfl
       |_=>cases hk
   |_=>cases h
 |pre t len cap ex=>
  simp only [cw] at h;generalize ck:s[t]? =b at h;cases b with
  |none=>cases h
  |some b=>
   cases b with
   |arr r l=>
    dsimp only at h;obtain ⟨he,hk⟩:=cU h;have he:=ut he;obtain ⟨e',hx,db⟩:=hx
    have:=db.inv ck
    subst this;subst he;have gen:Of e t 0 len cap ex lo hi mx k ρ w=anz y->gM s ps (bE pe ps z (.Ru (anx r) x lo hi mx)) k ρ w y:=fun h=>Ju hE hS hx db h
    have he:uP (anx r) (x.ev pe)=anB:=by rw [hx];simp [uP]
    cases mx with
    |some m=>cases lo<;>cases hi<;>exact gen hk
    |none=>
     cases lo with
     |some _=>cases hi<;>exact gen hk
     |none=>
      cases hi with
      |none=>
       obtain ⟨hlc,hk⟩:=ir hk;refine gM.val hS hk (AH (l:=anA) (h:=anA) (m:=anA) he rfl rfl rfl ?_) ⟨anx r,rfl,db⟩;rw [hx];have c3:(M2 0 len&&M2 len cap)=anB:=by simp [hlc]
       simp only [qU,agO,c3,if_true];simp
      |some ho=>
       dsimp only at hk;generalize hh:bW e ho=vh at hk;cases vh with
       |int kh b=>
        obtain ⟨hc,hk⟩:=ir hk;simp only [v6,decide_eq_true_eq] at hc;obtain ⟨c1,c2⟩:=hc;obtain ⟨b,rfl⟩:=acl c1;refine gM.val hS hk (AH (l:=anA) (h:=anz b) (m:=anA) he rfl (by simp only [FA,m9 hE hh];rfl) rfl ?_) ⟨anx r,rfl,db⟩
        rw [hx];have c3:(M2 0 b&&M2 b cap)=anB:=by
         have c2':(b:Int)<=(cap:Int):=c2
         simp;omega
        simp only [qU,agO,an4,c3,if_true];rfl
       |_=>cases hk
   |_=>cases h
 |part t off len cap ex=>
  simp only [cw] at h;generalize ck:s[t]? =b at h;cases b with
  |none=>cases h
  |some b=>
   cases b with
   |arr r l=>
    dsimp only at h;obtain ⟨he,hk⟩:=cU h;have he:=ut he;obtain ⟨e',hx,db⟩:=hx
    have:=db.inv ck
    subst this;subst he;exact Ju hE hS hx db hk
   |_=>cases h
 |_=>cases h
theorem mD {b:SB}:(s++[b])[anx s]? =anz b:=by simp
theorem eY: ∀{v:PV} {p:PT},fX v=anz p->p.pv p.zero=v
 | .int k n,p,h=>by
  simp only [fX] at h;split at h
  · injection h with h;subst h;rfl
  cases h
 | .bool b,p,h=>by
  simp only [fX] at h;split at h
  · injection h with h;subst h;rfl
  cases h
 | .undef,_,h| .jB,_,h| .str _,_,h| .agg _,_,h| .cq _,_,h| .sl _ _ _,_,h| .own _ _ _ _ _ _,_,h| .ptr _ _ _ _,_,h| .bH _ _,_,h| .mp _,_,h| .eI _ _ _,_,h| .dR,_,h=>by cases h
theorem BH : ∀ {l : List PV} {r : List PT}, Fm l = anz r -> RT.pv r (RT.zero r) = l
  | [], r, h => by injection h with h; subst h; rfl
  | v :: vs, r, h => by
    simp only [Fm] at h
    split at h
    · rename_i p q h1 h2
      injection h with h; subst h
      have e1 := eY h1
      have e2 := BH h2
      cases q with
      | nil =>
        have : vs = [] := by
          cases vs with
          | nil => rfl
          | cons a b => simp only [RT.pv] at e2; cases e2
        subst this
        show [p.pv p.zero] = _
        rw [e1]
      | cons p2 q2 =>
        show p.pv p.zero :: RT.pv (p2 :: q2) (RT.zero (p2 :: q2)) = _
        rw [e1, e2]
    cases h
theorem XZ (hE:dU s e pe) (hS:cJ s ps) {esz:Nat} {zero:Row} {l c:fE} (h:my e s z (.mks esz zero l c) k ρ w=anz y):gM s ps (bE pe ps z (.mks esz zero l c)) k ρ w y:=by
 simp only [my] at h;generalize hl:bW e l=vl at h;cases vl with
 |int kl n=>
  generalize hc:bW e c=vc at h;cases vc with
  |int kc m=>
   obtain ⟨hnm,h1⟩:=ir h;obtain ⟨r,hr,h2⟩:=bK h1;obtain ⟨he,h3⟩:=cU h2;obtain ⟨x,hx,hk⟩:=cN h3;have hnm:n=m:=by simpa using hnm
   subst hnm;have he:=ut he;subst he;unfold xj at hx;split at hx
   · rename_i CA
     injection hx with hx;subst hx;obtain ⟨a,rfl⟩:=acl CA.1;have h1:(M2 a a&&M2 a eN)=anB:=by simp [eN];omega
     refine ⟨_,_,?_,Good.new hS (b:= .arr r (aff (afF a).toNat (RT.zero r))) (q:= .arr (anx r) (aff a zero)) (v:= .own (anx s) anB) (p:= .own (anx s) (anx r) 0 a a anB) (rd:=[]) ?_ ?_,hk⟩
     · have e1:jZ (.int kl (a:Int))=anz a:=rfl
       have e2:jZ (.int kc (a:Int))=anz a:=rfl;simp only [bE,m9 hE hl,m9 hE hc,e1,e2];rw [pp h1,hS.len]
     · show _=_
       simp [BH hr]
     exact ⟨anx r,a,rfl,.inl ⟨r,_,mD,rfl,by simp⟩⟩
   cases hx
  |_=>cases h
 |_=>cases h
def vZ {α:Type}:List α->List (Nat×α)->List α
 |l,[]=>l
 |l,(i,a)::r=>vZ (l.set i a) r
theorem FC {α : Type} : ∀ (q : List (Nat × α)) (l : List α) (i : Nat), (vZ l q)[i]? = (l[i]?).map fun z => rowAt i z q
  | [], l, i => by simp [vZ, rowAt]
  | (j, a) :: q, l, i => by
    simp only [vZ, rowAt]
    rw [FC q (l.set j a) i, IR]
    by_cases Xm : j = i
    · subst Xm
      cases hl : l[j]? with
      | none =>
        have : ¬ j < (anx l) := by intro h; rw [F0s h] at hl; cases hl
        simp [this]
      | some z =>
        have : j < (anx l) := (ww.1 hl).1
        simp [this]
    have : NE j i = anC := by
      cases hb : NE j i with
      | false => rfl
      | true => exact absurd (ut hb) Xm
    simp [Xm, this]
theorem LD {α:Type} (f:Nat->α): ∀(n i j:Nat),(Jm f i n)[j]? =if j<n then anz (f (i+j)) else anA
 |0,i,j=>by simp [Jm]
 |n+1,i,0=>by simp [Jm]
 |n+1,i,j+1=>by
  simp only [Jm,afm];rw [LD f n (i+1) j,show i+1+j=i+(j+1) by omega]
  by_cases h:j<n
  · simp [h]
  simp [h]
theorem FD {α:Type} (z:α) (n:Nat) (q:List (Nat×α)):vZ (aff n z) q=Jm (fun i=>rowAt i z q) 0 n:=by
 apply amW;intro i;rw [FC,LD]
 by_cases h:i<n
 · simp [h]
 simp [h]
theorem FE (hE:dU s e pe) {r:List PT} {n:Nat}: ∀{parts:List (Nat×fE)} {q:List (Nat×RT r)} {l:List (RT r)},P9 r e n parts=anz q->anx l=n->
 qk (parts.map fun p=>(p.1,p.2.ev pe)) (l.map (RT.pv r)) (anx r)=anz ((vZ l q).map (RT.pv r))
 | [],q,l,h,hl=>by injection h with h;subst h;rfl
 |p::parts,q,l,h,hl=>by
  simp only [P9] at h;split at h
  · rename_i a q' h1 h2
    cases hb:aks p.1 n with
    |false=>rw [hb] at h;cases h
    |true=>
     rw [hb] at h;injection h with h;subst h;have hp:=((dJ hE p.2).ofRow h1).1;simp only [af7,qk,hp,RT.vV,af6,hl,hb,afb,afa,if_true,vZ];rw [<- am9];exact FE hE h2 (by simp [hl])
  cases h
theorem Sh (hE:dU s e pe) (hS:cJ s ps) {esz n:Nat} {zero:Row} {parts:List (Nat×fE)} (h:my e s z (.A' esz n zero parts) k ρ w=anz y):gM s ps (bE pe ps z (.A' esz n zero parts)) k ρ w y:=by
 simp only [my] at h;obtain ⟨r,hr,h1⟩:=bK h;obtain ⟨he,h2⟩:=cU h1;obtain ⟨q,hq,hk⟩:=bK h2;have he:=ut he;subst he;have hf:=FE hE (l:=aff n (RT.zero r)) hq (by simp)
 rw [FD] at hf;have hz:(aff n (RT.zero r)).map (RT.pv r)=aff n zero:=by simp [BH hr]
 rw [hz] at hf;refine ⟨_,_,?_,Good.new hS (b:= .arr r (Jm (fun i=>rowAt i (RT.zero r) q) 0 n)) (q:= .arr (anx r) ((Jm (fun i=>rowAt i (RT.zero r) q) 0 n).map (RT.pv r))) (v:= .own (anx s) anB) (p:= .own (anx s) (anx r) 0 n n anB) (rd:=[]) rfl ?_,hk⟩
 · simp only [bE,hf,hS.len]
   rfl
 refine ⟨anx r,n,rfl,.inl ⟨r,_,mD,rfl,?_⟩⟩
 rw [<- FD]
 have: ∀(q:List (Nat×RT r)) (l:List (RT r)),(vZ l q).length=(anx l):=by
  intro q
  induction q with
  |nil=>intro l;rfl
  |cons p q ih=>intro l;simp [vZ,ih]
 rw [this];simp
theorem Ql: ∀{cs:List SV} {q:List PV} {l:List Int},RL s cs q->P' cs=anz l->q=l.map (.int .i64)
 | [],q,l,h,hi=>by injection hi with hi;subst hi;exact h
 |x::xs,q,l,h,hi=>by
  obtain ⟨p,q,rfl,h1,h2⟩:=h.cons_inv;simp only [P'] at hi;split at hi
  · rename_i n l' hx
    injection hi with hi;subst hi;rw [show p= .int .i64 n from h1,Ql h2 hx];rfl
  cases hi
theorem UN {v:SV} {p:PV} {n:Option Nat} {l:List Int} (h:R s v p) (hk:XE n v=anz l):p=tc l/\jC n (tc l)=anB/\(tc l).cI=anz (tc l).cells/\(tc l).cells=l.map (.int .i64)/\(n=anA->anx l=1)/\(∀m,n=anz m->anx l=m/\m≠1):=by
 cases n with
 |none=>
  cases v with
  |int kk a=>
   cases kk with
   |i64=>
    injection hk with hk;subst hk;exact ⟨h,rfl,rfl,rfl,fun _=>rfl,fun m hm=>by cases hm⟩
   |_=>cases hk
  |_=>cases hk
 |some m=>
  cases v with
  |agg cs=>
   simp only [XE] at hk;cases hc:(NE (anx cs) m&&!Nat.beq m 1) with
   |false=>rw [hc] at hk;cases hk
   |true=>
    rw [hc] at hk;simp only [lw] at hk;simp only [v6,agG,ae9] at hc;obtain ⟨c1,c2⟩:=hc;obtain ⟨q,rfl,hq⟩:=h;have PG:=Ql hq hk;have cT:(anx l)=m:=by have:=hq.mY;rw [PG] at this;simp at this;omega
    have hm1:m≠1:=by intro e;subst e;cases c2
    have Tm:tc l= .agg (l.map (.int .i64)):=by
     unfold tc;split
     · simp at cT;omega
     rfl
    refine ⟨by rw [Tm,PG],by rw [Tm];simp [jC,cT],?_,by rw [Tm];rfl,(fun h=>(by cases h)),fun m' hm=>by injection hm with hm;subst hm;exact ⟨cT,hm1⟩⟩
    rw [Tm];unfold PV.cI;rw [pp];simp [PV.cells,PV.plain]
  |_=>cases hk
theorem v7: ∀(a b:List Int),anx a=anx b->dC (a.map (.int .i64)) (b.map (.int .i64))=anz (a==b)
 | [],[],_=>rfl
 |x::a,y::b,h=>by
  have ih:=v7 a b (by simpa using h)
  simp only [af7,dC,qT,LB,if_true];cases Xd:x==y with
  |true=>simp only [ih];simp [am1,Xd]
  |false=>simp [am1,Xd]
 | [],_::_,h=>by simp at h
 |_::_,[],h=>by simp at h
theorem CR {n : Option Nat} {a : List Int} (ha : (tc a).cells = a.map (.int .i64)) (hn : (n = anA -> (anx a) = 1) /\ (∀ m, n = anz m -> (anx a) = m /\ m ≠ 1)) : ∀ (l : List (List Int)) (i : Nat), (∀ r, fy n (tc a) (l.map BD) i = anz r -> (match r with | none => D3 l a = anC | some j => i <= j /\ D3 l a = anB /\ l[j - i]? = anz a))
  | [], i, r, h => by
    simp only [amY, fy, EQ] at h
    subst h; rfl
  | b :: l, i, r, h => by
    simp only [af7, BD, fy] at h
    split at h
    · rename_i hk
      have hb : (tc b).cells = b.map (.int .i64) /\ (anx a) = (anx b) := by
        cases n with
        | none =>
          have hl := hn.1 rfl
          unfold tc at hk ⊢
          split at hk
          · exact ⟨rfl, by simpa using hl⟩
          cases hk
        | some m =>
          obtain ⟨hl, hm⟩ := hn.2 m rfl
          unfold tc at hk ⊢
          split at hk
          · cases hk
          simp only [jC, af6, agG] at hk
          exact ⟨rfl, by omega⟩
      rw [ha, hb.1, v7 a b hb.2] at h
      cases RG : a == b with
      | true =>
        rw [RG] at h
        injection h with h; subst h
        have : a = b := by simpa using RG
        subst this
        exact ⟨akr _, by simp [D3], by simp⟩
      | false =>
        rw [RG] at h
        have := CR ha hn l (i + 1) r h
        cases r with
        | none => simpa [D3, RG] using this
        | some j =>
          obtain ⟨h1, h2, h3⟩ := this
          refine ⟨by omega, by simp only [D3] at h2; simp [D3, h2], ?_⟩
          rw [show j - i = (j - (i + 1)) + 1 by omega]; simpa using h3
    cases h
theorem BI {n:Option Nat} {a:List Int} (ha:(tc a).cells=a.map (.int .i64)) (hn:(n=anA->anx a=1)/\(∀m,n=anz m->anx a=m/\m≠1)) {l:List (List Int)} (hl:l.all (fun b=>jC n (tc b))=anB): ∀i,∃r,fy n (tc a) (l.map BD) i=anz r:=by
 induction l with
 |nil=>intro i;exact ⟨anA,rfl⟩
 |cons b l ih=>
  intro i;simp only [aku,v6] at hl;obtain ⟨r,hr⟩:=ih hl.2 (i+1);simp only [af7,BD,fy,hl.1,if_true];have hb:(tc b).cells=b.map (.int .i64)/\anx a=(anx b):=by
   have hk:=hl.1;cases n with
   |none=>
    have mA:=hn.1 rfl;unfold tc at hk ⊢;split at hk
    · exact ⟨rfl,by simpa using mA⟩
    cases hk
   |some m=>
    obtain ⟨mA,hm⟩:=hn.2 m rfl;unfold tc at hk ⊢;split at hk
    · cases hk
    simp only [jC,af6,agG] at hk
    exact ⟨rfl,by omega⟩
  rw [ha,hb.1,v7 a b hb.2];cases RG:a==b with
  |true=>exact ⟨anz i,rfl⟩
  |false=>exact ⟨r,hr⟩
theorem DA {n:Option Nat} {a:List Int} (hn:(n=anA->anx a=1)/\(∀m,n=anz m->anx a=m/\m≠1)) {l:List (List Int)} (hl: ∀b∈l,anx b=anx a):l.all (fun b=>jC n (tc b))=anB:=by
 rw [afj];intro b hb;have cT:=hl b hb;cases n with
 |none=>
  have h1:=hn.1 rfl;rw [h1] at cT
  match b,cT with
  | [x],_=>rfl
 |some m=>
  obtain ⟨h1,h2⟩:=hn.2 m rfl;unfold tc;split
  · rename_i x;simp at cT;omega
  simp [jC];omega
theorem BJ {a:List Int} {l:List (List Int)} (h:oh a l=anB): ∀b∈l,anx b=(anx a):=by
 intro b hb;exact ut (afj.1 h b hb)
theorem PT.ao7 {s:List SB} {p:PT} {v:SV} {q:PV} {a:p.T} (h:R s v q) (ho:p.of v=anz a):q=p.pv a:=by
 cases p with
 |i k=>
  cases v with
  |int l n=>
   simp only [PT.of] at ho;cases hk:fA l k with
   |false=>rw [hk] at ho;cases ho
   |true=>
    rw [hk] at ho;obtain rfl:=fj.1 hk;injection ho with ho;subst ho;exact h
  |_=>cases ho
 |b=>
  cases v with
  |bool x=>
   injection ho with ho;subst ho;exact h
  |_=>cases ho
theorem FF {β:Type} (g:Int×β->PV×PV) (hg: ∀x,(g x).1= .int .i64 x.1) (k:Int): ∀(l:List (Int×β)) (i:Nat),
 (∃j x,fy anA (.int .i64 k) (l.map g) i=anz (anz (i+j))/\l[j]? =anz x/\(∀z,qA z l k=x.2)/\ ∀a,o3 l k a=l.set j (k,a))\/
 (fy anA (.int .i64 k) (l.map g) i=anz anA/\(∀z,qA z l k=z)/\ ∀a,o3 l k a=l++[(k,a)])
 | [],i=> .inr ⟨rfl,fun _=>rfl,fun _=>rfl⟩
 |x::l,i=>by
  have hk:jC anA (g x).1=anB:=by rw [hg];rfl
  have he:dC (PV.int .i64 k).cells (g x).1.cells=anz (k==x.1):=by
   rw [hg];show dC [.int .i64 k] [.int .i64 x.1]=_;simp only [dC,qT,fA,if_true];cases k==x.1<;>rfl
  have hf:fy anA (.int .i64 k) ((x::l).map g) i=(match anz (k==x.1) with
   |some anB=>anz (anz i)
   |some anC=>fy anA (.int .i64 k) (l.map g) (i+1)
   |none=>anA):=by
   rw [af7];show (if jC anA (g x).1 then _ else anA)=_
   rw [pp hk,he];cases k==x.1<;>rfl
  cases hb:k==x.1 with
  |true=>
   rw [hb] at hf;exact .inl ⟨0,x,hf,rfl,fun z=>by simp only [qA,hb,lw],fun a=>by simp only [o3,hb,lw,List.set_cons_zero]⟩
  |false=>
   rw [hb] at hf;rcases FF g hg k l (i+1) with ⟨j,y,h1,h2,h3,h4⟩|⟨h1,h2,h3⟩
   · refine .inl ⟨j+1,y,?_,by simpa using h2,fun z=>?_,fun a=>?_⟩
     · rw [hf];show fy anA (.int .i64 k) (l.map g) (i+1)=_
       rw [h1,show i+1+j=i+(j+1) by omega]
     · simp only [qA,hb,ol,h3]
     simp only [o3,hb,ol,h4,List.set_cons_succ]
   exact .inr ⟨hf.trans h1,fun z=>by simp only [qA,hb,ol,h2],fun a=>by simp only [o3,hb,ol,h3,agS]⟩
theorem FG (p:PT) (k:Int) (l:List (RT [.i .i64,p])):
 (∃(j:Nat) (x:RT [.i .i64,p]),fy anA (.int .i64 k) (l.map (D4 p)) 0=anz (anz j)/\l[j]? =anz x/\(∀z,p.get z l k=x.2)/\ ∀a,p.put l k a=l.set j (k,a))\/
 (fy anA (.int .i64 k) (l.map (D4 p)) 0=anz anA/\(∀z,p.get z l k=z)/\ ∀a,p.put l k a=l++[(k,a)]):=by
 cases p with
 |i d=>
  rcases FF (β:=Int) (D4 (.i d)) (fun _=>rfl) k l 0 with ⟨j,x,h1,h2,h3,h4⟩|h
  · exact .inl ⟨j,x,by rw [h1,agb],h2,h3,h4⟩
  exact .inr h
 |b=>
  rcases FF (β:=Bool) (D4 .b) (fun _=>rfl) k l 0 with ⟨j,x,h1,h2,h3,h4⟩|h
  · exact .inl ⟨j,x,by rw [h1,agb],h2,h3,h4⟩
  exact .inr h
theorem PT.atO {s:List SB} (p:PT) (a:p.T):R s (p.sv a) (p.pv a):=by cases p<;>rfl
theorem PT.LF (p:PT) (a:p.T):(p.pv a).cI=anz [p.pv a]:=by cases p<;>rfl
theorem Oy (hE:dU s e pe) (hS:cJ s ps) {n:Option Nat} {zero:PV} {ok:Bool} {m q:fE} (h:my e s z (.lookup n zero ok m q) k ρ w=anz y):gM s ps (bE pe ps z (.lookup n zero ok m q)) k ρ w y:=by
 simp only [my] at h;have hx:=dJ hE m;generalize bW e m=v at h hx;cases v with
 |mp t=>
  simp only [cw] at h;generalize ck:s[t]? =b at h;cases b with
  |none=>cases h
  |some b=>
   cases b with
   |set l=>
    dsimp only at h;unfold Qb at h;cases zero with
    |bool b=>
     cases b with
     |true=>cases h
     |false=>
      cases ok with
      |true=>cases h
      |false=>
       obtain ⟨a,ha,h1⟩:=bK h;obtain ⟨b,hb,hk⟩:=cN h1;obtain ⟨k1,k2,k3,k4,k5⟩:=UN (dJ hE q) ha;unfold Lq at hb;cases vj:oh a l with
       |false=>rw [vj] at hb;cases hb
       |true=>
        rw [vj] at hb;injection hb with hb;subst hb;obtain ⟨r,hr⟩:=BI k4 k5 (DA k5 (BJ vj)) 0;have hf:=CR k4 k5 l 0 r hr;refine gM.rd hS hk ?_ rfl;show te ps n (.bool anC) anC (m.ev pe) (q.ev pe)=_;rw [show m.ev pe=_ from hx,k1];simp only [te,hS.ao5 ck,k2,if_true,hr];cases r with
        |none=>simp only at hf;simp [hf]
        |some j=>
         obtain ⟨_,h2,h3⟩:=hf
         have:(l.map BD)[j]? =anz (BD a):=by simp at h3;simp [h3]
         simp [this,h2,BD]
    |_=>cases h
   |aO p l=>
    dsimp only at h;unfold Qc at h;cases n with
    |some _=>cases h
    |none=>
     cases ok with
     |true=>cases h
     |false=>
      have hq:=dJ hE q;generalize bW e q=u at h hq;cases u with
      |int d a=>
       cases d with
       |i64=>
        obtain ⟨zv,hz,hk⟩:=bK h;have ao8:=PT.ao7 (Ov s zero) hz;refine gM.rd hS hk ?_ (PT.atO p _);show te ps anA zero anC (m.ev pe) (q.ev pe)=_;rw [show m.ev pe=_ from hx,show q.ev pe=_ from hq];rcases FG p a l with ⟨j,x,h1,h2,h3,_⟩|⟨h1,h2,_⟩
        · have h5:(l.map (D4 p))[j]? =anz (D4 p x):=by simp [h2]
          simp only [te,hS.XW ck,jC,if_true,h1,h5,h3,D4,PP,if_false]
        simp only [te,hS.XW ck,jC,if_true,h1,h2,ao8,PP,if_false]
       |_=>cases h
      |_=>cases h
   |_=>cases h
 |_=>cases h
theorem UO (hE:dU s e pe) (hS:cJ s ps) {n:Option Nat} {m q x:fE} (h:my e s z (.IM n m q x) k ρ w=anz y):gM s ps (bE pe ps z (.IM n m q x)) k ρ w y:=by
 simp only [my] at h;have hx:=dJ hE m;generalize bW e m=v at h hx;cases v with
 |mp t=>
  simp only [cw] at h;generalize ck:s[t]? =b at h;cases b with
  |none=>cases h
  |some b=>
   cases b with
   |set l=>
    obtain ⟨hz,h0⟩:=rW h;unfold Ur at h0;have hv:=dJ hE x;generalize bW e x=u at h0 hv;cases u with
    |bool b=>
     cases b with
     |false=>cases h0
     |true=>
      obtain ⟨a,ha,h1⟩:=bK h0;obtain ⟨b,hb,hk⟩:=cN h1;obtain ⟨k1,k2,k3,k4,k5⟩:=UN (dJ hE q) ha;unfold Lr at hb;cases vj:oh a l with
      |false=>rw [vj] at hb;cases hb
      |true=>
       rw [vj] at hb;injection hb with hb;subst hb;obtain ⟨r,hr⟩:=BI k4 k5 (DA k5 (BJ vj)) 0;have hf:=CR k4 k5 l 0 r hr;refine ⟨_,_,?_,Good.UD hS (b:= .set (Od l a)) (q:= .map ((Od l a).map BD)) (rd:=[]) ck trivial rfl,hk⟩;show Dl ps z n (m.ev pe) (q.ev pe) (x.ev pe)=_;rw [show m.ev pe=_ from hx,k1,show x.ev pe= .bool anB from hv]
       have p2:(PV.bool anB).cI=anz [.bool anB]:=rfl;simp only [Dl,hS.ao5 ck,k2,hz,afI,afa,if_true,k3,p2,hr];cases r with
       |none=>simp only at hf;simp [Od,hf,BD]
       |some j=>
        obtain ⟨_,h2,h3⟩:=hf;have h5:l[j]? =anz a:=by simpa using h3
        have:(l.map BD).set j (tc a,.bool anB)=l.map BD:=by
         apply amW;intro i;rw [IR];split
         · rename_i lg
           subst lg;have dI:=(ww.1 h5).1;have h6:l[j]=a:=(ww.1 h5).2;simp [dI,h6,BD]
         rfl
        simp [Od,h2,this]
    |_=>cases h0
   |aO p l=>
    obtain ⟨hz,h0⟩:=rW h;unfold Us at h0;cases n with
    |some _=>cases h0
    |none=>
     have hq:=dJ hE q;generalize bW e q=u at h0 hq;cases u with
     |int d a=>
      cases d with
      |i64=>
       obtain ⟨xv,hxv,hk⟩:=bK h0;have Si:=PT.ao7 (dJ hE x) hxv;refine ⟨_,_,?_,Good.UD hS (b:= .aO p (p.put l a xv)) (q:= .map ((p.put l a xv).map (D4 p))) (rd:=[]) ck trivial rfl,hk⟩;show Dl ps z anA (m.ev pe) (q.ev pe) (x.ev pe)=_;rw [show m.ev pe=_ from hx,show q.ev pe=_ from hq,Si];have p1:(PV.int .i64 a).cI=anz [.int .i64 a]:=rfl
       rcases FG p a l with ⟨j,x,h1,_,_,h3⟩|⟨h1,_,h3⟩
       · simp only [Dl,hS.XW ck,jC,hz,afI,afa,if_true,p1,PT.LF,h1,h3,am9,D4]
       simp only [Dl,hS.XW ck,jC,hz,afI,afa,if_true,p1,PT.LF,h1,h3,afo,af7,amY,D4]
      |_=>cases h0
     |_=>cases h0
   |_=>cases h
 |_=>cases h
theorem zT.fr' {s s':List SB} {bad:List Nat} {t e:Nat} (h:zT s t e) (hf:Fr bad s s'):zT s' t e:=by
 rcases h with ⟨r,l,h1,h2⟩|h1|⟨cs,h1,h2⟩
 · rcases hf t _ h1 with ⟨l',k1,_,_⟩|k1
   · exact .inl ⟨r,l',k1,h2⟩
   exact .inr (.inl k1)
 · exact .inr (.inl (hf t _ h1))
 rcases hf t _ h1 with ⟨c2,k1⟩|k1
 · exact .inr (.inr ⟨c2,k1,h2⟩)
 exact .inr (.inl k1)
theorem AI {α:Type} {l r:List α} (h:bP l=anz r):r=l/\anx l<=1048576:=by
 unfold bP at h;split at h
 · injection h with h;exact ⟨h.symm,by assumption⟩
 cases h
theorem x6 {α:Type} {l m r:List α} (h:bq l m=anz r):r=l++m/\anx l+anx m<=1048576:=by
 unfold bq at h;split at h
 · injection h with h;exact ⟨h.symm,by assumption⟩
 cases h
theorem tC: ∀(m l:List Row) (n:Nat),n+anx m<=anx l->la n m l=eX l n m
 | [],l,n,h=>by simp [la,eX]
 |a::m,l,n,h=>by
  simp only [af2] at h;rw [la,tC m (l.set n a) (n+1) (by simp;omega)]
  unfold eX;rw [List.take_set,List.drop_set];have hn:n<(anx l):=by omega
  have h1: ¬(n+1+anx m<=n):=by omega
  rw [pp (by omega)]
  have:(l.take (n+1)).set n a=l.take n++[a]:=by
   rw [List.take_succ_eq_append_getElem hn,List.set_append_right _ _ (by simp;omega)]
   simp [agX (amo hn)]
  rw [this];simp only [af4,agS,List.nil_append,af2];rw [show n+1+anx m=n+(anx m+1) by omega]
theorem FH {α β:Type} (f:α->β) (l m:List α) (n:Nat):(eX l n m).map f=eX (l.map f) n (m.map f):=by
 simp [eX,afh,afS]
theorem BK {α:Type} (l m:List α) (n:Nat) (h:n+anx m<=anx l):(eX l n m).length=(anx l):=by
 simp [eX];omega
theorem Oz (hE:dU s e pe) (hS:cJ s ps) {esz:Nat} {x yy:fE} (h:my e s z (.append esz x yy) k ρ w=anz y):gM s ps (bE pe ps z (.append esz x yy)) k ρ w y:=by
 simp only [my] at h;have hx:=dJ hE x;have T6:=dJ hE yy;unfold Qa at h;generalize bW e yy=vy at h T6;cases hc:zQ s vy with
 |none=>rw [hc] at h;cases h
 |some cc=>
  obtain ⟨q,m⟩:=cc;rw [hc] at h;dsimp only at h;obtain ⟨he,h⟩:=cU h;have he:=ut he;obtain ⟨A8,CB⟩:=Qj hS T6 hc;rw [he] at A8;have v8:bE pe ps z (.append esz x yy)=iP ps z esz (x.ev pe) (yy.ev pe):=rfl;generalize bW e x=v at h hx;cases v with
  |nil e' c=>
   dsimp only at h;obtain ⟨A7,h⟩:=cU h;obtain ⟨m',CG,hk⟩:=cN h;obtain ⟨rfl,ly⟩:=AI CG;refine ⟨_,_,?_,Good.new hS (b:= .arr q m') (q:= .arr esz (m'.map (RT.pv q))) (v:= .own (anx s) anC) (p:= .own (anx s) esz 0 (anx m') (anx m') anC) (rd:=vT vy) (by rw [<- he];rfl) ⟨esz,anx m',rfl,.inl ⟨q,m',mD,he.symm,rfl⟩⟩,hk⟩
   rw [v8];have atP:c=anB:=A7;subst atP;rw [show x.ev pe= .sl e' anB [] from hx];unfold iP;rw [A8];cases m' with
   |nil=>simp [hS.len,CB]
   |cons a m'=>
    have h2:M2 ((a::m').length) eN=anB:=by simp [eN] at ly ⊢;omega
    simp only [af2] at h2;simp [hS.len,CB,h2]
  |own t ex=>
   dsimp only at h;simp only [cw] at h;generalize ck:s[t]? =b at h;cases b with
   |none=>cases h
   |some b=>
    cases b with
    |arr r l=>
     dsimp only at h;cases UP:sA q r m with
     |none=>rw [UP] at h;cases h
     |some m2=>
      rw [UP] at h;dsimp only at h;obtain ⟨rfl,hmp,Kz⟩:=BC UP;obtain ⟨e',n',hx,db⟩:=hx;obtain ⟨rfl,rfl⟩:=db.inv ck;rw [<- hmp] at A8;have Hi:=hS.arr ck;cases ex with
      |true=>
       dsimp only at h;rcases fk h with ⟨hl,h⟩|⟨hl,h⟩
       · obtain ⟨m',CG,hk⟩:=cN h
         obtain ⟨rfl,ly⟩:=AI CG;have hl:l=[]:=by simpa using hl
         subst hl;refine ⟨_,_,?_,Good.new hS (b:= .arr q m') (q:= .arr (anx q) (m'.map (RT.pv q))) (v:= .own (anx s) anC) (p:= .own (anx s) (anx q) 0 (anx m') (anx m') anC) (rd:=t::vT vy) rfl ⟨anx q,anx m',rfl,.inl ⟨q,m',mD,rfl,rfl⟩⟩,hk⟩;rw [v8,hx];unfold iP;rw [A8];subst he;cases m' with
         |nil=>simp [hS.len,CB]
         |cons a m'=>
          have h2:M2 ((a::m').length) eN=anB:=by simp [eN] at ly ⊢;omega
          simp only [af2] at h2;simp [hS.len,CB,h2,Hi]
       have hl:l≠[]:=by intro e;subst e;cases hl
       have Ky:(anx l)≠0:=by intro e;exact hl (aga.1 e)
       have hb0:NE (anx l) 0=anC:=by
        cases hb:NE (anx l) 0 with
        |false=>rfl
        |true=>exact absurd (ut hb) Ky
       rcases fk h with ⟨hm,h⟩|⟨hm,h⟩
       · have hm:m2=[]:=by simpa using hm
         subst hm;refine gM.rd hS h ?_ ⟨_,_,rfl,db⟩;rw [v8,hx];unfold iP;rw [A8];simp [hb0,CB]
       obtain ⟨l',mA,hk⟩:=cN h
       obtain ⟨rfl,ly⟩:=x6 mA;refine ⟨_,_,?_,Good.new hS (b:= .arr q (l++m2)) (q:= .arr (anx q) ((l++m2).map (RT.pv q))) (v:= .own (anx s) anC) (p:= .own (anx s) (anx q) 0 (l++m2).length (l++m2).length anC) (rd:=t::vT vy) rfl ⟨anx q,(l++m2).length,rfl,.inl ⟨q,l++m2,mD,rfl,rfl⟩⟩,hk⟩;rw [v8,hx];unfold iP;rw [A8];subst he;cases m2 with
       |nil=>cases hm
       |cons a m2=>
        have h2:M2 (anx l+(a::m2).length) eN=anB:=by simp [eN] at ly ⊢;omega
        have h3:M2 (anx l+(anx m2+1)) (anx l)=anC:=by
         cases hb:M2 (anx l+(anx m2+1)) (anx l) with
         |false=>rfl
         |true=>have:=UV hb;omega
        simp only [af2] at h2;simp [hS.len,CB,h2,h3,Hi,afi]
      |false=>
       dsimp only at h;rcases fk h with ⟨hm,h⟩|⟨hm,h⟩
       · have hm:m2=[]:=by simpa using hm
         subst hm;refine gM.rd hS h ?_ ⟨_,_,rfl,db⟩;rw [v8,hx];unfold iP;rw [A8];simp [CB]
       obtain ⟨hz,h⟩:=rW h
       obtain ⟨l',mA,hk⟩:=cN h;obtain ⟨rfl,ly⟩:=x6 mA;have cT:(Cm [t] (s.set t .dead)).length=(anx s):=by rw [vX];simp
       refine ⟨_,_,?_,Good.put hS (b:= .dead) (q:= .dead) (l:=[.arr q (l++m2)]) (ql:=[.arr (anx q) ((l++m2).map (RT.pv q))]) (v:= .own (anx s) anC) (p:= .own (anx s) (anx q) 0 (l++m2).length (l++m2).length anC) (rd:=vT vy) ck (.inr rfl) rfl rfl
        (fun j b hj=>by
         cases j with
         |zero=>simp at hj;subst hj;exact ⟨_,rfl,rfl⟩
         |succ j=>simp at hj)
        ⟨anx q,(l++m2).length,rfl,.inl ⟨q,l++m2,by rw [<- cT];exact mD,rfl,rfl⟩⟩,hk⟩
       rw [v8,hx];unfold iP;rw [A8];subst he;cases m2 with
       |nil=>cases hm
       |cons a m2=>
        have h2:M2 (anx l+(a::m2).length) eN=anB:=by simp [eN] at ly ⊢;omega
        have h3:M2 (anx l+(anx m2+1)) (anx l)=anC:=by
         cases hb:M2 (anx l+(anx m2+1)) (anx l) with
         |false=>rfl
         |true=>have:=UV hb;omega
        simp only [af2] at h2;simp [hS.len,CB,h2,h3,Hi,hz,afi]
    |_=>cases h
  |pre t len cap ex=>
   dsimp only at h;simp only [cw] at h;generalize ck:s[t]? =b at h;cases b with
   |none=>cases h
   |some b=>
    cases b with
    |arr r l=>
     dsimp only at h;cases UP:sA q r m with
     |none=>rw [UP] at h;cases h
     |some m2=>
      rw [UP] at h;dsimp only at h;obtain ⟨rfl,hmp,Kz⟩:=BC UP;obtain ⟨e',hx,db⟩:=hx
      have:=db.inv ck
      subst this;rw [<- hmp] at A8;have Hi:=hS.arr ck;obtain ⟨hex,h⟩:=rW h;subst hex;rcases fk h with ⟨hm,h⟩|⟨hm,h⟩
      · have hm:m2=[]:=by simpa using hm
        subst hm;refine gM.rd hS h ?_ ⟨_,rfl,db⟩;rw [v8,hx];unfold iP;rw [A8];simp [CB]
      rcases fk h with ⟨c1,h⟩|⟨c1,h⟩
      · obtain ⟨CA,hk⟩:=ir h
        simp only [v6,ae9] at CA;obtain ⟨c2,c3⟩:=CA;have c2':=UV c2
        refine ⟨_,_,?_,Good.put hS (b:= .arr q (eX l len m2)) (q:= .arr (anx q) ((eX l len m2).map (RT.pv q))) (l:=[]) (ql:=[]) (v:= .pre t (len+anx m2) cap anC) (p:= .own t (anx q) 0 (len+anx m2) cap anC) (rd:=vT vy) ck (.inl ⟨_,rfl,BK _ _ _ c2'⟩) rfl rfl
         (fun j b hj=>by simp at hj) ⟨anx q,rfl,?_⟩,hk⟩
        · rw [v8,hx]
          unfold iP;rw [A8];subst he;have kI:la (0+len) (m2.map (RT.pv q)) (l.map (RT.pv q))=(eX l len m2).map (RT.pv q):=by
           rw [tC _ _ _ (by simp;omega),FH,agb]
          cases m2 with
          |nil=>cases hm
          |cons a m2=>
           simp only [af2] at c1;simp only [af7] at kI ⊢;simp only [Hi,afb,alt,PP,if_false,af2,af6,c1,if_true,c3,kI,CB]
        have:=zT.fr' (s:=s) (s':=Cm [t] (s.set t (.arr q (eX l len m2)))++[]) db ((Fr.dg (ts:=[t]) (Fr.set ck (.inl ⟨_,rfl,BK _ _ _ c2'⟩))).trans (Fr.app [t] _ []))
        exact this
      obtain ⟨hz0,h⟩:=rW h
      have hz:has z t=anC:=by
       cases hh:has z t with
       |false=>rfl
       |true=>rw [hh] at hz0;cases hz0
      obtain ⟨l',mA,h⟩:=cN h;obtain ⟨Ap,hk⟩:=ir h;obtain ⟨atQ,ly⟩:=x6 mA;subst atQ;have ayH:=UV Ap;have N1:(l.take len).length=len:=by rw [afg];omega
      rw [N1] at ly;have cT:(Cm [t] (s.set t .dead)).length=(anx s):=by rw [vX];simp
      have hal:(l.take len++m2).length=len+(anx m2):=by rw [agH,N1]
      refine ⟨_,_,?_,Good.put hS (b:= .dead) (q:= .dead) (l:=[.arr q (l.take len++m2)]) (ql:=[.arr (anx q) ((l.take len++m2).map (RT.pv q))]) (v:= .own (anx s) anC) (p:= .own (anx s) (anx q) 0 (l.take len++m2).length (l.take len++m2).length anC) (rd:=vT vy) ck (.inr rfl) rfl rfl
       (fun j b hj=>by
        cases j with
        |zero=>simp at hj;subst hj;exact ⟨_,rfl,rfl⟩
        |succ j=>simp at hj)
       ⟨anx q,(l.take len++m2).length,rfl,.inl ⟨q,l.take len++m2,by rw [<- cT];exact mD,rfl,rfl⟩⟩,hk⟩
      rw [v8,hx];unfold iP;rw [A8];subst he;cases m2 with
      |nil=>cases hm
      |cons a m2=>
       have h2:M2 (len+(anx m2+1)) eN=anB:=by simp [eN] at ly ⊢;omega
       simp only [af2] at c1 hal;simp only [af7,af2,af6,Hi,afb,alt,PP,if_false,c1,h2,hz,hS.len,CB,hal,afk,afo,afh]
    |_=>cases h
  |_=>cases h
end
end Go.Vm
/- Operation by operation: all of them. -/
namespace Go.Vm
section
variable {R' ρ : Type} {w : R' -> ρ} {y : ρ} {s : List SB} {ps : cH} {e : SE} {pe : Env} {z : List Nat} {k : fY -> gu R'}
theorem Sj (hE:dU s e pe) (hS:cJ s ps) {esz:Nat} {zero:Row} {x:fE} (h:my e s z (.clear esz zero x) k ρ w=anz y):gM s ps (bE pe ps z (.clear esz zero x)) k ρ w y:=by
 simp only [my] at h;have hx:=dJ hE x;unfold Uq at h;generalize bW e x=v at h hx;cases v with
 |part t off len cap ex=>
  simp only [cw] at h;generalize ck:s[t]? =b at h;cases b with
  |none=>cases h
  |some b=>
   cases b with
   |arr r l=>
    dsimp only at h;cases hq:Fm zero with
    |none=>rw [hq] at h;cases h
    |some q=>
     rw [hq] at h;dsimp only at h;obtain ⟨hc,h1⟩:=cU h;simp only [v6] at hc;obtain ⟨hqr,he⟩:=hc;have hqr:=vn hqr;have he:=ut he;obtain ⟨e',hx,db⟩:=hx
     have:=db.inv ck
     subst this;subst hqr;subst he;rcases fk h1 with ⟨hl,hk⟩|⟨hl,hk⟩
     · have hl:=ut hl
       subst hl;exact gM.val hS hk (by simp only [bE,hx]) rfl
     obtain ⟨CA,hk⟩:=ir hk
     simp only [v6,ae9] at CA;obtain ⟨c1,c2⟩:=CA;have c1':=UV c1;have cT:=BK l (aff len (RT.zero q)) off (by simpa using c1')
     refine ⟨_,_,?_,Good.UD hS (b:= .arr q (eX l off (aff len (RT.zero q)))) (q:= .arr (anx q) ((eX l off (aff len (RT.zero q))).map (RT.pv q))) (rd:=[]) ck (.inl ⟨_,rfl,cT⟩) rfl,hk⟩;cases len with
     |zero=>cases hl
     |succ len=>
      have kI:la off (aff (len+1) zero) (l.map (RT.pv q))=(eX l off (aff (len+1) (RT.zero q))).map (RT.pv q):=by
       rw [FH,tC _ _ _ (by simpa using c1')]
       simp [BH hq]
      simp only [bE,hx,hS.arr ck,afb,c2,afI,afa,if_true,kI]
   |_=>cases h
 |_=>cases h
theorem AJ (hS:cJ s ps) {t off len cap:Nat} {ex:Bool} {r:List PT} {l:List (RT r)} {x yy:fE} {vy:SV} (ck:s[t]? =anz (.arr r l)) (hx:x.ev pe= .own t (anx r) off len cap ex) (T6:R s vy (yy.ev pe))
 (h:Fo s z t r l off len vy k ρ w=anz y):gM s ps (bE pe ps z (.copy (anx r) x yy)) k ρ w y:=by
 unfold Fo at h;cases hc:zQ s vy with
 |none=>rw [hc] at h;cases h
 |some cc=>
  obtain ⟨q,m⟩:=cc;rw [hc] at h;dsimp only at h;cases UP:sA q r m with
  |none=>rw [UP] at h;cases h
  |some m2=>
   rw [UP] at h;dsimp only at h;obtain ⟨hqr,hmp,Kz⟩:=BC UP;subst hqr;obtain ⟨A8,CB⟩:=Qj hS T6 hc;rw [<- hmp] at A8;have FI:(m2.map (RT.pv q)).take len=(m2.take len).map (RT.pv q):=by rw [afh]
   generalize m2.take len=mm at h FI;rcases fk h with ⟨hm,hk⟩|⟨hm,hk⟩
   · have hm:mm=[]:=by simpa using hm
     subst hm;refine gM.rd hS hk ?_ rfl;simp only [bE,A8,hx,FI,amY,CB]
   obtain ⟨CA,hk⟩:=ir hk
   simp only [v6,ae9] at CA;obtain ⟨c1,c2⟩:=CA;have c1':=UV c1;have cT:=BK l mm off c1'
   refine ⟨_,_,?_,Good.put hS (b:= .arr q (eX l off mm)) (q:= .arr (anx q) ((eX l off mm).map (RT.pv q))) (l:=[]) (ql:=[]) (v:= .int .i64 (.ofNat (anx mm))) (p:= .int .i64 (.ofNat (anx mm))) (rd:=vT vy) ck (.inl ⟨_,rfl,cT⟩) rfl rfl (fun j b hj=>by simp at hj) rfl,hk⟩
   have kI:la off (mm.map (RT.pv q)) (l.map (RT.pv q))=(eX l off mm).map (RT.pv q):=by
    rw [FH,tC _ _ _ (by simpa using c1')]
   cases mm with
   |nil=>cases hm
   |cons a mm=>
    simp only [af7] at kI FI;simp only [bE,A8,hx,FI,hS.arr ck,afb,c2,afI,afa,if_true,kI,CB,af6,af2]
theorem UQ (hE:dU s e pe) (hS:cJ s ps) {esz:Nat} {x yy:fE} (h:my e s z (.copy esz x yy) k ρ w=anz y):gM s ps (bE pe ps z (.copy esz x yy)) k ρ w y:=by
 simp only [my] at h;have hx:=dJ hE x;have T6:=dJ hE yy;unfold afC at h;generalize bW e yy=vy at h T6;generalize bW e x=v at h hx;cases v with
 |own t ex=>
  simp only [cw] at h;generalize ck:s[t]? =b at h;cases b with
  |none=>cases h
  |some b=>
   cases b with
   |arr r l=>
    obtain ⟨he,hk⟩:=cU h;have he:=ut he;subst he;obtain ⟨e',n',hx,db⟩:=hx;obtain ⟨rfl,rfl⟩:=db.inv ck;exact AJ hS ck hx T6 hk
   |_=>cases h
 |pre t len cap ex=>
  simp only [cw] at h;generalize ck:s[t]? =b at h;cases b with
  |none=>cases h
  |some b=>
   cases b with
   |arr r l=>
    obtain ⟨he,hk⟩:=cU h;have he:=ut he;subst he;obtain ⟨e',hx,db⟩:=hx
    have:=db.inv ck
    subst this;exact AJ hS ck hx T6 hk
   |_=>cases h
 |part t off len cap ex=>
  simp only [cw] at h;generalize ck:s[t]? =b at h;cases b with
  |none=>cases h
  |some b=>
   cases b with
   |arr r l=>
    obtain ⟨he,hk⟩:=cU h;have he:=ut he;subst he;obtain ⟨e',hx,db⟩:=hx
    have:=db.inv ck
    subst this;exact AJ hS ck hx T6 hk
   |_=>cases h
 |_=>cases h
theorem Sk (hE:dU s e pe) (hS:cJ s ps) {x1 x2:fE} (h:my e s z (.Di x1 x2) k ρ w=anz y):gM s ps (bE pe ps z (.Di x1 x2)) k ρ w y:=by
 simp only [my] at h;have hx:=dJ hE x1;have hy:=dJ hE x2;generalize bW e x1=v at h hx;generalize bW e x2=u at h hy;cases v with
 |sl r l=>
  cases u with
  |sl q m=>
   have hx:x1.ev pe= .sl (anx r) anC (l.map (RT.pv r)):=hx;have hy:x2.ev pe= .sl (anx q) anC (m.map (RT.pv q)):=hy
   refine ⟨_,_,?_,Good.new hS (b:= .box [.sl r l,.sl q m]) (q:= .box [.sl (anx r) anC (l.map (RT.pv r)),.sl (anx q) anC (m.map (RT.pv q))]) (v:= .part (anx s) 0 2 2 anB) (p:= .own (anx s) 1 0 2 2 anB) (rd:=[]) ⟨_,rfl,_,_,rfl,rfl,_,_,rfl,rfl,rfl⟩ ⟨1,rfl,.inr (.inr ⟨_,mD,rfl⟩)⟩,h⟩;simp only [bE,hx,hy,hS.len];rfl
  |_=>cases h
 |_=>cases h
theorem X0 (hE:dU s e pe) (hS:cJ s ps) {op:k7} (h:my e s z op k ρ w=anz y):gM s ps (bE pe ps z op) k ρ w y:=by
 cases op with
 |Ti x=>exact gM.val hS h rfl (dJ hE x)
 |pick c a b=>exact UJ hE hS h
 |bin op a b=>exact XM hE hS h
 |KC n a b=>exact UE hE hS h
 |eqc n g a b=>exact XN hE hS h
 |un op a=>exact agU hE hS h
 |conv a x=>exact UG hE hS h
 |len x=>exact XO hE hS h
 |NG n=>exact gM.val hS h rfl rfl
 |box x=>exact XQ hE hS h
 |alloc c=>exact Se hS h
 |build z p=>exact Sd hE hS h
 |A' a b c d=>exact Sh hE hS h
 |Di a b=>exact Sk hE hS h
 |load a p=>exact UM hE hS h
 |store a p x=>exact Sg hE hS h
 |KD x=>exact UH hE hS h
 |KE o x=>exact UI hE hS h
 |ie a o x=>exact XS hE hS h
 |KF a x i=>exact UK hE hS h
 |Dj n a x i=>exact Sf hE hS h
 |idx n a g x i=>exact XX hE hS h
 |KG x i=>exact UL hE hS h
 |Ru a x l h' m=>exact XY hE hS h
 |mks a z l c=>exact XZ hE hS h
 |mkf f a b=>exact XU hE hS h
 |mkm m=>exact XV hS h
 |lookup n z o m q=>exact Oy hE hS h
 |IM n m q x=>exact UO hE hS h
 |ext i x=>exact XT hE hS h
 |append a x b=>exact Oz hE hS h
 |copy a x b=>exact UQ hE hS h
 |clear a z x=>exact Sj hE hS h
 |mm m x xs=>exact agV hE hS h
 |call m f a=>cases h
 |xb x a=>cases h
 |bad=>cases h
mutual
theorem apa {bx:Nat->Option (List SV)} {UR:Nat->Option (List PV)} (hS:cJ s ps) (hb: ∀t l,bx t=anz l-> ∃q,UR t=anz q/\qZ l=anz q): ∀{v u:SV} {p:PV},R s v p->HT s bx v=anz u-> ∃q,Co ps UR p=anz q/\sC u=anz q
 | .int k n,u,p,h,hx=>by injection hx with hx;subst hx;rw [show p=_ from h];exact ⟨_,rfl,rfl⟩
 | .bool b,u,p,h,hx=>by injection hx with hx;subst hx;rw [show p=_ from h];exact ⟨_,rfl,rfl⟩
 | .str x,u,p,h,hx=>by injection hx with hx;subst hx;rw [show p=_ from h];exact ⟨_,rfl,rfl⟩
 | .dR,u,p,h,hx=>by injection hx with hx;subst hx;rw [show p=_ from h];exact ⟨_,rfl,rfl⟩
 | .agg cs,u,p,h,hx=>by
  obtain ⟨q,rfl,h⟩:=h;simp only [HT] at hx;split at hx
  · rename_i l hl
    injection hx with hx;subst hx;obtain ⟨q',h1,h2⟩:=uy hS hb h hl;exact ⟨.agg q',by simp only [Co,h1];rfl,by simp only [sC,h2]⟩
  cases hx
 | .cq cs,u,p,h,hx=>by
  obtain ⟨q,rfl,h⟩:=h;simp only [HT] at hx;split at hx
  · rename_i l hl
    injection hx with hx;subst hx;obtain ⟨q',h1,h2⟩:=uy hS hb h hl;exact ⟨.cq q',by simp only [Co,h1];rfl,by simp only [sC,h2]⟩
  cases hx
 | .sl r l,u,p,h,hx=>by injection hx with hx;subst hx;rw [show p=_ from h];exact ⟨_,rfl,rfl⟩
 | .nil e c,u,p,h,hx=>by injection hx with hx;subst hx;rw [show p=_ from h];exact ⟨_,rfl,rfl⟩
 | .own t ex,u,p,h,hx=>by
  simp only [HT,cw] at hx;split at hx
  · rename_i r l ck
    injection hx with hx;subst hx;obtain ⟨e,n,rfl,db⟩:=h;obtain ⟨rfl,rfl⟩:=db.inv ck;refine ⟨.sl (anx r) anC (l.map (RT.pv r)),?_,rfl⟩;simp only [Co,hS.arr ck,afk];rw [afi (by simp)]
  cases hx
 | .pre t len cap ex,u,p,h,hx=>by
  simp only [HT,cw] at hx;split at hx
  · rename_i r l ck
    injection hx with hx;subst hx;obtain ⟨e,rfl,db⟩:=h
    have:=db.inv ck
    subst this;refine ⟨.sl (anx r) anC ((l.take len).map (RT.pv r)),?_,rfl⟩;simp only [Co,hS.arr ck,afk,afh]
  cases hx
 | .part t off len cap ex,u,p,h,hx=>by
  simp only [HT,cw] at hx;split at hx
  · rename_i r l ck
    injection hx with hx;subst hx;obtain ⟨e,rfl,db⟩:=h
    have:=db.inv ck
    subst this;refine ⟨.sl (anx r) anC (((l.drop off).take len).map (RT.pv r)),?_,rfl⟩;simp only [Co,hS.arr ck,afh,afS]
  cases hx
 | .pa t r i a off,u,p,h,hx=>by
  simp only [HT,cw] at hx;split at hx
  · rename_i q l ck
    injection hx with hx;subst hx;obtain ⟨rfl,db⟩:=h;obtain ⟨rfl,hg⟩:=db.inv ck;obtain ⟨m,rfl,hm⟩:=nA hg;refine ⟨.bH (RT.pv r a) off,?_,by simp only [sC,RT.HW]⟩
    have CG:(l.map (RT.pv r))[m]? =anz (RT.pv r a):=by simp [hm]
    have e1:(afF m).toNat=m:=rfl;simp only [Co,hS.arr ck,e1,CG];rfl
  cases hx
 | .bp t n off,u,p,h,hx=>by
  simp only [HT,cw] at hx;split at hx
  · rename_i cs ck
    split at hx
    · rename_i l hl
      injection hx with hx;subst hx;rw [show p=_ from h];obtain ⟨q,h1,h2⟩:=hb t l hl;obtain ⟨c,h3,_⟩:=hS.box ck;refine ⟨.bH q off,?_,by simp only [sC,h2]⟩
      simp only [Co,h3,afb,if_true,h1];rfl
    cases hx
  cases hx
 | .bH cs off,u,p,h,hx=>by
  obtain ⟨q,rfl,h⟩:=h;simp only [HT] at hx;split at hx
  · rename_i l hl
    injection hx with hx;subst hx;obtain ⟨q',h1,h2⟩:=uy hS hb h hl;exact ⟨.bH q' off,by simp only [Co,h1];rfl,by simp only [sC,h2]⟩
  cases hx
 | .eI f a b,u,p,h,hx=>by
  obtain ⟨pa,pb,rfl,h1,h2⟩:=h;simp only [HT] at hx;split at hx
  · rename_i x y' h3 h4
    injection hx with hx;subst hx;obtain ⟨qa,h5,h6⟩:=uy hS hb h1 h3;obtain ⟨qb,h7,h8⟩:=uy hS hb h2 h4;exact ⟨.eI f qa qb,by simp only [Co,h5,h7],by simp only [sC,h6,h8]⟩
  cases hx
 | .iS,_,_,_,hx| .undef,_,_,_,hx| .jB,_,_,_,hx| .pb _ _ _,_,_,_,hx| .mp _,_,_,_,hx=>by cases hx
theorem uy {bx:Nat->Option (List SV)} {UR:Nat->Option (List PV)} (hS:cJ s ps) (hb: ∀t l,bx t=anz l-> ∃q,UR t=anz q/\qZ l=anz q): ∀{v u:List SV} {p:List PV},RL s v p->sB s bx v=anz u-> ∃q,Cp ps UR p=anz q/\qZ u=anz q
 | [],u,p,h,hx=>by injection hx with hx;subst hx;rw [show p=_ from h];exact ⟨_,rfl,rfl⟩
 |x::xs,u,p,h,hx=>by
  obtain ⟨q,qs,rfl,h1,h2⟩:=h.cons_inv;simp only [sB] at hx;split at hx
  · rename_i y' ys h3 h4
    injection hx with hx;subst hx;obtain ⟨a,h5,h6⟩:=apa hS hb h1 h3;obtain ⟨as,h7,h8⟩:=uy hS hb h2 h4;exact ⟨a::as,by simp only [Cp,h5,h7],eF.2 ⟨a,as,rfl,h6,h8⟩⟩
  cases hx
end
theorem Em (hS:cJ s ps): ∀(n t:Nat) (l:List SV),kK s n t=anz l-> ∃q,xD ps n t=anz q/\qZ l=anz q
 |0,t,l,h=>by cases h
 |n+1,t,l,h=>by
  simp only [kK,cw] at h;split at h
  · rename_i cs ck
    obtain ⟨q,h1,h2⟩:=hS.box ck;obtain ⟨u,h3,h4⟩:=uy hS (Em hS n) h2 h;exact ⟨u,by simp only [xD,h1,h3],h4⟩
  cases h
mutual
theorem US {bx UR:Nat->List Nat} (hb: ∀t,bx t=UR t): ∀{v:SV} {p:PV},R s v p->v.sure=anB->Oh bx v=jc UR p
 | .iS,_,_,h=>by cases h
 | .undef,p,h,_| .jB,p,h,_| .dR,p,h,_| .int _ _,p,h,_| .bool _,p,h,_| .str _,p,h,_| .sl _ _,p,h,_| .nil _ _,p,h,_=>by rw [show p=_ from h];rfl
 | .agg cs,p,h,hs=>by obtain ⟨q,rfl,h⟩:=h;exact AL hb h hs
 | .cq cs,p,h,hs=>by obtain ⟨q,rfl,h⟩:=h;exact AL hb h hs
 | .own t ex,p,h,_=>by obtain ⟨e,n,rfl,_⟩:=h;rfl
 | .pre t a b c,p,h,_=>by obtain ⟨e,rfl,_⟩:=h;rfl
 | .part t o a b c,p,h,_=>by obtain ⟨e,rfl,_⟩:=h;rfl
 | .pa t r i a o,p,h,_=>by obtain ⟨rfl,_⟩:=h;simp only [Oh,jc,hb]
 | .pb t i o,p,h,_=>by obtain ⟨e,rfl,_⟩:=h;simp only [Oh,jc,hb]
 | .bp t n o,p,h,_=>by rw [show p=_ from h];simp only [Oh,jc,hb]
 | .bH cs o,p,h,hs=>by obtain ⟨q,rfl,h⟩:=h;exact AL hb h hs
 | .mp t,p,h,_=>by rw [show p=_ from h];rfl
 | .eI f a b,p,h,hs=>by
  obtain ⟨pa,pb,rfl,h1,h2⟩:=h;simp only [SV.sure,v6] at hs;simp only [Oh,jc,AL hb h1 hs.1,AL hb h2 hs.2]
theorem AL {bx UR:Nat->List Nat} (hb: ∀t,bx t=UR t): ∀{v:List SV} {p:List PV},RL s v p->mw v=anB->rH bx v=dD UR p
 | [],p,h,_=>by rw [show p=_ from h];rfl
 |x::xs,p,h,hs=>by
  obtain ⟨q,qs,rfl,h1,h2⟩:=h.cons_inv;simp only [mw,v6] at hs;simp only [rH,dD,US hb h1 hs.1,AL hb h2 hs.2]
end
end
end Go.Vm
/- The head of a loop: what the typed machine keeps there, the logical machine keeps there. -/
namespace Go.Vm
section
variable {s : List SB} {ps : cH}
mutual
theorem apb {n:Nat} (hS:cJ s ps) (hB: ∀t l,kK s n t=anz l->xx s n t=di ps n t): ∀{v u:SV} {p:PV},R s v p->HT s (kK s n) v=anz u->Oh (xx s n) v=jc (di ps n) p
 | .int _ _,_,p,h,_| .bool _,_,p,h,_| .str _,_,p,h,_| .dR,_,p,h,_| .sl _ _,_,p,h,_| .nil _ _,_,p,h,_=>by rw [show p=_ from h];rfl
 | .agg cs,u,p,h,hx=>by
  obtain ⟨q,rfl,h⟩:=h;simp only [HT] at hx;split at hx
  · rename_i l hl;exact zV hS hB h hl
  cases hx
 | .cq cs,u,p,h,hx=>by
  obtain ⟨q,rfl,h⟩:=h;simp only [HT] at hx;split at hx
  · rename_i l hl;exact zV hS hB h hl
  cases hx
 | .own t ex,_,p,h,_=>by obtain ⟨e,n,rfl,_⟩:=h;rfl
 | .pre t a b c,_,p,h,_=>by obtain ⟨e,rfl,_⟩:=h;rfl
 | .part t o a b c,_,p,h,_=>by obtain ⟨e,rfl,_⟩:=h;rfl
 | .pa t r i a o,_,p,h,hx=>by
  obtain ⟨rfl,db⟩:=h;simp only [HT,cw] at hx;split at hx
  · rename_i q l ck
    simp only [Oh,jc];cases n with
    |zero=>rfl
    |succ n=>simp only [xx,di,cw,ck,hS.arr ck]
  cases hx
 | .bp t m o,u,p,h,hx=>by
  rw [show p=_ from h];simp only [HT,cw] at hx;split at hx
  · split at hx
    · rename_i l hl
      simp only [Oh,jc,hB t l hl]
    cases hx
  cases hx
 | .bH cs o,u,p,h,hx=>by
  obtain ⟨q,rfl,h⟩:=h;simp only [HT] at hx;split at hx
  · rename_i l hl;exact zV hS hB h hl
  cases hx
 | .eI f a b,u,p,h,hx=>by
  obtain ⟨pa,pb,rfl,h1,h2⟩:=h;simp only [HT] at hx;split at hx
  · rename_i x y h3 h4
    simp only [Oh,jc,zV hS hB h1 h3,zV hS hB h2 h4]
  cases hx
 | .iS,_,_,_,hx| .undef,_,_,_,hx| .jB,_,_,_,hx| .pb _ _ _,_,_,_,hx| .mp _,_,_,_,hx=>by cases hx
theorem zV {n:Nat} (hS:cJ s ps) (hB: ∀t l,kK s n t=anz l->xx s n t=di ps n t): ∀{v u:List SV} {p:List PV},RL s v p->sB s (kK s n) v=anz u->rH (xx s n) v=dD (di ps n) p
 | [],_,p,h,_=>by rw [show p=_ from h];rfl
 |x::xs,u,p,h,hx=>by
  obtain ⟨q,qs,rfl,h1,h2⟩:=h.cons_inv;simp only [sB] at hx;split at hx
  · rename_i a b h3 h4
    simp only [rH,dD,apb hS hB h1 h3,zV hS hB h2 h4]
  cases hx
end
theorem UT {n:Nat} (hS:cJ s ps) (hB: ∀t l,kK s n t=anz l->xx s n t=di ps n t): ∀{v:List SV} {p:List PV},RL s v p->Og s (kK s n) v=anB->rH (xx s n) v=dD (di ps n) p
 | [],p,h,_=>by rw [show p=[] from h];rfl
 |x::xs,p,h,hx=>by
  obtain ⟨a,as,rfl,h1,h2⟩:=h.cons_inv;have other: ∀u,HT s (kK s n) x=anz u->Og s (kK s n) xs=anB->rH (xx s n) (x::xs)=dD (di ps n) (a::as):=fun u h3 h4=>by
   simp only [rH,dD,apb hS hB h1 h3,UT hS hB h2 h4]
  unfold Og at hx;split at hx
  · rename_i t
    rw [show a= .mp t from h1];simp only [rH,dD,Oh,jc,UT hS hB h2 hx]
  split at hx
  · rename_i u h3
    exact other u h3 hx
  cases hx
theorem FJ (hS:cJ s ps): ∀(n t:Nat) (l:List SV),kK s n t=anz l->xx s n t=di ps n t
 |0,t,l,h=>rfl
 |n+1,t,l,h=>by
  simp only [kK,cw] at h;split at h
  · rename_i cs ck
    obtain ⟨q,h1,h2⟩:=hS.box ck;simp only [xx,di,cw,ck,h1];exact zV hS (FJ hS n) h2 h
  cases h
theorem Jv {b:SB} {q:jX} (h:RB s b q) (hs:y5 b=anB):Fp b=ry q:=by
 cases b with
 |box cs=>obtain ⟨c,rfl,h⟩:=h;exact AL (fun _=>rfl) h hs
 |arr r l=>rw [show q=_ from h];rfl
 |set l=>rw [show q=_ from h];rfl
 |aO p l=>rw [show q=_ from h];rfl
 |dead=>rw [show q=_ from h];rfl
theorem FK (hS:cJ s ps): ∀(n:Nat) (ts seen m:List Nat),CN s n ts seen=anz m->reach ps n ts seen=anz m
 |n,[],seen,m,h=>by
  cases n<;>(simp only [CN] at h;exact h)
 |0,_::_,_,_,h=>by cases h
 |n+1,t::ts,seen,m,h=>by
  simp only [CN,cw] at h;simp only [reach];cases hh:has seen t with
  |true=>rw [hh] at h;simp only [lw] at h;simp only [if_true];exact FK hS n ts seen m h
  |false=>
   rw [hh] at h;simp only [ol] at h;simp only [PP,if_false];split at h
   · rename_i b ck
     obtain ⟨q,h1,h2⟩:=hS.at_ t b ck;cases hb:y5 b with
     |false=>rw [hb] at h;cases h
     |true=>
      rw [hb] at h;simp only [lw] at h;rw [h1,Jv h2 hb] at*;exact FK hS n _ _ m h
   cases h
theorem FL: ∀{t u:Nat} {m:List Nat},idxOf t m=anz u->m[u]? =anz t
 |t,u,[],h=>by cases h
 |t,u,x::m,h=>by
  simp only [idxOf] at h;cases hb:NE x t with
  |true=>rw [hb] at h;simp at h;subst h;simp [ut hb]
  |false=>
   rw [hb] at h;simp only [PP,if_false,afc] at h;obtain ⟨v,hv,rfl⟩:=h;simpa using FL hv
def FM (m:List Nat) (s s':List SB):Prop:= ∀(t u:Nat) (b:SB),idxOf t m=anz u->s[t]? =anz b->match b with
 | .arr r l=>s'[u]? =anz (.arr r l)
 | .dead=>s'[u]? =anz .dead
 | .box _=> ∃cs,s'[u]? =anz (.box cs)
 |_=>True
mutual
theorem UU {m:List Nat} {s':List SB} (hr:FM m s s'): ∀{v u:SV} {p:PV},R s v p->qC m v=anz u-> ∃q,zH m p=anz q/\R s' u q
 | .iS,_,_,_,hx=>by cases hx
 | .undef,u,p,h,hx| .jB,u,p,h,hx| .dR,u,p,h,hx| .int _ _,u,p,h,hx| .bool _,u,p,h,hx| .str _,u,p,h,hx| .sl _ _,u,p,h,hx| .nil _ _,u,p,h,hx=>by
  injection hx with hx;subst hx;rw [show p=_ from h];exact ⟨_,rfl,rfl⟩
 | .agg cs,u,p,h,hx=>by
  obtain ⟨q,rfl,h⟩:=h;simp only [qC] at hx;split at hx
  · rename_i l hl
    injection hx with hx;subst hx;obtain ⟨q',h1,h2⟩:=tD hr h hl;exact ⟨.agg q',by simp only [zH,h1];rfl,q',rfl,h2⟩
  cases hx
 | .cq cs,u,p,h,hx=>by
  obtain ⟨q,rfl,h⟩:=h;simp only [qC] at hx;split at hx
  · rename_i l hl
    injection hx with hx;subst hx;obtain ⟨q',h1,h2⟩:=tD hr h hl;exact ⟨.cq q',by simp only [zH,h1];rfl,q',rfl,h2⟩
  cases hx
 | .own t ex,u,p,h,hx=>by
  obtain ⟨e,n,rfl,db⟩:=h;simp only [qC] at hx;split at hx
  · rename_i v hv
    injection hx with hx;subst hx;refine ⟨.own v e 0 n n ex,by simp only [zH,hv];rfl,e,n,rfl,?_⟩
    rcases db with ⟨r,l,h1,h2,h3⟩|h1
    · exact .inl ⟨r,l,hr t v _ hv h1,h2,h3⟩
    exact .inr (hr t v _ hv h1)
  cases hx
 | .pre t len cap ex,u,p,h,hx=>by
  obtain ⟨e,rfl,db⟩:=h;simp only [qC] at hx;split at hx
  · rename_i v hv
    injection hx with hx;subst hx;refine ⟨.own v e 0 len cap ex,by simp only [zH,hv];rfl,e,rfl,?_⟩
    rcases db with ⟨r,l,h1,h2⟩|h1|⟨cs,h1,h2⟩
    · exact .inl ⟨r,l,hr t v _ hv h1,h2⟩
    · exact .inr (.inl (hr t v _ hv h1))
    obtain ⟨c2,h3⟩:=hr t v _ hv h1
    exact .inr (.inr ⟨c2,h3,h2⟩)
  cases hx
 | .part t off len cap ex,u,p,h,hx=>by
  obtain ⟨e,rfl,db⟩:=h;simp only [qC] at hx;split at hx
  · rename_i v hv
    injection hx with hx;subst hx;refine ⟨.own v e off len cap ex,by simp only [zH,hv];rfl,e,rfl,?_⟩
    rcases db with ⟨r,l,h1,h2⟩|h1|⟨cs,h1,h2⟩
    · exact .inl ⟨r,l,hr t v _ hv h1,h2⟩
    · exact .inr (.inl (hr t v _ hv h1))
    obtain ⟨c2,h3⟩:=hr t v _ hv h1
    exact .inr (.inr ⟨c2,h3,h2⟩)
  cases hx
 | .pa t r i a off,u,p,h,hx=>by
  obtain ⟨rfl,db⟩:=h;simp only [qC] at hx;split at hx
  · rename_i v hv
    injection hx with hx;subst hx;refine ⟨.ptr v (anx r) i.toNat off,by simp only [zH,hv];rfl,anx r,rfl,?_⟩
    rcases db with ⟨l,h1,h2⟩|h1
    · exact .inl ⟨r,l,hr t v _ hv h1,by rw [h2];rfl⟩
    exact .inr (hr t v _ hv h1)
  cases hx
 | .pb t i off,u,p,h,hx=>by
  obtain ⟨e,rfl,db⟩:=h;simp only [qC] at hx;split at hx
  · rename_i v hv
    injection hx with hx;subst hx;refine ⟨.ptr v e i.toNat off,by simp only [zH,hv];rfl,e,rfl,?_⟩
    rcases db with ⟨r,l,h1,h2⟩|h1
    · exact .inl ⟨r,l,hr t v _ hv h1,h2⟩
    exact .inr (hr t v _ hv h1)
  cases hx
 | .bp t n off,u,p,h,hx=>by
  rw [show p=_ from h];simp only [qC] at hx;split at hx
  · rename_i v hv
    injection hx with hx;subst hx;exact ⟨.ptr v n 0 off,by simp only [zH,hv];rfl,rfl⟩
  cases hx
 | .bH cs off,u,p,h,hx=>by
  obtain ⟨q,rfl,h⟩:=h;simp only [qC] at hx;split at hx
  · rename_i l hl
    injection hx with hx;subst hx;obtain ⟨q',h1,h2⟩:=tD hr h hl;exact ⟨.bH q' off,by simp only [zH,h1];rfl,q',rfl,h2⟩
  cases hx
 | .mp t,u,p,h,hx=>by
  rw [show p=_ from h];simp only [qC] at hx;split at hx
  · rename_i v hv
    injection hx with hx;subst hx;exact ⟨.mp v,by simp only [zH,hv];rfl,rfl⟩
  cases hx
 | .eI f a b,u,p,h,hx=>by
  obtain ⟨pa,pb,rfl,h1,h2⟩:=h;simp only [qC] at hx;split at hx
  · rename_i x y h3 h4
    injection hx with hx;subst hx;obtain ⟨qa,h5,h6⟩:=tD hr h1 h3;obtain ⟨qb,h7,h8⟩:=tD hr h2 h4;exact ⟨.eI f qa qb,by simp only [zH,h5,h7],qa,qb,rfl,h6,h8⟩
  cases hx
theorem tD {m:List Nat} {s':List SB} (hr:FM m s s'): ∀{v u:List SV} {p:List PV},RL s v p->tu m v=anz u-> ∃q,zA m p=anz q/\RL s' u q
 | [],u,p,h,hx=>by injection hx with hx;subst hx;rw [show p=_ from h];exact ⟨_,rfl,rfl⟩
 |x::xs,u,p,h,hx=>by
  obtain ⟨q,qs,rfl,h1,h2⟩:=h.cons_inv;simp only [tu] at hx;split at hx
  · rename_i a b h3 h4
    injection hx with hx;subst hx;obtain ⟨a',h5,h6⟩:=UU hr h1 h3;obtain ⟨b',h7,h8⟩:=tD hr h2 h4;exact ⟨a'::b',by simp only [zA,h5,h7],RL.cons h6 h8⟩
  cases hx
end
theorem agW {m:List Nat} {s':List SB} (hr:FM m s s') {b c:SB} {q:jX} (h:RB s b q) (hx:Oj m b=anz c): ∃q',nV m q=anz q'/\RB s' c q':=by
 cases b with
 |box cs=>
  obtain ⟨p,rfl,h⟩:=h;simp only [Oj] at hx;split at hx
  · rename_i l hl
    injection hx with hx;subst hx;obtain ⟨q',h1,h2⟩:=tD hr h hl;exact ⟨.box q',by simp only [nV,h1];rfl,q',rfl,h2⟩
  cases hx
 |arr r l=>injection hx with hx;subst hx;rw [show q=_ from h];exact ⟨_,rfl,rfl⟩
 |set l=>injection hx with hx;subst hx;rw [show q=_ from h];exact ⟨_,rfl,rfl⟩
 |aO p l=>injection hx with hx;subst hx;rw [show q=_ from h];exact ⟨_,rfl,rfl⟩
 |dead=>injection hx with hx;subst hx;rw [show q=_ from h];exact ⟨_,rfl,rfl⟩
theorem x7 {m:List Nat}: ∀{ts:List Nat} {s1:List SB},Hm s m ts=anz s1->anx s1=anx ts/\ ∀(j t:Nat),ts[j]? =anz t-> ∃b c,s[t]? =anz b/\Oj m b=anz c/\s1[j]? =anz c
 | [],s1,h=>by injection h with h;subst h;exact ⟨rfl,fun j t h=>by simp at h⟩
 |t::ts,s1,h=>by
  simp only [Hm,cw] at h;split at h
  · rename_i b hb
    split at h
    · rename_i c r hc hr
      injection h with h;subst h;obtain ⟨h1,h2⟩:=x7 hr;refine ⟨by simp [h1],fun j u hj=>?_⟩
      cases j with
      |zero=>simp at hj;subst hj;exact ⟨b,c,hb,hc,rfl⟩
      |succ j=>simpa using h2 j u (by simpa using hj)
    cases h
  cases h
theorem CS (hS:cJ s ps) {m:List Nat} {s':List SB} (hr:FM m s s'): ∀{ts:List Nat} {s1:List SB},Hm s m ts=anz s1-> ∃p1,xE ps m ts=anz p1/\anx p1=anx s1/\ ∀(j:Nat) (b:SB),s1[j]? =anz b-> ∃q,p1[j]? =anz q/\RB s' b q
 | [],s1,h=>by injection h with h;subst h;exact ⟨[],rfl,rfl,fun j b h=>by simp at h⟩
 |t::ts,s1,h=>by
  simp only [Hm,cw] at h;split at h
  · rename_i b hb
    split at h
    · rename_i c r hc hr'
      injection h with h;subst h;obtain ⟨q,h1,h2⟩:=hS.at_ t b hb;obtain ⟨q',h3,h4⟩:=agW hr h2 hc;obtain ⟨p1,h5,h6,h7⟩:=CS hS hr hr';refine ⟨q'::p1,by simp only [xE,h1,h3,h5],by simp [h6],fun j x hj=>?_⟩
      cases j with
      |zero=>simp at hj;subst hj;exact ⟨q',rfl,h4⟩
      |succ j=>simpa using h7 j x (by simpa using hj)
    cases h
  cases h
theorem FM.of {m:List Nat} {s1 l:List SB} (h:Hm s m m=anz s1):FM m s (s1++l):=fun t u b hu hb=>by
 have hm:=FL hu;obtain ⟨h1,h2⟩:=x7 h;obtain ⟨b',c,h3,h4,h5⟩:=h2 u t hm;rw [hb] at h3;injection h3 with h3;subst h3;have dI:=(ww.1 h5).1;cases b with
 |arr r l'=>injection h4 with h4;subst h4;rw [AC dI];exact h5
 |dead=>injection h4 with h4;subst h4;rw [AC dI];exact h5
 |box cs=>
  simp only [Oj] at h4;split at h4
  · injection h4 with h4;subst h4;exact ⟨_,by rw [AC dI];exact h5⟩
  cases h4
 |_=>trivial
theorem vp: ∀(rk:List (Nat×List PT)) (n:Nat),(rowOf rk n).length=n
 | [],n=>by simp [rowOf]
 |(m,r)::q,n=>by
  simp only [rowOf];cases hc:(NE m n&&NE (anx r) n) with
  |true=>simp only [v6] at hc;exact ut hc.2
  |false=>exact vp q n
theorem CT {rk:List (Nat×List PT)} {e:SE} {m:List Nat}: ∀{live:List (Nat×Option Nat)} {nx:Nat} {e1:SE} {s2:List SB},xk rk e m nx live=anz (e1,s2)-> ∀(j:Nat) (b:SB),s2[j]? =anz b-> ∃r,b= .arr r []
 | [],nx,e1,s2,h,j,b,hj=>by
  simp only [xk,EQ,adc] at h;rw [<- h.2] at hj;simp at hj
 |(t,k)::live,nx,e1,s2,h,j,b,hj=>by
  simp only [xk] at h;split at h
  · split at h
    · rename_i p hp
      simp only [EQ,adc] at h;obtain ⟨rfl,rfl⟩:=h;cases j with
      |zero=>simp at hj;exact ⟨_,hj.symm⟩
      |succ j=>exact CT (e1:=p.1) (s2:=p.2) hp j b (by simpa using hj)
    cases h
  split at h
  · rename_i v' p hv hp
    simp only [EQ,adc] at h;obtain ⟨rfl,rfl⟩:=h;exact CT (e1:=p.1) (s2:=p.2) hp j b hj
  cases h
mutual
theorem CU {m:List Nat}: ∀{v u:SV},qC m v=anz u->u.sure=anB
 | .iS,_,h=>by cases h
 | .undef,u,h| .jB,u,h| .dR,u,h| .int _ _,u,h| .bool _,u,h| .str _,u,h| .sl _ _,u,h| .nil _ _,u,h=>by injection h with h;subst h;rfl
 | .agg cs,u,h=>by
  simp only [qC] at h;split at h
  · rename_i l hl;injection h with h;subst h;exact na hl
  cases h
 | .cq cs,u,h=>by
  simp only [qC] at h;split at h
  · rename_i l hl;injection h with h;subst h;exact na hl
  cases h
 | .bH cs _,u,h=>by
  simp only [qC] at h;split at h
  · rename_i l hl;injection h with h;subst h;exact na hl
  cases h
 | .own _ _,u,h=>by simp only [qC] at h;split at h<;>first|(injection h with h;subst h;rfl)|cases h
 | .pre _ _ _ _,u,h=>by simp only [qC] at h;split at h<;>first|(injection h with h;subst h;rfl)|cases h
 | .part _ _ _ _ _,u,h=>by simp only [qC] at h;split at h<;>first|(injection h with h;subst h;rfl)|cases h
 | .pa _ _ _ _ _,u,h=>by simp only [qC] at h;split at h<;>first|(injection h with h;subst h;rfl)|cases h
 | .pb _ _ _,u,h=>by simp only [qC] at h;split at h<;>first|(injection h with h;subst h;rfl)|cases h
 | .bp _ _ _,u,h=>by simp only [qC] at h;split at h<;>first|(injection h with h;subst h;rfl)|cases h
 | .mp _,u,h=>by simp only [qC] at h;split at h<;>first|(injection h with h;subst h;rfl)|cases h
 | .eI f a b,u,h=>by
  simp only [qC] at h;split at h
  · rename_i x y h1 h2
    injection h with h;subst h;simp only [SV.sure,na h1,na h2,afa]
  cases h
theorem na {m:List Nat}: ∀{v u:List SV},tu m v=anz u->mw u=anB
 | [],u,h=>by injection h with h;subst h;rfl
 |x::xs,u,h=>by
  simp only [tu] at h;split at h
  · rename_i a b h1 h2
    injection h with h;subst h;simp only [mw,CU h1,na h2,afa]
  cases h
end
theorem X1 {s:List SB} {v:SV} {p:PV} (h:R s v p): ∀k:Option Nat,v.sure=anB->R s (Jn k v) (HA k p)
 |none,_=>h
 |some _,hs=>by
  cases v with
  |own t ex=>obtain ⟨e,n,rfl,h⟩:=h;exact ⟨e,n,rfl,h⟩
  |pre t l c ex=>obtain ⟨e,rfl,h⟩:=h;exact ⟨e,rfl,h⟩
  |part t o l c ex=>obtain ⟨e,rfl,h⟩:=h;exact ⟨e,rfl,h⟩
  |iS=>cases hs
  |undef|jB|dR|int _ _|bool _|str _|bp _ _ _|mp _|sl _ _|nil _ _=>rw [show p=_ from h];rfl
  |agg _|cq _|bH _ _=>obtain ⟨q,rfl,h⟩:=h;exact ⟨q,rfl,h⟩
  |eI _ _ _=>obtain ⟨q,q2,rfl,h⟩:=h;exact ⟨q,q2,rfl,h⟩
  |pa _ _ _ _ _=>obtain ⟨rfl,h⟩:=h;exact ⟨rfl,h⟩
  |pb _ _ _=>obtain ⟨q,rfl,h⟩:=h;exact ⟨q,rfl,h⟩
theorem OA {v:SV} (h:v.sure=anB) (k:Option Nat):(Jn k v).sure=anB:=by
 unfold Jn;split<;>first|rfl|exact h
theorem Jw {rk:List (Nat×List PT)} {e:SE} {pe:Env} (hE:dU s e pe) {m:List Nat} {s':List SB} (hr:FM m s s'): ∀{live:List (Nat×Option Nat)} {nx:Nat} {e1:SE} {s2:List SB},xk rk e m nx live=anz (e1,s2)->(∀(j:Nat) (b:SB),s2[j]? =anz b->s'[nx+j]? =anz b)->
 ∃p1 q2,rz pe m nx live=anz (p1,q2)/\dU s' e1 p1/\anx q2=anx s2/\ ∀(j:Nat) (b:SB),s2[j]? =anz b-> ∃q,q2[j]? =anz q/\RB s' b q
 | [],nx,e1,s2,h,_=>by
  simp only [xk,EQ,adc] at h;obtain ⟨rfl,rfl⟩:=h;exact ⟨[],[],rfl,rfl,rfl,fun j b h=>by simp at h⟩
 |(t,k)::live,nx,e1,s2,h,hs=>by
  have vj:=hE.lk t;simp only [xk] at h;split at h
  · rename_i kk esz en hv
    split at h
    · rename_i p hp
      simp only [EQ,adc] at h;obtain ⟨rfl,rfl⟩:=h;rw [hv] at vj;obtain ⟨p1,q2,h1,h2,h3,h4⟩:=Jw (live:=live) (nx:=nx+1) (e1:=p.1) (s2:=p.2) hE hr hp (fun j b hj=>by
       have:=hs (j+1) b (by simpa using hj)
       rw [show nx+1+j=nx+(j+1) by omega];exact this)
      refine ⟨(t,.own nx esz 0 0 0 anC)::p1,.arr esz []::q2,?_,⟨_,_,rfl,⟨esz,0,rfl,.inl ⟨rowOf rk esz,[],by simpa using hs 0 _ rfl,(vp rk esz).symm,rfl⟩⟩,h2⟩,by simp [h3],fun j b hj=>?_⟩
      · have agY:lk t pe= .sl en anB []:=vj
        simp only [rz,agY,h1];rfl
      cases j with
      |zero=>simp at hj;subst hj;exact ⟨_,rfl,by show _=_;rw [vp];rfl⟩
      |succ j=>simpa using h4 j b (by simpa using hj)
    cases h
  rename_i dW
  split at h
  · rename_i v' p hv hp
    simp only [EQ,adc] at h;obtain ⟨rfl,rfl⟩:=h;obtain ⟨q',h5,h6⟩:=UU hr vj hv;obtain ⟨p1,q2,h1,h2,h3,h4⟩:=Jw (live:=live) (e1:=p.1) (s2:=p.2) hE hr hp hs;refine ⟨(t,HA _ q')::p1,q2,?_,⟨_,_,rfl,X1 h6 _ (CU hv),h2⟩,h3,h4⟩;simp only [rz];split
    · rename_i esz x hx
      exfalso;rw [hx] at vj;generalize G9 t e=v0 at vj hv dW;cases v0 with
      |iS=>cases hv
      |nil e' c=>
       have agY:PV.sl x anB []= .sl e' c []:=vj;injection agY with h1 h2;subst h2;exact dW _ _ rfl rfl
      |undef|jB|dR|int _ _|bool _|str _|bp _ _ _|mp _=>cases (show PV.sl x anB []=_ from vj)
      |sl r l=>cases (show PV.sl x anB []=_ from vj)
      |agg _|cq _|bH _ _=>obtain ⟨q,hq,_⟩:=vj;cases hq
      |eI _ _ _=>obtain ⟨q,q2,hq,_⟩:=vj;cases hq
      |own _ _=>obtain ⟨q,q2,hq,_⟩:=vj;cases hq
      |pre _ _ _ _=>obtain ⟨q,hq,_⟩:=vj;cases hq
      |part _ _ _ _ _=>obtain ⟨q,hq,_⟩:=vj;cases hq
      |pa _ _ _ _ _=>obtain ⟨hq,_⟩:=vj;cases hq
      |pb _ _ _=>obtain ⟨q,hq,_⟩:=vj;cases hq
    simp only [h5,h1]
  cases h
def afL (s:List SB):Prop:= ∀(t:Nat) (cs:List SV),s[t]? =anz (.box cs)->mw cs=anB
def H3:SE->Prop
 | []=>True
 |(_,v)::r=>v.sure=anB/\H3 r
theorem H3.lk: ∀{e:SE},H3 e-> ∀t,(G9 t e).sure=anB
 | [],_,t=>rfl
 |(u,v)::r,h,t=>by
  simp only [G9];cases hb:NE u t with
  |true=>exact h.1
  |false=>exact H3.lk h.2 t
theorem AM {rk:List (Nat×List PT)} {e:SE} {m:List Nat}: ∀{live:List (Nat×Option Nat)} {nx:Nat} {e1:SE} {s2:List SB},xk rk e m nx live=anz (e1,s2)->H3 e1
 | [],nx,e1,s2,h=>by
  simp only [xk,EQ,adc] at h;rw [<- h.1];trivial
 |(t,k)::live,nx,e1,s2,h=>by
  simp only [xk] at h;split at h
  · split at h
    · rename_i p hp
      simp only [EQ,adc] at h;obtain ⟨rfl,rfl⟩:=h;exact ⟨rfl,AM (e1:=p.1) (s2:=p.2) hp⟩
    cases h
  split at h
  · rename_i v' p hv hp
    simp only [EQ,adc] at h;obtain ⟨rfl,rfl⟩:=h;exact ⟨OA (CU hv) _,AM (e1:=p.1) (s2:=p.2) hp⟩
  cases h
theorem H4: ∀{l:List SV},mw l=anB-> ∀{n:Nat} {v:SV},nth l n=anz v->v.sure=anB
 | [],_,_,_,h=>by cases h
 |x::xs,hs,0,v,h=>by injection h with h;subst h;simp only [mw,v6] at hs;exact hs.1
 |x::xs,hs,n+1,v,h=>by simp only [mw,v6] at hs;exact H4 hs.2 (n:=n) h
theorem H5: ∀{l:List SV},mw l=anB-> ∀(n:Nat) {v:SV},v.sure=anB->mw (l.set n v)=anB
 | [],_,n,v,_=>rfl
 |x::xs,hs,0,v,h=>by simp only [mw,v6] at hs;simp [mw,h,hs.2]
 |x::xs,hs,n+1,v,h=>by simp only [mw,v6] at hs;simp [mw,hs.1,H5 hs.2 n h]
theorem RL.set {s:List SB}: ∀{xs:List SV} {ps:List PV},RL s xs ps-> ∀(n:Nat) {v:SV} {p:PV},R s v p->RL s (xs.set n v) (ps.set n p)
 | [],ps,h,n,v,p,_=>by rw [show ps=[] from h];exact RL.nil
 |x::xs,ps,h,0,v,p,hv=>by
  obtain ⟨a,q,rfl,h1,h2⟩:=h.cons_inv;exact RL.cons hv h2
 |x::xs,ps,h,n+1,v,p,hv=>by
  obtain ⟨a,q,rfl,h1,h2⟩:=h.cons_inv;exact RL.cons h1 (RL.set h2 n hv)
structure X2 (st:qB) (p:St):Prop where
 r:zU st p
 s:afL st.aE
 e:H3 st.env
theorem OB {rk:List (Nat×List PT)} {st:qB} {p:St} (h:X2 st p) (t c esz:Nat):X2 (Fq rk st t c esz) (rA p t c esz):=by
 unfold Fq rA;rw [cw];cases ck:st.aE[t]? with
 |none=>
  have:p.aE[t]? =anA:=by
   rw [afR] at ck ⊢;rw [h.r.aE.len];exact ck
  rw [this];exact h
 |some b=>
  obtain ⟨q,h1,h2⟩:=h.r.aE.at_ t b ck;rw [h1];cases b with
  |arr r l=>rw [show q=_ from h2];exact h
  |set l=>rw [show q=_ from h2];exact h
  |aO p l=>rw [show q=_ from h2];exact h
  |dead=>rw [show q=_ from h2];exact h
  |box cs=>
   obtain ⟨pc,rfl,h3⟩:=h2;dsimp only;cases hc:nth cs c with
   |none=>
    have:pc[c]? =anA:=by
     rw [cw,afR] at hc;rw [afR,h3.mY];exact hc
    rw [this];exact h
   |some v=>
    obtain ⟨pv,h4,h5⟩:=h3.nth hc;rw [h4];have apc:=H4 (h.s t cs ck) hc;have mZ:=h.s t cs ck;have other:(∀e,pv≠ .sl e anB [])->(∀e,v≠ .nil e anB)->X2 (match anz v with
     |some (.nil _ anB)=>{st with aE:=st.aE.set t (.box (cs.set c (.own (anx st.aE) anC)))++[.arr (rowOf rk esz) []]}
     |_=>st) (match anz pv with
     |some (.sl _ anB [])=>{p with aE:=p.aE.set t (.box (pc.set c (.own (anx p.aE) esz 0 0 0 anC)))++[.arr esz []]}
     |_=>p):=by
     intro n1 n2;split
     · rename_i e he;injection he with he;exact absurd he (n2 e)
     split
     · rename_i e he;injection he with he;exact absurd he (n1 e)
     exact h
    cases v with
    |iS=>cases apc
    |nil e' cl=>
     have h5':pv= .sl e' cl []:=h5;subst h5';cases cl with
     |false=>exact other (fun e he=>by cases he) (fun e he=>by cases he)
     |true=>
      dsimp only;have dI:=(ww.1 ck).1;have sx:Fr [] st.aE (st.aE.set t (.box (cs.set c (.own (anx st.aE) anC)))++[.arr (rowOf rk esz) []]):=fun u x hu=>by
       by_cases ND:t=u
       · subst ND;rw [ck] at hu;injection hu with hu;subst hu;exact .inl ⟨_,by rw [AC (by simpa using dI),IR];simp [dI];rfl⟩
       have Qm:=(ww.1 hu).1
       have:(st.aE.set t (.box (cs.set c (.own (anx st.aE) anC)))++[.arr (rowOf rk esz) []])[u]? =anz x:=by
        rw [AC (by simpa using Qm),IR];simp [ND,hu]
       cases x with
       |arr r l=>exact .inl ⟨l,this,rfl,fun _=>rfl⟩
       |dead=>exact this
       |box c2=>exact .inl ⟨c2,this⟩
       |_=>trivial
      have cT:(st.aE.set t (.box (cs.set c (.own (anx st.aE) anC)))).length=(anx st.aE):=by simp
      have atS:R (st.aE.set t (.box (cs.set c (.own (anx st.aE) anC)))++[.arr (rowOf rk esz) []]) (.own (anx st.aE) anC) (.own (anx p.aE) esz 0 0 0 anC):=by
       refine ⟨esz,0,by rw [h.r.aE.len],.inl ⟨rowOf rk esz,[],?_,(vp rk esz).symm,rfl⟩⟩
       rw [Do (by simp)];simp
      refine ⟨⟨dU.ext sx h.r.env,⟨by simp [h.r.aE.len],fun u x hu=>?_⟩,h.r.fz,h.r.kn⟩,fun u x hu=>?_,h.e⟩
      · rcases afQ u (anx st.aE) with Qm|Qm
        · rw [AC (by simpa using Qm),IR] at hu
          by_cases ND:t=u
          · subst ND
            simp [dI] at hu;subst hu;refine ⟨.box (pc.set c (.own (anx p.aE) esz 0 0 0 anC)),?_,_,rfl,RL.set (RL.ext sx h3) c atS⟩;rw [AC (by simp [h.r.aE.len,Qm]),IR]
            simp [h.r.aE.len,Qm]
          simp [ND] at hu
          obtain ⟨q,h6,h7⟩:=h.r.aE.at_ u x hu;refine ⟨q,?_,h7.ext sx⟩;rw [AC (by simp [h.r.aE.len,Qm]),IR]
          simp [ND,h6]
        rw [Do (by simpa using Qm)] at hu
        simp only [cT] at hu;have Xk:u-(anx st.aE)=0:=by
         rcases am6 (u-(anx st.aE)) with h|h
         · exact h
         rw [List.getElem?_eq_none (by simp;omega)] at hu;cases hu
        rw [Xk] at hu;simp at hu;subst hu;refine ⟨.arr esz [],?_,by show _=_;rw [vp];rfl⟩
        rw [Do (by simp [h.r.aE.len];omega)]
        simp [h.r.aE.len,Xk]
      rcases afQ u (anx st.aE) with Qm|Qm
      · rw [AC (by simpa using Qm),IR] at hu
        by_cases ND:t=u
        · subst ND
          simp [dI] at hu;subst hu;exact H5 mZ c rfl
        simp [ND] at hu;exact h.s u x hu
      rw [Do (by simpa using Qm)] at hu
      cases hj:u- (st.aE.set t (.box (cs.set c (.own (anx st.aE) anC)))).length with
      |zero=>rw [hj] at hu;simp at hu
      |succ j=>rw [hj] at hu;simp at hu
    |undef|jB|dR|int _ _|bool _|str _|bp _ _ _|mp _=>exact other (fun e he=>by rw [show pv=_ from h5] at he;cases he) (fun e he=>by cases he)
    |sl r l=>exact other (fun e he=>by rw [show pv=_ from h5] at he;cases he) (fun e he=>by cases he)
    |agg _|cq _|bH _ _=>exact other (fun e he=>by obtain ⟨q,hq,_⟩:=h5;rw [hq] at he;cases he) (fun e he=>by cases he)
    |eI _ _ _=>exact other (fun e he=>by obtain ⟨q,q2,hq,_⟩:=h5;rw [hq] at he;cases he) (fun e he=>by cases he)
    |own _ _=>exact other (fun e he=>by obtain ⟨q,q2,hq,_⟩:=h5;rw [hq] at he;cases he) (fun e he=>by cases he)
    |pre _ _ _ _|part _ _ _ _ _|pb _ _ _=>exact other (fun e he=>by obtain ⟨q,hq,_⟩:=h5;rw [hq] at he;cases he) (fun e he=>by cases he)
    |pa _ _ _ _ _=>exact other (fun e he=>by obtain ⟨hq,_⟩:=h5;rw [hq] at he;cases he) (fun e he=>by cases he)
theorem Jx {p:St} {t c esz:Nat} (h: ∀cs,p.aE[t]?≠anz (.box cs)):rA p t c esz=p:=by
 unfold rA;split
 · rename_i cs mZ;exact absurd mZ (h cs)
 rfl
theorem UW {st:qB} {p:St} (h:X2 st p) {v:SV} {q:PV} (hv:R st.aE v q) (hs:v≠ .iS):(∃t,Uu v=anz t/\EF q=anz t)\/(Uu v=anA/\ ∀t,EF q=anz t-> ∀cs,p.aE[t]?≠anz (.box cs)):=by
 cases v with
 |iS=>exact absurd rfl hs
 |bp u m off=>
  have hq:q= .ptr u m 0 off:=hv;subst hq;cases off with
  |zero=>exact .inl ⟨u,rfl,rfl⟩
  |succ off=>exact .inr ⟨rfl,fun t ht=>by cases ht⟩
 |pb u i off=>
  obtain ⟨e',hq,db⟩:=hv;subst hq;refine .inr ⟨rfl,fun t ht cs mZ=>?_⟩
  have:t=u:=by
   unfold EF at ht;split at ht
   · rename_i heq;injection heq with e1;injection ht with ht;rw [<- ht,e1]
   cases ht
  subst this;rcases db with ⟨r,l,h1,_⟩|h1
  · rw [h.r.aE.arr h1] at mZ;cases mZ
  obtain ⟨q,h2,h3⟩:=h.r.aE.at_ t _ h1
  rw [mZ] at h2;injection h2 with h2;subst h2;cases (show jX.box cs= .dead from h3)
 |pa u r i a off=>
  obtain ⟨hq,db⟩:=hv;subst hq;refine .inr ⟨rfl,fun t ht cs mZ=>?_⟩
  have:t=u:=by
   unfold EF at ht;split at ht
   · rename_i heq;injection heq with e1;injection ht with ht;rw [<- ht,e1]
   cases ht
  subst this;rcases db with ⟨l,h1,_⟩|h1
  · rw [h.r.aE.arr h1] at mZ;cases mZ
  obtain ⟨q,h2,h3⟩:=h.r.aE.at_ t _ h1
  rw [mZ] at h2;injection h2 with h2;subst h2;cases (show jX.box cs= .dead from h3)
 |undef|jB|dR|int _ _|bool _|str _|mp _|sl _ _|nil _ _=>exact .inr ⟨rfl,fun t ht=>by rw [show q=_ from hv] at ht;cases ht⟩
 |agg _|cq _|bH _ _=>exact .inr ⟨rfl,fun t ht=>by obtain ⟨_,rfl,_⟩:=hv;cases ht⟩
 |eI _ _ _=>exact .inr ⟨rfl,fun t ht=>by obtain ⟨_,_,rfl,_⟩:=hv;cases ht⟩
 |own _ _=>exact .inr ⟨rfl,fun t ht=>by obtain ⟨_,_,rfl,_⟩:=hv;cases ht⟩
 |pre _ _ _ _|part _ _ _ _ _=>exact .inr ⟨rfl,fun t ht=>by obtain ⟨_,rfl,_⟩:=hv;cases ht⟩
theorem agZ {st:qB} {p:St} (h:X2 st p) {v:SV} {q:PV} (hv:R st.aE v q) (hs:v.sure=anB):(∃t,XF v=anz t/\KH q=anz t)\/(XF v=anA/\ ∀t,KH q=anz t-> ∀cs,p.aE[t]?≠anz (.box cs)):=by
 have hj:v≠ .iS:=fun e=>by subst e;cases hs
 by_cases hc: ∃f a b,v= .eI f a b
 · obtain ⟨f,a,b,rfl⟩:=hc
   obtain ⟨pa,pb,rfl,h1,h2⟩:=hv;cases b with
   |nil=>
    have:pb=[]:=h2
    subst this;exact .inr ⟨rfl,fun t ht=>by cases ht⟩
   |cons y ys=>
    obtain ⟨z,zs,rfl,g1,g2⟩:=h2;exact UW h g1 (fun e=>by subst e;simp [SV.sure,mw] at hs)
 have e1:XF v=Uu v:=by
  cases v with
  |eI f a b=>exact absurd ⟨f,a,b,rfl⟩ hc
  |_=>rfl
 have e2:KH q=EF q:=by
  cases q with
  |eI f a b=>
   exfalso;cases v with
   |iS=>exact hj rfl
   |eI f a b=>exact hc ⟨f,a,b,rfl⟩
   |bp _ _ _|undef|jB|dR|int _ _|bool _|str _|mp _|sl _ _|nil _ _=>cases (show PV.eI f a b=_ from hv)
   |agg _|cq _|bH _ _|pre _ _ _ _|part _ _ _ _ _|pb _ _ _=>obtain ⟨_,hq,_⟩:=hv;cases hq
   |own _ _=>obtain ⟨_,_,hq,_⟩:=hv;cases hq
   |pa _ _ _ _ _=>obtain ⟨hq,_⟩:=hv;cases hq
  |_=>rfl
 rw [e1,e2];exact UW h hv hj
theorem nC {rk:List (Nat×List PT)}: ∀(live:List (Nat×Option Nat)) {st:qB} {p:St},X2 st p->X2 (ma rk live st) (kG live p)
 | [],st,p,h=>h
 |(t,k)::live,st,p,h=>by
  cases k with
  |none=>simp only [ma,kG];exact nC live h
  |some n=>
   simp only [ma,kG];cases hn:M2 1000 n with
   |false=>simp only [ol,PP,if_false];exact nC live h
   |true=>
    simp only [lw,if_true];have vj:=h.r.env.lk t;have hsu:=h.e.lk t;rcases agZ h vj hsu with ⟨u,e1,e2⟩|⟨e1,e2⟩
    · rw [e1,e2]
      exact nC live (OB h u _ _)
    rw [e1]
    cases hb:KH (lk t p.env) with
    |none=>exact nC live h
    |some u=>
     show X2 (ma rk live st) (kG live (rA p u (n / 1000-1) (n%1000)));rw [Jx (e2 u hb)];exact nC live h
theorem LG {e:SE} {pe:Env} (hE:dU s e pe): ∀{live:List (Nat×Option Nat)},Bx e live=anB->Fs e live=live.flatMap fun p=>jc s6 (lk p.1 pe)
 | [],_=>rfl
 |(t,k)::live,h=>by
  simp only [Bx,v6] at h;simp only [Fs,an0,LG hE h.2];rw [US (fun _=>rfl) (hE.lk t) h.1]
theorem UX: ∀{s':List SB} {s:List SB} {ps:cH} (n:Nat),(anx ps=anx s/\ ∀(t:Nat) (b:SB),s[t]? =anz b-> ∃q,ps[t]? =anz q/\RB s' b q)->Ft s n=anB->Ol s n=(ps.take n).flatMap ry
 |s',[],ps,n,h,_=>by
  have:ps=[]:=aga.1 (by simpa using h.1)
  subst this;cases n<;>simp [Ol]
 |s',b::s,ps,0,h,_=>by simp [Ol]
 |s',b::s,ps,n+1,h,hk=>by
  cases ps with
  |nil=>have:=h.1;simp at this
  |cons q ps=>
   simp only [Ft,v6] at hk;obtain ⟨q',h1,h2⟩:=h.2 0 b rfl;simp at h1;subst h1;simp only [Ol,akt,an0,Jv h2 hk.1];rw [UX (s':=s') (ps:=ps) n ⟨by simpa using h.1,fun t x hx=>by simpa using h.2 (t+1) x (by simpa using hx)⟩ hk.2]
theorem Qn {s:List SB} {v:SV} {p:PV} (h:R s v p):R s (HU s v) p:=by
 unfold HU;split
 · rename_i t ex
   rw [cw];split
   · rename_i r l ck
     obtain ⟨e,n,rfl,db⟩:=h;obtain ⟨rfl,rfl⟩:=db.inv ck;exact ⟨anx r,rfl,.inl ⟨r,l,ck,rfl⟩⟩
   exact h
 exact h
theorem Qo {s:List SB} (c:Nat): ∀{e:SE} {p:Env},dU s e p->dU s (Qd s c e) p
 | [],_,h=>h
 |(t,v)::r,_,h=>by
  obtain ⟨q,qs,rfl,h1,h2⟩:=h;simp only [Qd];cases hb:NE t c with
  |true=>exact ⟨q,qs,rfl,Qn h1,h2⟩
  |false=>exact ⟨q,qs,rfl,h1,Qo c h2⟩
theorem CV: ∀(live:List (Nat×Option Nat)) {st:qB} {p:St},zU st p->zU (Bw live st) p
 | [],st,p,h=>h
 |(t,k)::r,st,p,h=>by
  simp only [Bw];cases hn:M2 1000000 t with
  |true=>exact CV r ⟨Qo _ h.env,h.aE,h.fz,h.kn⟩
  |false=>exact CV r h
theorem LH {rk:List (Nat×List PT)} {live:List (Nat×Option Nat)} {st nX:qB} {p:St} (h:zU st p) (hn:Fu rk live st=anz nX): ∃p1,EG live p=anz p1/\zU nX p1:=by
 unfold Fu at hn;cases hc:(Bx st.env live&&Ft st.aE st.kn) with
 |false=>rw [hc] at hn;cases hn
 |true=>
  rw [hc] at hn;simp only [lw] at hn;simp only [v6] at hc;split at hn
  · cases hn
  rename_i m hm
  split at hn
  · rename_i s1 e1 s2 h1 h2
    injection hn with hn;subst hn;have ht:Ol st.aE st.kn++Fs st.env live=(p.aE.take p.kn).flatMap ry++live.flatMap fun q=>jc s6 (lk q.1 p.env):=by
     rw [LG h.env hc.1,UX (s':=st.aE) st.kn ⟨h.aE.len,h.aE.at_⟩ hc.2,h.kn]
    rw [ht] at hm;have CG:=FK h.aE _ _ _ _ hm;have hr:FM m st.aE (s1++s2):=FM.of h1;obtain ⟨p1,a1,a2,a3⟩:=CS h.aE hr h1;have cT:(anx s1)=(anx m):=(x7 h1).1;obtain ⟨pe1,q2,b1,b2,b3,b4⟩:=Jw h.env hr h2 (fun j b hj=>by rw [<- cT,Do (by omega)];simpa using hj)
    have qu:cJ (s1++s2) (p1++q2):=⟨by simp [a2,b3],fun t b ht=>by
     rcases afQ t (anx s1) with hl|hl
     · rw [AC hl] at ht
       obtain ⟨q,c1,c2⟩:=a3 t b ht;exact ⟨q,by rw [AC (by omega)];exact c1,c2⟩
     rw [Do hl] at ht
     obtain ⟨q,c1,c2⟩:=b4 _ b ht;exact ⟨q,by rw [Do (by omega),a2];exact c1,c2⟩⟩
    have hs:afL (s1++s2):=fun t cs ht=>by
     rcases afQ t (anx s1) with hl|hl
     · rw [AC hl] at ht
       obtain ⟨b,c,d1,d2,d3⟩:=(x7 h1).2 t (m[t]'(by omega)) (F0s (by omega))
       rw [ht] at d3;injection d3 with d3;subst d3;cases b with
       |box x=>
        simp only [Oj] at d2;split at d2
        · rename_i l mA;injection d2 with d2;injection d2 with d2;subst d2;exact na mA
        cases d2
       |arr _ _=>injection d2 with d2;cases d2
       |set _=>injection d2 with d2;cases d2
       |aO _ _=>injection d2 with d2;cases d2
       |dead=>injection d2 with d2;cases d2
     rw [Do hl] at ht
     obtain ⟨r,hr'⟩:=CT h2 _ _ ht;cases hr'
    have hR:X2 {env:=e1,aE:=s1++s2,fz:=xF st.fz 0 m,kn:=st.kn} {env:=pe1,aE:=p1++q2,fz:=xF p.fz 0 m,kn:=p.kn}:=
     ⟨⟨b2,qu,by rw [h.fz],h.kn⟩,hs,AM h2⟩
    refine ⟨_,?_,CV live (nC live hR).r⟩;unfold EG;rw [h.kn] at CG;rw [h.kn];rw [CG];dsimp only;rw [a1,b1]
  cases hn
theorem Qp {rk:List (Nat×List PT)} {live:List (Nat×Option Nat)} {st nX:qB} {p:St} (h:zU st p) (hn:Fv rk live st=anz nX): ∃p1,norm live p=anz p1/\zU nX p1:=by
 unfold Fv at hn;cases h1:Fu rk live st with
 |none=>rw [h1] at hn;cases hn
 |some s=>
  rw [h1] at hn;dsimp only at hn;obtain ⟨p1,h2,h3⟩:=LH h h1;unfold norm;rw [h2];dsimp only;cases ha:(live.any fun p=>p.2.isSome) with
  |true=>
   rw [ha] at hn;simp only [lw] at hn;rw [pp rfl];exact LH h3 hn
  |false=>
   rw [ha] at hn;injection hn with hn;subst hn;exact ⟨p1,by rw [rc (by simp)],h3⟩
mutual
theorem En: ∀{a b:SV} (q:List xB),xm a b=anB->s9 a (CO b++q)=(b,q)
 | .undef,.undef,q,_=>rfl
 | .jB,.jB,q,_=>rfl
 | .dR,.dR,q,_=>rfl
 | .int k _,.int l n,q,h=>by rw [fj.1 h];rfl
 | .bool _,.bool _,q,_=>rfl
 | .agg a,.agg b,q,h=>by simp only [s9,CO,oi q h]
 | .cq a,.cq b,q,h=>by simp only [s9,CO,oi q h]
 | .sl r _,.sl r' l,q,h=>rfl
 | .nil e c,.nil f d,q,h=>by
  simp only [xm,v6,beq_iff_eq] at h;rw [ut h.1,h.2];rfl
 | .own t x,.own u y,q,h=>by
  simp only [xm,v6,beq_iff_eq] at h;rw [ut h.1,h.2];rfl
 | .pre t _ _ x,.pre u _ _ y,q,h=>by
  simp only [xm,v6,beq_iff_eq] at h;rw [ut h.1,h.2];rfl
 | .part t _ _ _ x,.part u _ _ _ y,q,h=>by
  simp only [xm,v6,beq_iff_eq] at h;rw [ut h.1,h.2];rfl
 | .pb t _ o,.pb u _ p,q,h=>by
  simp only [xm,v6] at h;rw [ut h.1,ut h.2];rfl
 | .bp t n o,.bp u m p,q,h=>by
  simp only [xm,v6] at h;rw [ut h.1.1,ut h.1.2,ut h.2];rfl
 | .bH a o,.bH b p,q,h=>by
  simp only [xm,v6] at h;simp only [s9,CO,oi q h.1,ut h.2]
 | .eI f a b,.eI g c d,q,h=>by
  simp only [xm,v6] at h;simp only [s9,CO,af4,oi _ h.1.2,oi q h.2,ut h.1.1]
 | .mp t,.mp u,q,h=>by rw [ut h];rfl
theorem oi: ∀{a b:List SV} (q:List xB),x3 a b=anB->rJ a (CP b++q)=(b,q)
 | [],[],q,_=>rfl
 |x::xs,y::ys,q,h=>by
  simp only [x3,v6] at h;simp only [rJ,CP,af4,En _ h.1,oi q h.2]
 | [],_::_,_,h=>by cases h
 |_::_,[],_,h=>by cases h
end
theorem UY: ∀{a b:SB} (q:List xB),afD a b=anB->Om a (Uv b++q)=(b,q)
 | .arr r _,.arr r' l,q,h=>rfl
 | .box a,.box b,q,h=>by simp only [Om,Uv,oi q h]
 | .set _,.set _,q,_=>rfl
 | .aO p _,.aO p' l,q,h=>by obtain rfl:p=p':=PT.P8 h;rfl
 | .dead,.dead,q,_=>rfl
 | .arr _ _,.box _,_,h| .arr _ _,.set _,_,h| .arr _ _,.dead,_,h| .box _,.arr _ _,_,h| .box _,.set _,_,h| .box _,.dead,_,h| .set _,.arr _ _,_,h| .set _,.box _,_,h| .set _,.dead,_,h| .dead,.arr _ _,_,h| .dead,.box _,_,h| .dead,.set _,_,h
 | .aO _ _,.arr _ _,_,h| .aO _ _,.box _,_,h| .aO _ _,.set _,_,h| .aO _ _,.dead,_,h| .arr _ _,.aO _ _,_,h| .box _,.aO _ _,_,h| .set _,.aO _ _,_,h| .dead,.aO _ _,_,h=>by cases h
theorem BL: ∀{a b:List SB} (q:List xB),Fw a b=anB->AD a (Jo b++q)=(b,q)
 | [],[],q,_=>rfl
 |x::xs,y::ys,q,h=>by
  simp only [Fw,v6] at h;simp only [AD,Jo,af4,UY _ h.1,BL q h.2]
 | [],_::_,_,h=>by cases h
 |_::_,[],_,h=>by cases h
theorem LJ: ∀{a b:SE} (q:List xB),Qe a b=anB->Lu a (Sa b++q)=(b,q)
 | [],[],q,_=>rfl
 |(t,x)::xs,(u,y)::ys,q,h=>by
  simp only [Qe,v6] at h;simp only [Lu,Sa,af4,En _ h.1.2,LJ q h.2,ut h.1.1]
 | [],_::_,_,h=>by cases h
 |_::_,[],_,h=>by cases h
theorem LK: ∀{a b:List Nat},Qf a b=anB->a=b
 | [],[],_=>rfl
 |x::xs,y::ys,h=>by
  simp only [Qf,v6] at h;rw [ut h.1,LK h.2]
 | [],_::_,h=>by cases h
 |_::_,[],h=>by cases h
theorem Sl {a b:qB} (h:Fx a b=anB):zR a (xl b)=b:=by
 obtain ⟨e1,s1,z1,k1⟩:=a;obtain ⟨e2,s2,z2,k2⟩:=b;simp only [Fx,v6] at h;obtain ⟨⟨⟨h1,h2⟩,h3⟩,h4⟩:=h;have hs:=BL [] h2;rw [af5] at hs;simp only [zR,xl,LJ _ h1,hs,LK h3,ut h4]
theorem AK.afM: ∀{a:AK} {x:xB} {y:a.T},a.of x=anz y->a.at y=x
 | .i,.i _,y,h=>by injection h with h;subst h;rfl
 | .b,.b _,y,h=>by injection h with h;subst h;rfl
 | .n,.n _,y,h=>by injection h with h;subst h;rfl
 | .l r,.l q x,y,h=>by obtain ⟨rfl,rfl⟩:=pf h;rfl
 | .s,.s _,y,h=>by injection h with h;subst h;rfl
 | .i,.b _,_,h| .i,.n _,_,h| .i,.l _ _,_,h| .i,.s _,_,h| .b,.i _,_,h| .b,.n _,_,h| .b,.l _ _,_,h| .b,.s _,_,h| .n,.i _,_,h| .n,.b _,_,h| .n,.l _ _,_,h| .n,.s _,_,h
 | .l _,.i _,_,h| .l _,.b _,_,h| .l _,.n _,_,h| .l _,.s _,_,h| .s,.i _,_,h| .s,.b _,_,h| .s,.n _,_,h| .s,.l _ _,_,h=>by cases h
theorem sD: ∀{ks:List AK} {l:List xB} {y:j7 ks},qY ks l=anz y->mC ks y=l
 | [],[],y,_=>rfl
 | [a],[x],y,h=>by
  have:=AK.afM (a:=a) h
  simp only [mC,this]
 |a::q::r,x::xs,y,h=>by
  simp only [qY] at h;split at h
  · rename_i u v h1 h2
    injection h with h;subst h;simp only [mC,AK.afM h1,sD h2]
  cases h
 | [],_::_,_,h=>by cases h
 | [_],[],_,h=>by cases h
 | [_],_::_::_,_,h=>by cases h
 |_::_::_,[],_,h=>by cases h
end
end Go.Vm
/- What is known of functions, and what a call of one comes to. -/
namespace Go.Vm
mutual
def FN:Nat->PV->Option (PV×cH)
 |_,.int k n=>anz (.int k n,[])
 |_,.bool b=>anz (.bool b,[])
 |nx,.agg cs=>match FO nx cs with|some r=>anz (.agg r.1,r.2)|none=>anA
 |nx,.cq cs=>match FO nx cs with|some r=>anz (.cq r.1,r.2)|none=>anA
 |nx,.sl e anC rows=>anz (.own nx e 0 (anx rows) (anx rows) anC,[.arr e rows])
 |_,_=>anA
def FO:Nat->List PV->Option (List PV×cH)
 |_,[]=>anz ([],[])
 |nx,x::xs=>match FN nx x with
  |some a=>match FO (nx+anx a.2) xs with
   |some b=>anz (a.1::b.1,a.2++b.2)
   |none=>anA
  |none=>anA
end
def wa (s:List SB) (n:Nat) (l:List SB):Prop:= ∀(j:Nat) (b:SB),l[j]? =anz b->s[n+j]? =anz b
theorem wa.left {s:List SB} {n:Nat} {l m:List SB} (h:wa s n (l++m)):wa s n l:=fun j b hj=>h j b (by
 rw [AC (ww.1 hj).1];exact hj)
theorem wa.right {s:List SB} {n:Nat} {l m:List SB} (h:wa s n (l++m)):wa s (n+anx l) m:=fun j b hj=>by
 have:=h (anx l+j) b (by rw [Do (by omega)];simpa using hj)
 rwa [Nat.add_assoc]
def OC (s:List SB) (l:List SB) (q:cH):Prop:=anx q=anx l/\ ∀(j:Nat) (b:SB),l[j]? =anz b-> ∃x,q[j]? =anz x/\RB s b x
theorem OC.append {s l m:List SB} {q r:cH} (h:OC s l q) (k:OC s m r):OC s (l++m) (q++r):=by
 refine ⟨by simp [h.1,k.1],fun j b hj=>?_⟩
 rcases afQ j (anx l) with hl|hl
 · rw [AC hl] at hj
   obtain ⟨x,h1,h2⟩:=h.2 j b hj;exact ⟨x,by rw [AC (by rw [h.1];exact hl)];exact h1,h2⟩
 rw [Do hl] at hj
 obtain ⟨x,h1,h2⟩:=k.2 _ b hj;exact ⟨x,by rw [Do (by rw [h.1];exact hl),h.1];exact h1,h2⟩
theorem OC.nil {s:List SB}:OC s [] []:=⟨rfl,fun j b h=>by simp at h⟩
theorem OC.one {s:List SB} {b:SB} {x:jX} (h:RB s b x):OC s [b] [x]:=⟨rfl,fun j c hc=>by
 cases j with
 |zero=>simp at hc;subst hc;exact ⟨x,rfl,h⟩
 |succ j=>simp at hc⟩
mutual
theorem Qq: ∀{v:SV} {nx:Nat} {p0 p:PV} {q:cH},sC v=anz p0->FN nx p0=anz (p,q)-> ∀{s:List SB},wa s nx (xZ nx v).2->R s (xZ nx v).1 p/\OC s (xZ nx v).2 q
 | .int k n,nx,p0,p,q,h0,h,s,_=>by injection h0 with h0;subst h0;injection h with h;injection h with h1 h2;subst h1 h2;exact ⟨rfl,OC.nil⟩
 | .bool b,nx,p0,p,q,h0,h,s,_=>by injection h0 with h0;subst h0;injection h with h;injection h with h1 h2;subst h1 h2;exact ⟨rfl,OC.nil⟩
 | .agg cs,nx,p0,p,q,h0,h,s,hb=>by
  simp only [sC] at h0;split at h0
  · rename_i l hl
    injection h0 with h0;subst h0;simp only [FN] at h;split at h
    · rename_i r hr
      injection h with h;injection h with h1 h2;subst h1 h2;obtain ⟨h3,h4⟩:=FP (p:=r.1) (q:=r.2) hl hr hb;exact ⟨⟨r.1,rfl,h3⟩,h4⟩
    cases h
  cases h0
 | .cq cs,nx,p0,p,q,h0,h,s,hb=>by
  simp only [sC] at h0;split at h0
  · rename_i l hl
    injection h0 with h0;subst h0;simp only [FN] at h;split at h
    · rename_i r hr
      injection h with h;injection h with h1 h2;subst h1 h2;obtain ⟨h3,h4⟩:=FP (p:=r.1) (q:=r.2) hl hr hb;exact ⟨⟨r.1,rfl,h3⟩,h4⟩
    cases h
  cases h0
 | .sl r l,nx,p0,p,q,h0,h,s,hb=>by
  injection h0 with h0;subst h0;injection h with h;injection h with h1 h2;subst h1 h2;refine ⟨⟨anx r,anx l,by simp,.inl ⟨r,l,hb 0 _ rfl,rfl,rfl⟩⟩,OC.one rfl⟩
 | .nil e c,nx,p0,p,q,h0,h,s,hb=>by
  injection h0 with h0;subst h0;cases c with
  |true=>simp [FN] at h
  |false=>
   injection h with h;injection h with h1 h2;subst h1 h2;exact ⟨⟨e,0,rfl,.inl ⟨_,[],hb 0 _ rfl,by simp,rfl⟩⟩,OC.one (by show _=_;simp)⟩
 | .str _,nx,p0,p,q,h0,h,s,_=>by injection h0 with h0;subst h0;cases h
 | .dR,nx,p0,p,q,h0,h,s,_=>by injection h0 with h0;subst h0;cases h
 | .bH cs o,nx,p0,p,q,h0,h,s,_=>by
  simp only [sC] at h0;split at h0
  · injection h0 with h0;subst h0;cases h
  cases h0
 | .eI f a b,nx,p0,p,q,h0,h,s,_=>by
  simp only [sC] at h0;split at h0
  · injection h0 with h0;subst h0;cases h
  cases h0
 | .iS,_,_,_,_,h0,_,_,_| .undef,_,_,_,_,h0,_,_,_| .jB,_,_,_,_,h0,_,_,_| .own _ _,_,_,_,_,h0,_,_,_| .pre _ _ _ _,_,_,_,_,h0,_,_,_| .part _ _ _ _ _,_,_,_,_,h0,_,_,_
 | .pa _ _ _ _ _,_,_,_,_,h0,_,_,_| .pb _ _ _,_,_,_,_,h0,_,_,_| .bp _ _ _,_,_,_,_,h0,_,_,_| .mp _,_,_,_,_,h0,_,_,_=>by cases h0
theorem FP: ∀{v:List SV} {nx:Nat} {p0 p:List PV} {q:cH},qZ v=anz p0->FO nx p0=anz (p,q)-> ∀{s:List SB},wa s nx (uw nx v).2->RL s (uw nx v).1 p/\OC s (uw nx v).2 q
 | [],nx,p0,p,q,h0,h,s,_=>by injection h0 with h0;subst h0;injection h with h;injection h with h1 h2;subst h1 h2;exact ⟨rfl,OC.nil⟩
 |x::xs,nx,p0,p,q,h0,h,s,hb=>by
  obtain ⟨a,as,rfl,h1,h2⟩:=eF.1 h0;simp only [FO] at h;split at h
  · rename_i ra hra
    split at h
    · rename_i rb hrb
      injection h with h;injection h with e1 e2;subst e1 e2;simp only [uw] at hb ⊢;obtain ⟨k1,k2⟩:=Qq (p:=ra.1) (q:=ra.2) h1 hra hb.left;rw [k2.1] at hrb;obtain ⟨k3,k4⟩:=FP (p:=rb.1) (q:=rb.2) h2 hrb hb.right;exact ⟨RL.cons k1 k3,k2.append k4⟩
    cases h
  cases h
end
mutual
theorem UZ {s:List SB} {ps:cH} {z:List Nat} (hS:cJ s ps): ∀{v v':SV} {p:PV} {seen seen':List Nat} (nx:Nat),R s v p->R9 s z seen v=anz (v',seen')-> ∃p0 p' q,sC v'=anz p0/\FN nx p0=anz (p',q)/\zG ps z nx seen p=anz (p',q,seen')
 | .int k n,v',p,seen,seen',nx,h,hx=>by injection hx with hx;injection hx with h1 h2;subst h1 h2;rw [show p=_ from h];exact ⟨_,_,_,rfl,rfl,rfl⟩
 | .bool k,v',p,seen,seen',nx,h,hx=>by injection hx with hx;injection hx with h1 h2;subst h1 h2;rw [show p=_ from h];exact ⟨_,_,_,rfl,rfl,rfl⟩
 | .agg cs,v',p,seen,seen',nx,h,hx=>by
  obtain ⟨q,rfl,h⟩:=h;simp only [R9] at hx;split at hx
  · rename_i r hr
    injection hx with hx;injection hx with h1 h2;subst h1 h2;obtain ⟨p0,p',q',h3,h4,h5⟩:=Jy hS (v':=r.1) (seen':=r.2) nx h hr;exact ⟨.agg p0,.agg p',q',by simp only [sC,h3],by simp only [FN,h4],by simp only [zG,h5];rfl⟩
  cases hx
 | .cq cs,v',p,seen,seen',nx,h,hx=>by
  obtain ⟨q,rfl,h⟩:=h;simp only [R9] at hx;split at hx
  · rename_i r hr
    injection hx with hx;injection hx with h1 h2;subst h1 h2;obtain ⟨p0,p',q',h3,h4,h5⟩:=Jy hS (v':=r.1) (seen':=r.2) nx h hr;exact ⟨.cq p0,.cq p',q',by simp only [sC,h3],by simp only [FN,h4],by simp only [zG,h5];rfl⟩
  cases hx
 | .nil e c,v',p,seen,seen',nx,h,hx=>by
  cases c with
  |false=>cases hx
  |true=>injection hx with hx;injection hx with h1 h2;subst h1 h2;rw [show p=_ from h];exact ⟨_,_,_,rfl,rfl,rfl⟩
 | .own t ex,v',p,seen,seen',nx,h,hx=>by
  obtain ⟨e,n,rfl,db⟩:=h;simp only [R9,cw] at hx;split at hx
  · rename_i r l ck
    obtain ⟨rfl,rfl⟩:=db.inv ck;cases hc:(has seen t||has z t) with
    |true=>rw [hc] at hx;cases hx
    |false=>
     rw [hc] at hx;injection hx with hx;injection hx with h1 h2;subst h1 h2;refine ⟨_,_,_,rfl,rfl,?_⟩;simp only [zG,hS.arr ck,hc];simp
  cases hx
 | .iS,_,_,_,_,_,_,hx| .undef,_,_,_,_,_,_,hx| .jB,_,_,_,_,_,_,hx| .dR,_,_,_,_,_,_,hx| .str _,_,_,_,_,_,_,hx| .sl _ _,_,_,_,_,_,_,hx| .pre _ _ _ _,_,_,_,_,_,_,hx| .part _ _ _ _ _,_,_,_,_,_,_,hx
 | .pa _ _ _ _ _,_,_,_,_,_,_,hx| .pb _ _ _,_,_,_,_,_,_,hx| .bp _ _ _,_,_,_,_,_,_,hx| .bH _ _,_,_,_,_,_,_,hx| .eI _ _ _,_,_,_,_,_,_,hx| .mp _,_,_,_,_,_,_,hx=>by cases hx
theorem Jy {s:List SB} {ps:cH} {z:List Nat} (hS:cJ s ps): ∀{v v':List SV} {p:List PV} {seen seen':List Nat} (nx:Nat),RL s v p->Lt s z seen v=anz (v',seen')-> ∃p0 p' q,qZ v'=anz p0/\FO nx p0=anz (p',q)/\IP ps z nx seen p=anz (p',q,seen')
 | [],v',p,seen,seen',nx,h,hx=>by injection hx with hx;injection hx with h1 h2;subst h1 h2;rw [show p=_ from h];exact ⟨_,_,_,rfl,rfl,rfl⟩
 |x::xs,v',p,seen,seen',nx,h,hx=>by
  obtain ⟨a,as,rfl,h1,h2⟩:=h.cons_inv;simp only [Lt] at hx;split at hx
  · rename_i r hr
    split at hx
    · rename_i r2 P2
      injection hx with hx;injection hx with e1 e2;subst e1 e2;obtain ⟨p0,p',q,k1,k2,k3⟩:=UZ hS (v':=r.1) (seen':=r.2) nx h1 hr;obtain ⟨p02,p'2,q2,k4,k5,k6⟩:=Jy hS (v':=r2.1) (seen':=r2.2) (nx+anx q) h2 P2;exact ⟨p0::p02,p'::p'2,q++q2,eF.2 ⟨_,_,rfl,k1,k4⟩,by simp only [FO,k2,k5],by simp only [IP,k3,k6]⟩
    cases hx
  cases hx
end
mutual
theorem LL {s:List SB}: ∀{v:SV} {p:PV},R s v p->AB v=anB->p.kF=anB
 | .int _ _,p,h,_| .bool _,p,h,_| .str _,p,h,_=>by rw [show p=_ from h];rfl
 | .agg cs,p,h,hn=>by obtain ⟨q,rfl,h⟩:=h;exact CW h hn
 | .cq cs,p,h,hn=>by obtain ⟨q,rfl,h⟩:=h;exact CW h hn
 | .iS,_,_,h| .undef,_,_,h| .jB,_,_,h| .dR,_,_,h| .sl _ _,_,_,h| .nil _ _,_,_,h| .own _ _,_,_,h| .pre _ _ _ _,_,_,h| .part _ _ _ _ _,_,_,h| .pa _ _ _ _ _,_,_,h| .pb _ _ _,_,_,h| .bp _ _ _,_,_,h| .bH _ _,_,_,h| .eI _ _ _,_,_,h| .mp _,_,_,h=>by cases h
theorem CW {s:List SB}: ∀{v:List SV} {p:List PV},RL s v p->rI v=anB->vH p=anB
 | [],p,h,_=>by rw [show p=_ from h];rfl
 |x::xs,p,h,hn=>by
  obtain ⟨a,as,rfl,h1,h2⟩:=h.cons_inv;simp only [rI,v6] at hn;simp only [vH,LL h1 hn.1,CW h2 hn.2,afa]
end
mutual
theorem H6 {s:List SB} {u:SV}: ∀{v:SV} {p:PV},R s v p->AB v=anC->Ut s v=anz u->p.kF=anC
 | .int _ _,p,h,hn,_| .bool _,p,h,hn,_| .str _,p,h,hn,_=>by cases hn
 | .agg cs,p,h,hn,hi=>by
  obtain ⟨q,rfl,h⟩:=h;simp only [Ut] at hi;split at hi
  · rename_i l hl;exact AN h hn hl
  cases hi
 | .cq cs,p,h,hn,hi=>by
  obtain ⟨q,rfl,h⟩:=h;simp only [Ut] at hi;split at hi
  · rename_i l hl;exact AN h hn hl
  cases hi
 | .sl _ _,p,h,_,_=>by rw [show p=_ from h];rfl
 | .nil _ _,p,h,_,_=>by rw [show p=_ from h];rfl
 | .own _ _,p,h,_,_=>by obtain ⟨e,n,rfl,_⟩:=h;rfl
 | .pre _ _ _ _,p,h,_,_=>by obtain ⟨e,rfl,_⟩:=h;rfl
 | .part _ _ _ _ _,p,h,_,_=>by obtain ⟨e,rfl,_⟩:=h;rfl
 | .iS,_,_,_,h| .undef,_,_,_,h| .jB,_,_,_,h| .dR,_,_,_,h| .pa _ _ _ _ _,_,_,_,h| .pb _ _ _,_,_,_,h| .bp _ _ _,_,_,_,h| .bH _ _,_,_,_,h| .eI _ _ _,_,_,_,h| .mp _,_,_,_,h=>by cases h
theorem AN {s:List SB}: ∀{v u:List SV} {p:List PV},RL s v p->rI v=anC->Oi s v=anz u->vH p=anC
 | [],u,p,h,hn,_=>by cases hn
 |x::xs,u,p,h,hn,hi=>by
  obtain ⟨a,as,rfl,h1,h2⟩:=h.cons_inv;simp only [Oi] at hi;split at hi
  · rename_i y ys h3 h4
    simp only [rI] at hn;simp only [vH];cases hx:AB x with
    |false=>rw [H6 h1 hx h3];rfl
    |true=>rw [hx] at hn;rw [AN h2 (by simpa using hn) h4];simp
  cases hi
end
mutual
theorem afN {s:List SB} {ps:cH} (hS:cJ s ps): ∀{v u:SV} {p:PV},R s v p->Ut s v=anz u-> ∃q,yN ps p=anz q/\sC u=anz q
 | .int k n,u,p,h,hx=>by injection hx with hx;subst hx;rw [show p=_ from h];exact ⟨_,rfl,rfl⟩
 | .bool b,u,p,h,hx=>by injection hx with hx;subst hx;rw [show p=_ from h];exact ⟨_,rfl,rfl⟩
 | .str x,u,p,h,hx=>by injection hx with hx;subst hx;rw [show p=_ from h];exact ⟨_,rfl,rfl⟩
 | .agg cs,u,p,h,hx=>by
  obtain ⟨q,rfl,h⟩:=h;simp only [Ut] at hx;split at hx
  · rename_i l hl
    injection hx with hx;subst hx;obtain ⟨q',h1,h2⟩:=OD hS h hl;exact ⟨.agg q',by simp only [yN,h1];rfl,by simp only [sC,h2]⟩
  cases hx
 | .cq cs,u,p,h,hx=>by
  obtain ⟨q,rfl,h⟩:=h;simp only [Ut] at hx;split at hx
  · rename_i l hl
    injection hx with hx;subst hx;obtain ⟨q',h1,h2⟩:=OD hS h hl;exact ⟨.cq q',by simp only [yN,h1];rfl,by simp only [sC,h2]⟩
  cases hx
 | .sl r l,u,p,h,hx=>by injection hx with hx;subst hx;rw [show p=_ from h];exact ⟨_,rfl,rfl⟩
 | .nil e c,u,p,h,hx=>by injection hx with hx;subst hx;rw [show p=_ from h];exact ⟨_,rfl,rfl⟩
 | .own t ex,u,p,h,hx=>by
  simp only [Ut,cw] at hx;split at hx
  · rename_i r l ck
    injection hx with hx;subst hx;obtain ⟨e,n,rfl,db⟩:=h;obtain ⟨rfl,rfl⟩:=db.inv ck;refine ⟨.sl (anx r) anC (l.map (RT.pv r)),?_,rfl⟩;simp only [yN,hS.arr ck,afk];rw [afi (by simp)]
  cases hx
 | .pre t len cap ex,u,p,h,hx=>by
  simp only [Ut,cw] at hx;split at hx
  · rename_i r l ck
    injection hx with hx;subst hx;obtain ⟨e,rfl,db⟩:=h
    have:=db.inv ck
    subst this;refine ⟨.sl (anx r) anC ((l.take len).map (RT.pv r)),?_,rfl⟩;simp only [yN,hS.arr ck,afk,afh]
  cases hx
 | .part t off len cap ex,u,p,h,hx=>by
  simp only [Ut,cw] at hx;split at hx
  · rename_i r l ck
    injection hx with hx;subst hx;obtain ⟨e,rfl,db⟩:=h
    have:=db.inv ck
    subst this;refine ⟨.sl (anx r) anC (((l.drop off).take len).map (RT.pv r)),?_,rfl⟩;simp only [yN,hS.arr ck,afh,afS]
  cases hx
 | .iS,_,_,_,hx| .undef,_,_,_,hx| .jB,_,_,_,hx| .dR,_,_,_,hx| .pa _ _ _ _ _,_,_,_,hx| .pb _ _ _,_,_,_,hx| .bp _ _ _,_,_,_,hx| .bH _ _,_,_,_,hx| .eI _ _ _,_,_,_,hx| .mp _,_,_,_,hx=>by cases hx
theorem OD {s:List SB} {ps:cH} (hS:cJ s ps): ∀{v u:List SV} {p:List PV},RL s v p->Oi s v=anz u-> ∃q,IN ps p=anz q/\qZ u=anz q
 | [],u,p,h,hx=>by injection hx with hx;subst hx;rw [show p=_ from h];exact ⟨_,rfl,rfl⟩
 |x::xs,u,p,h,hx=>by
  obtain ⟨a,as,rfl,h1,h2⟩:=h.cons_inv;simp only [Oi] at hx;split at hx
  · rename_i y ys h3 h4
    injection hx with hx;subst hx;obtain ⟨q,h5,h6⟩:=afN hS h1 h3;obtain ⟨qs,h7,h8⟩:=OD hS h2 h4;exact ⟨q::qs,by simp only [IN,h5,h7],eF.2 ⟨_,_,rfl,h6,h8⟩⟩
  cases hx
end
mutual
theorem U0 {s:List SB}: ∀{v:SV} {p:PV},sC v=anz p->R s v p
 | .int _ _,p,h| .bool _,p,h| .str _,p,h| .dR,p,h| .sl _ _,p,h| .nil _ _,p,h=>by injection h with h;exact h.symm
 | .agg cs,p,h=>by
  simp only [sC] at h;split at h
  · rename_i l hl;injection h with h;exact ⟨l,h.symm,FQ hl⟩
  cases h
 | .cq cs,p,h=>by
  simp only [sC] at h;split at h
  · rename_i l hl;injection h with h;exact ⟨l,h.symm,FQ hl⟩
  cases h
 | .bH cs o,p,h=>by
  simp only [sC] at h;split at h
  · rename_i l hl;injection h with h;exact ⟨l,h.symm,FQ hl⟩
  cases h
 | .eI f a b,p,h=>by
  simp only [sC] at h;split at h
  · rename_i x y h1 h2;injection h with h;exact ⟨x,y,h.symm,FQ h1,FQ h2⟩
  cases h
 | .iS,_,h| .undef,_,h| .jB,_,h| .own _ _,_,h| .pre _ _ _ _,_,h| .part _ _ _ _ _,_,h| .pa _ _ _ _ _,_,h| .pb _ _ _,_,h| .bp _ _ _,_,h| .mp _,_,h=>by cases h
theorem FQ {s:List SB}: ∀{v:List SV} {p:List PV},qZ v=anz p->RL s v p
 | [],p,h=>by injection h with h;exact h.symm
 |x::xs,p,h=>by
  obtain ⟨a,as,rfl,h1,h2⟩:=eF.1 h;exact RL.cons (U0 h1) (FQ h2)
end
def afO (kd:Kd) (n:Nat) (tk:List Nat) (v:SV) (r:nU):Prop:=
 match kd with
 | .pure=> ∃p,sC v=anz p/\r={v:=p,rd:=tk}
 | .mO=> ∃p,sC v=anz p/\r={v:=p,rd:=tk,fr:=tk}
 | .own=> ∃p0 p q,sC v=anz p0/\FN n p0=anz (p,q)/\r={v:=p,news:=q,rd:=tk}
def aF (F : mX) (f : FuncId) (c : bz) : Prop :=
  ∀ (a : c.α) (b : c.β) (as args : List PV) (aE : cH) (fz : List Nat), c.fn a = anz b -> qZ (c.args.enc a) = anz args -> Cp aE (xD aE deep) as = anz args ->
    ∃ n r, dw F (run F n) c.ow f as aE fz = anz r /\ afO c.kd (anx aE) (dD (di aE deep) as) (c.res.enc b) r
def dN.va (c:dN) (a:j7 c.ka):List SV:=(rJ c.ta (mC c.ka a)).1
def dN.sa (c:dN) (a:j7 c.ka):List SB:=(AD c.tb (rJ c.ta (mC c.ka a)).2).1
def dN.vb (c:dN) (b:j7 c.ko):SV:=(s9 c.tv (mC c.ko b)).1
def dN.sb (c:dN) (b:j7 c.ko):List SB:=(AD c.to (s9 c.tv (mC c.ko b)).2).1
def U1:SB->SB->Prop
 | .arr r l,.arr q m=>r=q/\anx m=anx l
 | .box _,.box _=>True
 | .set _,.set _=>True
 | .aO _ _,.aO _ _=>True
 | .dead,.dead=>True
 |_,_=>False
def jr (F : mX) (f : FuncId) (c : dN) : Prop :=
  ∀ (a : j7 c.ka) (b : j7 c.ko) (pa : List PV) (ps : cH), c.fn a = anz b -> RL (c.sa a) (c.va a) pa -> cJ (c.sa a) ps ->
    ∃ n v s, run F n (.func f pa ps []) = anz (.func v s []) /\ ig (c.sa a).length v s = anB /\ R (c.sb b) (c.vb b) v /\ cJ (c.sb b) (s.take (c.sa a).length) /\ (c.sb b).length = (c.sa a).length /\
      ∀ (t : Nat) (x y : SB), (c.sa a)[t]? = anz x -> (c.sb b)[t]? = anz y -> U1 x y
def AO (F:mX):List (Nat×bz)->Prop
 | []=>True
 |(f,c)::r=>aF F f c/\AO F r
def H7 (F:mX):List (Nat×dN)->Prop
 | []=>True
 |(f,c)::r=>jr F f c/\H7 F r
def BM (F:mX):List (Nat×Cd)->Prop
 | []=>True
 |(f,x)::r=>F f=anz x.ent/\BM F r
structure gI (F:mX) (cx:Ctx):Prop where
 con: ∀f c,c∈cx.con f->aF F f c
 fpc: ∀f c,c∈cx.fpc f->jr F f c
 code: ∀f x,cx.code f=anz x->F f=anz x.ent
theorem AO.mem {F:mX}: ∀{l:List (Nat×bz)},AO F l-> ∀f c,c∈Lz l f->aF F f c
 | [],_,f,c,h=>by cases h
 |(g,d)::r,hl,f,c,h=>by
  simp only [Lz] at h;cases hb:NE g f with
  |true=>
   rw [hb] at h
   have:=ut hb
   subst this;simp only [lw] at h;rcases h with _|⟨_,h⟩
   · exact hl.1
   exact AO.mem hl.2 _ c h
  |false=>rw [hb] at h;exact AO.mem hl.2 f c h
theorem H7.mem {F:mX}: ∀{l:List (Nat×dN)},H7 F l-> ∀f c,c∈LA l f->jr F f c
 | [],_,f,c,h=>by cases h
 |(g,d)::r,hl,f,c,h=>by
  simp only [LA] at h;cases hb:NE g f with
  |true=>
   rw [hb] at h
   have:=ut hb
   subst this;simp only [lw] at h;rcases h with _|⟨_,h⟩
   · exact hl.1
   exact H7.mem hl.2 _ c h
  |false=>rw [hb] at h;exact H7.mem hl.2 f c h
theorem BM.mem {F:mX}: ∀{l:List (Nat×Cd)},BM F l-> ∀f x,Js l f=anz x->F f=anz x.ent
 | [],_,f,c,h=>by cases h
 |(g,d)::r,hl,f,c,h=>by
  simp only [Js] at h;cases hb:NE g f with
  |true=>
   rw [hb] at h
   have:=ut hb
   subst this;injection h with h;subst h;exact hl.1
  |false=>rw [hb] at h;exact BM.mem hl.2 f c h
theorem gI.make {F:mX} {lp:Option Nat} {c:List (Nat×bz)} {p:List (Nat×dN)} {x:List (Nat×Cd)} {rk:List (Nat×List PT)} (h1:AO F c) (h2:H7 F p) (h3:BM F x):gI F (iT lp c p x rk):=
 ⟨h1.mem,h2.mem,h3.mem⟩
section
variable {F : mX} {R' ρ : Type} {w : R' -> ρ} {y : ρ} {s : List SB} {ps : cH} {z : List Nat}
theorem x9 {f:FuncId} {m:Bool} {tk:List Nat} {vs:List SV} {k:XRS->gu R'} (hS:cJ s ps) {as args:List PV} (hx:Cp ps (xD ps deep) as=anz args) (hv:qZ vs=anz args) (CB:tk=dD (di ps deep) as):
 ∀{l:List bz},(∀c∈l,aF F f c)->Oo f m s tk vs k l ρ w=anz y-> ∃sr pr,(∃n,dw F (run F n) m f as ps z=anz pr)/\Good s ps sr pr/\k (.loc sr) ρ w=anz y
 | [],_,h=>by cases h
 |c::l,hl,h=>by
  simp only [Oo] at h;cases hd:c.args.dec vs with
  |none=>rw [hd] at h;exact x9 hS hx hv CB (fun c hc=>hl c (agj _ hc)) h
  |some a=>
   rw [hd] at h;cases hmo:(m==c.ow) with
   |false=>
    rw [hmo] at h;exact x9 hS hx hv CB (fun c hc=>hl c (agj _ hc)) h
   |true=>
   rw [hmo] at h;obtain ⟨b,hb,h2⟩:=cN h;have hm:m=c.ow:=by simpa using hmo
   subst hm;have atT:=c.args.law hd hv;obtain ⟨n,r,hr,Bs⟩:=hl c (afU ..) a b as args ps z hb atT hx;cases hkd:c.kd with
   |pure=>
    rw [hkd] at h2 Bs;obtain ⟨p,h3,rfl⟩:=Bs;exact ⟨_,_,⟨n,hr⟩,by rw [<- CB];exact Good.val hS (U0 h3),h2⟩
   |mO=>
    rw [hkd] at h2 Bs;obtain ⟨p,h3,rfl⟩:=Bs;exact ⟨_,_,⟨n,hr⟩,by rw [<- CB];exact Good.val hS (U0 h3),h2⟩
   |own=>
    rw [hkd] at h2 Bs;obtain ⟨p0,p,q,h3,h4,rfl⟩:=Bs;rw [hS.len] at h4;have hbh:wa (s++(xZ (anx s) (c.res.enc b)).2) (anx s) (xZ (anx s) (c.res.enc b)).2:=fun j x hj=>by
     rw [Do (by omega)];simpa using hj
    obtain ⟨k1,k2⟩:=Qq h3 h4 hbh;exact ⟨_,_,⟨n,hr⟩,by rw [<- CB];exact Good.news hS k2.1 k2.2 k1,h2⟩
end
end Go.Vm
/- A call of a function that works on the blocks that are lent to it. -/
namespace Go.Vm
def q9 {α:Type}:List (Nat×α)->List α->List α
 | [],s=>s
 |(t,b)::r,s=>q9 r (s.set t b)
theorem wb: ∀(l:List (Nat×SB)) (s:List SB),q8 l s=q9 l s
 | [],s=>rfl
 |(t,b)::r,s=>by simp only [q8,q9,BE,wb r]
theorem DB: ∀(l:List (Nat×jX)) (s:cH),gj l s=q9 l s
 | [],s=>rfl
 |(t,b)::r,s=>by simp only [gj,q9,DB r]
theorem AP {α:Type}: ∀(l:List (Nat×α)) (s:List α),(q9 l s).length=anx s
 | [],s=>rfl
 |(t,b)::r,s=>by simp [q9,AP r]
theorem wc {α:Type}: ∀(l:List (Nat×α)) (s:List α) (t:Nat),t∉l.map (·.1)->(q9 l s)[t]? =s[t]?
 | [],s,t,_=>rfl
 |(u,b)::r,s,t,h=>by
  simp only [af7,List.mem_cons,not_or] at h;simp only [q9];rw [wc r _ t h.2,IR];simp [Ne.symm h.1]
theorem CX {α:Type}: ∀(l:List (Nat×α)) (s:List α) (j t:Nat) (b:α),(l.map (·.1)).Nodup->l[j]? =anz (t,b)->t<anx s->(q9 l s)[t]? =anz b
 | [],s,j,t,b,_,h,_=>by simp at h
 |(u,c)::r,s,0,t,b,hn,h,ht=>by
  simp at h;obtain ⟨rfl,rfl⟩:=h;simp only [af7,aig] at hn;simp only [q9];rw [wc r _ u hn.1,IR];simp [ht]
 |(u,c)::r,s,j+1,t,b,hn,h,ht=>by
  simp only [af7,aig] at hn;simp only [q9];exact CX r _ j t b hn.2 (by simpa using h) (by simpa using ht)
theorem BN: ∀(l:List (Nat×SB)),x4 l=l.map (·.1)
 | []=>rfl
 |(t,b)::r=>by simp [x4,BN r]
theorem H8 (g:Nat->Nat): ∀(tk:List Nat) (s:List SB),anx s=anx tk->(zS g tk s).map (·.1)=tk/\ ∀(j t:Nat) (b:SB),tk[j]? =anz t->s[j]? =anz b->(zS g tk s)[j]? =anz (t,Uz g b)
 | [],s,h=>⟨by simp [zS],fun j t b hj=>by simp at hj⟩
 |t::tk,[],h=>by simp at h
 |t::tk,b::s,h=>by
  obtain ⟨h1,h2⟩:=H8 g tk s (by simpa using h)
  refine ⟨by simp [zS,h1],fun j u c hj hc=>?_⟩
  cases j with
  |zero=>simp at hj hc;subst hj hc;rfl
  |succ j=>simp only [zS,afm];exact h2 j u c (by simpa using hj) (by simpa using hc)
theorem FT (g:Nat->Nat): ∀(tk:List Nat) (s:cH),anx tk<=anx s->(o6 g tk s).map (·.1)=tk/\ ∀(j t:Nat) (b:jX),tk[j]? =anz t->s[j]? =anz b->(o6 g tk s)[j]? =anz (t,zI g b)
 | [],s,h=>⟨by simp [o6],fun j t b hj=>by simp at hj⟩
 |t::tk,[],h=>by simp at h
 |t::tk,b::s,h=>by
  obtain ⟨h1,h2⟩:=FT g tk s (by simpa using h)
  refine ⟨by simp [o6,h1],fun j u c hj hc=>?_⟩
  cases j with
  |zero=>simp at hj hc;subst hj hc;rfl
  |succ j=>simp only [o6,afm];exact h2 j u c (by simpa using hj) (by simpa using hc)
theorem H9: ∀{l:List (Nat×jX)},(l.map (·.1)).Nodup->vJ l=anB
 | [],_=>rfl
 |p::r,h=>by
  simp only [af7,aig] at h;simp only [vJ,v6,afj,ae9];refine ⟨fun q hq=>?_,H9 h.2⟩
  cases hb:NE q.1 p.1 with
  |false=>rfl
  |true=>exact absurd (an1.2 ⟨q,hq,ut hb⟩) h.1
theorem Jz: ∀(s:List SB),Cm [] s=s
 | []=>rfl
 |b::r=>by
  simp only [Cm,Jz r];cases b<;>simp [XH,tz]
theorem LM (s:List SB) (r:fY):r.nB s=Cm (x4 r.wr) (q8 r.wr s)++r.news:=by
 unfold fY.nB;split
 · rename_i h;rw [h];simp only [x4,q8,Jz,mz]
 simp only [mz]
def ag0 (g:Nat->Nat) (s s2:List SB):Prop:= ∀(u:Nat) (x:SB),s[u]? =anz x->match x with
 | .arr r l=>s2[g u]? =anz (.arr r l)
 | .dead=>s2[g u]? =anz .dead
 | .box _=> ∃cs,s2[g u]? =anz (.box cs)
 |_=>True
mutual
theorem Qr {g:Nat->Nat} {s s2:List SB} (hb:ag0 g s s2): ∀{v:SV} {p:PV},R s v p->R s2 (Lv g v) (Cq g p)
 | .iS,_,_=>trivial
 | .undef,p,h| .jB,p,h| .dR,p,h| .int _ _,p,h| .bool _,p,h| .str _,p,h| .sl _ _,p,h| .nil _ _,p,h| .bp _ _ _,p,h| .mp _,p,h=>by rw [show p=_ from h];rfl
 | .agg cs,p,h=>by obtain ⟨q,rfl,h⟩:=h;exact ⟨_,rfl,we hb h⟩
 | .cq cs,p,h=>by obtain ⟨q,rfl,h⟩:=h;exact ⟨_,rfl,we hb h⟩
 | .bH cs o,p,h=>by obtain ⟨q,rfl,h⟩:=h;exact ⟨_,rfl,we hb h⟩
 | .eI f a b,p,h=>by obtain ⟨pa,pb,rfl,h1,h2⟩:=h;exact ⟨_,_,rfl,we hb h1,we hb h2⟩
 | .own t ex,p,h=>by
  obtain ⟨e,n,rfl,db⟩:=h;refine ⟨e,n,rfl,?_⟩;rcases db with ⟨r,l,h1,h2,h3⟩|h1
  · exact .inl ⟨r,l,hb t _ h1,h2,h3⟩
  exact .inr (hb t _ h1)
 | .pre t a b c,p,h=>by
  obtain ⟨e,rfl,db⟩:=h;refine ⟨e,rfl,?_⟩;rcases db with ⟨r,l,h1,h2⟩|h1|⟨cs,h1,h2⟩
  · exact .inl ⟨r,l,hb t _ h1,h2⟩
  · exact .inr (.inl (hb t _ h1))
  obtain ⟨c2,h3⟩:=hb t _ h1
  exact .inr (.inr ⟨c2,h3,h2⟩)
 | .part t o a b c,p,h=>by
  obtain ⟨e,rfl,db⟩:=h;refine ⟨e,rfl,?_⟩;rcases db with ⟨r,l,h1,h2⟩|h1|⟨cs,h1,h2⟩
  · exact .inl ⟨r,l,hb t _ h1,h2⟩
  · exact .inr (.inl (hb t _ h1))
  obtain ⟨c2,h3⟩:=hb t _ h1
  exact .inr (.inr ⟨c2,h3,h2⟩)
 | .pa t r i a o,p,h=>by
  obtain ⟨rfl,db⟩:=h;refine ⟨_,rfl,?_⟩;rcases db with ⟨l,h1,h2⟩|h1
  · exact .inl ⟨r,l,hb t _ h1,by rw [h2];rfl⟩
  exact .inr (hb t _ h1)
 | .pb t i o,p,h=>by
  obtain ⟨e,rfl,db⟩:=h;refine ⟨e,rfl,?_⟩;rcases db with ⟨r,l,h1,h2⟩|h1
  · exact .inl ⟨r,l,hb t _ h1,h2⟩
  exact .inr (hb t _ h1)
theorem we {g:Nat->Nat} {s s2:List SB} (hb:ag0 g s s2): ∀{v:List SV} {p:List PV},RL s v p->RL s2 (Dx g v) (xd g p)
 | [],p,h=>by rw [show p=_ from h];rfl
 |x::xs,p,h=>by
  obtain ⟨a,as,rfl,h1,h2⟩:=h.cons_inv;exact RL.cons (Qr hb h1) (we hb h2)
end
theorem FU: ∀{a b:cH},(∀(t:Nat) (x:jX),a[t]? =anz x-> ∃y,b[t]? =anz y/\x.bL=y.bL)->vI a b=anB
 | [],b,_=>by cases b<;>rfl
 |x::a,[],h=>by obtain ⟨y,hy,_⟩:=h 0 x rfl;simp at hy
 |x::a,y::b,h=>by
  obtain ⟨y',h1,h2⟩:=h 0 x rfl;simp at h1;subst h1
  have:=FU (a:=a) (b:=b) (fun t x hx=>by simpa using h (t+1) x (by simpa using hx))
  simp only [vI,this,agd,h2];cases y.bL<;>rfl
section
variable {F : mX} {R' ρ : Type} {w : R' -> ρ} {y : ρ} {s : List SB} {ps : cH} {z : List Nat}
theorem Qs {f:FuncId} {tk:List Nat} {OE vs:List SV} {s0:List SB} {k:XRS->gu R'} (hS:cJ s ps) {WZ:List PV} (hv:RL s OE WZ) (CB:tk=oZ (dD (di ps deep) WZ)) (hz:(tk.all fun t=>!has z t)=anB)
 (h1:tu tk OE=anz vs) (h2:Hm s tk tk=anz s0):
 ∀{l:List dN},(∀c∈l,jr F f c)->fpS f (anx s) tk vs s0 k l ρ w=anz y-> ∃sr pr,(∃n,ua (run F n) f WZ ps z=anz pr)/\Good s ps sr pr/\k (.loc sr) ρ w=anz y
 | [],_,h=>by cases h
 |c::l,hl,h=>by
  have next:fpS f (anx s) tk vs s0 k l ρ w=anz y-> ∃sr pr,(∃n,ua (run F n) f WZ ps z=anz pr)/\Good s ps sr pr/\k (.loc sr) ρ w=anz y:=
   fun h=>Qs hS hv CB hz h1 h2 (fun c hc=>hl c (agj _ hc)) h
  simp only [fpS] at h;cases vj:(x3 c.ta vs&&Fw c.tb s0) with
  |false=>rw [vj] at h;exact next h
  |true=>
   rw [vj] at h;simp only [lw] at h;cases hpo:qY c.ka (CP vs++Jo s0) with
   |none=>rw [hpo] at h;exact next h
   |some a=>
    rw [hpo] at h;obtain ⟨b,hb,h3⟩:=cN h;simp only [v6] at vj;have E0:=sD hpo;have hva:c.va a=vs:=by unfold dN.va;rw [E0,oi _ vj.1]
    have hsa:c.sa a=s0:=by
     unfold dN.sa;rw [E0,oi _ vj.1]
     have:=BL [] vj.2
     rw [af5] at this;rw [this]
    have E5:FM tk s s0:=by have:=FM.of (l:=[]) h2;rwa [af5] at this
    obtain ⟨pa',a1,a2⟩:=tD E5 hv h1;obtain ⟨p0,b1,b2,b3⟩:=CS hS E5 h2;have Jd:cJ s0 p0:=⟨b2,b3⟩;obtain ⟨X3,apd⟩:=x7 h2;obtain ⟨n,v,sr,r1,r2,r3,r4,r5,r6⟩:=hl c (afU ..) a b pa' p0 hb (by rw [hva,hsa];exact a2) (by rw [hsa];exact Jd)
    rw [hsa] at r2 r4 r5 r6;have G8:tk.Nodup:=by rw [CB];exact tp
    have N1: ∀t∈tk,t<(anx s):=fun t ht=>by
     obtain ⟨j,hj,he⟩:=agt ht;obtain ⟨x,c',d1,_,_⟩:=apd j t (by rw [F0s hj,he])
     exact (ww.1 d1).1
    have ape:(c.sb b).length=(anx tk):=by rw [r5,X3]
    have atW:(anx tk)<=(anx sr):=by
     have:=r4.len
     rw [afg,ape] at this;rw [X3] at this;omega
    have FI: ∀j,j<anx tk->(sr.take (anx s0))[j]? =sr[j]?:=fun j hj=>If (by rw [X3];exact hj)
    have TU:vI p0 sr=anB:=FU (fun t x hx=>by
     have atX:t<(anx s0):=by have:=(ww.1 hx).1;rw [b2] at this;exact this
     obtain ⟨x0,Jh⟩: ∃x0,s0[t]? =anz x0:=⟨s0[t],F0s atX⟩;obtain ⟨q,q1,q2⟩:=b3 t x0 Jh;rw [hx] at q1;injection q1 with q1;subst q1;obtain ⟨y0,Sm⟩: ∃y0,(c.sb b)[t]? =anz y0:=⟨(c.sb b)[t]'(by omega),F0s (by omega)⟩
     obtain ⟨q',q3,q4⟩:=r4.at_ t y0 Sm;rw [FI t (by omega)] at q3
     refine ⟨q',q3,?_⟩;have Hg:=r6 t x0 y0 Jh Sm;cases x0 with
     |arr r l=>cases y0 with
      |arr r' l'=>
       obtain ⟨rfl,Ap⟩:=Hg;rw [show x=_ from q2,show q'=_ from q4];cases l<;>cases l'<;>simp_all [jX.bL]
      |_=>exact Hg.elim
     |box cs=>cases y0 with
      |box HB=>obtain ⟨_,rfl,_⟩:=q2;obtain ⟨_,rfl,_⟩:=q4;rfl
      |_=>exact Hg.elim
     |set l=>cases y0 with
      |set l'=>rw [show x=_ from q2,show q'=_ from q4];rfl
      |_=>exact Hg.elim
     |aO p l=>cases y0 with
      |aO p' l'=>rw [show x=_ from q2,show q'=_ from q4];rfl
      |_=>exact Hg.elim
     |dead=>cases y0 with
      |dead=>rw [show x=_ from q2,show q'=_ from q4]
      |_=>exact Hg.elim)
    let g:=kg tk (anx s)
    have hg: ∀j t,tk[j]? =anz t->g j=t:=fun j t hj=>by show kg tk (anx s) j=t;unfold kg;rw [hj]
    obtain ⟨w1,w2⟩:=H8 g tk (c.sb b) ape;obtain ⟨u1,u2⟩:=FT g tk sr atW
    let s2:=Cm tk (q8 (zS g tk (c.sb b)) s)
    have uu: ∀(j t:Nat) (x:SB),tk[j]? =anz t->(c.sb b)[j]? =anz x->s2[t]? =anz (XH tk (Uz g x)):=fun j t x hj hx=>by
     show (Cm tk _)[t]? =_;rw [rL,wb,CX _ s j t _ (by rw [w1];exact G8) (w2 j t x hj hx) (N1 t (afK hj))]
     rfl
    have apf: ∀(t:Nat),t∉tk->s2[t]? =(s[t]?).map (XH tk):=fun t ht=>by
     show (Cm tk _)[t]? =_;rw [rL,wb,wc _ s t (by rw [w1];exact ht)]
    have zB: ∀t∈tk,∃j,tk[j]? =anz t:=fun t ht=>by
     obtain ⟨j,hj,he⟩:=agt ht;exact ⟨j,by rw [F0s hj,he]⟩
    have sx:Fr tk s s2:=fun t x hx=>by
     by_cases ht:t∈tk
     · obtain ⟨j,hj⟩:=zB t ht
       have NL:j<(anx tk):=(ww.1 hj).1;obtain ⟨x',c',d1,d2,d3⟩:=apd j t hj;rw [hx] at d1;injection d1 with d1;subst d1;obtain ⟨y0,Sm⟩: ∃y0,(c.sb b)[j]? =anz y0:=⟨(c.sb b)[j]'(by omega),F0s (by omega)⟩
       have Hg:=r6 j c' y0 d3 Sm;have X4:=uu j t y0 hj Sm;cases x with
       |arr r l=>
        injection d2 with d2;subst d2;cases y0 with
        |arr r' l'=>
         obtain ⟨rfl,Ap⟩:=Hg;refine .inl ⟨l',X4,Ap,fun hb=>?_⟩
         exfalso
         have:has tk t=anB:=by unfold has;rw [an9];exact ⟨t,ht,by simp⟩
         rw [this] at hb;cases hb
        |_=>exact Hg.elim
       |dead=>
        injection d2 with d2;subst d2;cases y0 with
        |dead=>exact X4
        |_=>exact Hg.elim
       |box cs=>
        simp only [Oj] at d2;split at d2
        · injection d2 with d2;subst d2
          cases y0 with
          |box c2=>exact .inl ⟨_,X4⟩
          |_=>exact Hg.elim
        cases d2
       |_=>trivial
     have:=apf t ht
     rw [hx] at this;cases x with
     |arr r l=>exact .inl ⟨l,this,rfl,fun _=>rfl⟩
     |dead=>exact this
     |box c2=>exact .inl ⟨_,this⟩
     |_=>trivial
    have afP:ag0 g (c.sb b) s2:=fun u x hx=>by
     have Qm:u<(anx tk):=by have:=(ww.1 hx).1;omega
     have hj:tk[u]? =anz tk[u]:=F0s Qm
     have:=uu u _ x hj hx
     rw [hg u _ hj];cases x with
     |arr r l=>exact this
     |dead=>exact this
     |box cs=>exact ⟨_,this⟩
     |_=>trivial
    have atY:(∃n,ua (run F n) f WZ ps z=anz {v:=Cq g v,wr:=o6 g tk sr}):=by
     refine ⟨n,?_⟩;unfold ua W4;rw [<- CB,pp hz,a1,b1];dsimp only;rw [r1];dsimp only;unfold EI;rw [pp TU,hS.len]
     have:ig (anx tk) v sr=anB:=by rw [<- X3];exact r2
     rw [pp this]
    refine ⟨{v:=Lv g (c.vb b),wr:=zS g tk (c.sb b)},_,atY,?_,h3⟩;have ck:fY.nB s {v:=Lv g (c.vb b),wr:=zS g tk (c.sb b)}=s2:=by
     rw [LM,af5,BN,w1]
    exact {
     rd:=rfl
     fr:=rfl
     wr:=by rw [BN,w1];exact u1
     nw:=H9 (by rw [u1];exact G8)
     nl:=rfl
     aE:=by
      rw [ck];show cJ s2 (gj (o6 g tk sr) ps);rw [DB];refine ⟨by rw [AP,vX,wb,AP,hS.len],fun t x hx=>?_⟩
      by_cases ht:t∈tk
      · obtain ⟨j,hj⟩:=zB t ht
        have NL:j<(anx tk):=(ww.1 hj).1;obtain ⟨y0,Sm⟩: ∃y0,(c.sb b)[j]? =anz y0:=⟨(c.sb b)[j]'(by omega),F0s (by omega)⟩
        have X4:=uu j t y0 hj Sm;rw [hx] at X4;injection X4 with X4;subst X4;obtain ⟨q',q3,q4⟩:=r4.at_ j y0 Sm;rw [FI j NL] at q3;refine ⟨zI g q',CX _ ps j t _ (by rw [u1];exact G8) (u2 j t q' hj q3) (by rw [hS.len];exact N1 t ht),?_⟩
        cases y0 with
        |box cs=>
         obtain ⟨pc,rfl,hpc⟩:=q4;exact ⟨_,rfl,RL.fr (Fr.refl tk s2) (we afP hpc)⟩
        |arr r l=>rw [show q'=_ from q4];rfl
        |set l=>rw [show q'=_ from q4];rfl
        |aO p l=>rw [show q'=_ from q4];rfl
        |dead=>rw [show q'=_ from q4];rfl
      rw [apf t ht,afc] at hx
      obtain ⟨x0,Jh,rfl⟩:=hx;obtain ⟨q,q1,q2⟩:=hS.at_ t x0 Jh;exact ⟨q,by rw [wc _ ps t (by rw [u1];exact ht)];exact q1,q2.fr sx⟩
     v:=by rw [ck];exact Qr afP r3
     fra:=by rw [ck,BN,w1];exact sx}
end
end Go.Vm
/- What the typed machine makes of a function is what the logical machine runs. -/
namespace Go.Vm
section
variable {F : mX}
theorem WO.ag1 {o:bU} {r:List bU} {st:St} {tr:List Tr} {Q:St->List Tr->Prop} {f:FuncId} {args:List PV}
 (hw:wanted o.guard st.env=anz anB) (fB: ∀n,xe F (run F n) st.env st.aE st.fz o.op=fV (run F n) f args st.aE st.fz)
 (h:Ak F f args st.aE st.fz fun v s z=>(M2 (anx st.aE) (anx s)&&st.fz.all (has z))=anB/\WO F r {st with env:=iJ o.dst v st.env,aE:=s,fz:=z} (Uy::tr) Q):
 WO F (o::r) st tr Q:=by
 obtain ⟨n,v,s,z,hr,hc,hk⟩:=h;refine WO.call (.shr v s z) hw ⟨n,?_⟩ rfl hk;rw [fB];simp only [fV,hr];rw [pp hc]
theorem WP.again {live:List (Nat×Option Nat)} {b:jY} {st s1:St} {Q:hJ->St->Prop} (h0:norm live st=anz s1) (h:WP F b s1 (andThen (fun s=>WP F (.loop live b) s Q) Q)):WP F (.loop live b) st Q:=by
 obtain ⟨m,e,s,he,hq⟩:=h;cases e with
 |normal=>
  obtain ⟨k,e',s',Cj,PG⟩:=hq;refine ⟨max m k+1,e',s',?_,PG⟩;simp only [s7] at Cj ⊢;rw [lA];simp only [step,h0];rw [qn (qo F (Nat.le_max_left m k)) _ _ _ he];dsimp only;split at Cj
  · rename_i e1 s1 P1
    rw [qo F (Nat.le_max_right m k) _ _ P1];exact Cj
  cases Cj
 |exit i=>exact ⟨m+1,.exit i,s,by simp only [s7];rw [lA];simp only [step,h0,he],hq⟩
 |ret=>exact ⟨m+1,.ret,s,by simp only [s7];rw [lA];simp only [step,h0,he],hq⟩
def LN (F : mX) (inl : XI) : Prop :=
  ∀ (f : FuncId) (args : List SV) (s : List SB) (z : List Nat) (R' : Type) (k : SV -> List SB -> List Nat -> gu R') (ρ : Type) (w : R' -> ρ) (y : ρ) (pa : List PV) (ps : cH) (Q : R' -> PV -> cH -> List Nat -> Prop),
    RL s args pa -> cJ s ps -> inl f args s z R' k ρ w = anz y ->
    (∀ v s' z' p xC BA (w' : R' -> BA) y', R s' v p -> cJ s' xC -> k v s' z' BA w' = anz y' -> ∃ r, y' = w' r /\ Q r p xC z') ->
    ∃ r, y = w r /\ Ak F f pa ps z (fun p xC z' => Q r p xC z')
def Qt:SB->SB->Prop
 | .arr r l,b=>(∃l',b= .arr r l'/\anx l'=anx l)\/b= .dead
 | .dead,b=>b= .dead
 | .box _,b=>(∃cs,b= .box cs)\/b= .dead
 |_,_=>True
theorem BO {R' ρ:Type} {w:R'->ρ} {y:ρ}: ∀{s s':List SB} {k:gu R'},pR s s' k ρ w=anz y->k ρ w=anz y/\anx s<=anx s'/\
 ∀(t:Nat) (b:SB),s[t]? =anz b-> ∃b',s'[t]? =anz b'/\Qt b b'
 | [],s',k,h=>⟨by cases s'<;>exact h,Nat.zero_le _,fun t b ht=>by simp at ht⟩
 |x::xs,[],k,h=>by cases h
 |x::xs,y'::ys,k,h=>by
  have step: ∀(_:pR xs ys k ρ w=anz y) (_:Qt x y'),k ρ w=anz y/\(x::xs).length<=(y'::ys).length/\ ∀(t:Nat) (b:SB),(x::xs)[t]? =anz b-> ∃b',(y'::ys)[t]? =anz b'/\Qt b b':=by
   intro h hx;obtain ⟨h1,h2,h3⟩:=BO h;refine ⟨h1,by simpa using h2,fun t b ht=>?_⟩
   cases t with
   |zero=>simp at ht;subst ht;exact ⟨y',rfl,hx⟩
   |succ t=>simpa using h3 t b (by simpa using ht)
  cases x with
  |arr r l=>
   cases y' with
   |arr q m=>
    obtain ⟨hr,h2⟩:=cU (a:=gB (anx m==anx l) (pR xs ys k) aN) h;obtain ⟨hl,h3⟩:=ir h2
    have:=vn hr
    subst this;exact step h3 (.inl ⟨m,rfl,by simpa using hl⟩)
   |dead=>exact step h (.inr rfl)
   |_=>cases h
  |dead=>
   cases y' with
   |dead=>exact step h rfl
   |_=>cases h
  |box cs=>
   cases y' with
   |box c2=>exact step h (.inl ⟨c2,rfl⟩)
   |dead=>exact step h (.inr rfl)
   |_=>cases h
  |set l=>exact step h trivial
  |aO p l=>exact step h trivial
theorem U2 {n t:Nat} (h:t<n):has (uQ n) t=anB:=by
 induction n with
 |zero=>omega
 |succ n ih=>
  unfold has at ih ⊢;rw [an9] at*;simp only [uQ,ans,afV];rcases afQ t n with h1|h1
  · obtain ⟨x,h2,h3⟩:=ih h1
    exact ⟨x,.inl h2,h3⟩
  have:t=n:=by omega
  subst this;exact ⟨t,.inr rfl,by simp⟩
theorem OF {s s':List SB} (h: ∀(t:Nat) (b:SB),s[t]? =anz b-> ∃b',s'[t]? =anz b'/\Qt b b'):Fr (uQ (anx s)) s s':=fun t b hb=>by
 obtain ⟨b',h1,h2⟩:=h t b hb;have dI:=(ww.1 hb).1;cases b with
 |arr r l=>
  rcases h2 with ⟨l',rfl,h3⟩|rfl
  · exact .inl ⟨l',h1,h3,fun hx=>by rw [U2 dI] at hx;cases hx⟩
  exact .inr h1
 |dead=>rw [show b'= .dead from h2] at h1;exact h1
 |box cs=>
  rcases h2 with ⟨c2,rfl⟩|rfl
  · exact .inl ⟨c2,h1⟩
  exact .inr h1
 |_=>trivial
theorem apg {s:List SB} {ps:cH} {sr:fY} {pr:nU} (G:Good s ps sr pr) (hS:cJ s ps):(XR.loc pr).tr (anx ps)=sr.tr (anx s):=by
 simp only [XR.tr,fY.tr,G.rd,G.fr,hS.len,<- G.wr,G.nl,anw]
 have:pr.news.isEmpty=sr.news.isEmpty:=by
  have:=G.nl
  cases h1:pr.news<;>cases h2:sr.news<;>simp_all
 rw [this];rfl
theorem ag2 {st:qB} {p:St} (h:zU st p) {sr:fY} {pr:nU} (G:Good st.aE p.aE sr pr) (d:Option Nat):zU (sr.next d st) ((XR.loc pr).next d p):=by
 have X5: ∀{s:List SB} {e:SE} {pe:Env} {v:SV} {q:PV},dU s e pe->R s v q->dU s (Jq d v e) (iJ d q pe):=by
  intro s e pe v q he hv;cases d with
  |none=>exact he
  |some t=>exact ⟨q,pe,rfl,hv,he⟩
 have hs:=LM st.aE sr;unfold fY.next
 split
 · rename_i hw
   rw [hw] at hs;simp only [x4,q8,Jz] at hs;have qu:=G.aE;have hv:=G.v;have sx:=G.fra;rw [hs] at qu hv sx;rw [hw] at sx;exact ⟨by simp only [mz];exact X5 (dU.ext sx h.env) hv,by simp only [mz];exact qu,by simp only [XR.next,G.fr,h.fz],h.kn⟩
 have qu:=G.aE
 have hv:=G.v;have sx:=G.fra;rw [hs] at qu hv sx;exact ⟨by simp only [mz];exact X5 (dU.fr sx h.env) hv,by simp only [mz];exact qu,by simp only [XR.next,G.fr,h.fz],h.kn⟩
theorem ok_eq {s:List SB} {ps:cH} {sr:fY} {pr:nU} (G:Good s ps sr pr) {z:List Nat} (h:sr.ok z=anB):(XR.loc pr).ok z=anB:=by
 simp only [XR.ok,G.nw,agd];unfold fY.ok at h;rw [<- G.wr,anw] at h;exact h
section
variable {cx : Ctx} {inl : XI} {R' : Type}
def at1 (_F:mX) (k:qB->List Tr->gu R') (Q:R'->St->List Tr->Prop):Prop:=
 ∀st p tr ρ (w:R'->ρ) y,zU st p->k st tr ρ w=anz y-> ∃r,y=w r/\Q r p tr
theorem wg {o:bU} {l:List bU} {st:qB} {p:St} {tr:List Tr} {k:qB->List Tr->gu R'} {ρ:Type} {w:R'->ρ} {y:ρ} {Q:R'->St->List Tr->Prop}
 (hl: ∀st p tr ρ (w:R'->ρ) y,zU st p->k st tr ρ w=anz y-> ∃r,y=w r/\WO F l p tr (Q r)) (h:zU st p) {sr:fY} {pr:nU} (hw:wanted o.guard p.env=anz anB)
 (hx: ∃n,xe F (run F n) p.env p.aE p.fz o.op=anz (.loc pr)) (G:Good st.aE p.aE sr pr) (hg:Qg o.dst st tr k (.loc sr) ρ w=anz y): ∃r,y=w r/\WO F (o::l) p tr (Q r):=by
 unfold Qg at hg;dsimp only at hg;obtain ⟨Aj,hg⟩:=cU hg;rw [Jl] at hg;have hR:=ag2 h G o.dst;obtain ⟨r,hr,X6⟩:=hl _ _ _ _ _ _ hR hg;refine ⟨r,hr,WO.call (.loc pr) hw hx (by rw [h.fz];exact ok_eq G Aj) ?_⟩
 rw [apg G h.aE];exact X6
theorem LO (D5:gI F cx) (JA:LN F inl) {o:bU} {l:List bU} {st:qB} {p:St} {tr:List Tr} {k:qB->List Tr->gu R'} {ρ:Type} {w:R'->ρ} {y:ρ} {Q:R'->St->List Tr->Prop}
 (hl: ∀st p tr ρ (w:R'->ρ) y,zU st p->k st tr ρ w=anz y-> ∃r,y=w r/\WO F l p tr (Q r)) (h:zU st p) (hw:wanted o.guard p.env=anz anB)
 (hg:HV cx inl st.env st.aE st.fz o.op (Qg o.dst st tr k) ρ w=anz y): ∃r,y=w r/\WO F (o::l) p tr (Q r):=by
 have hS:=h.aE;have hE:=h.env;have shr: ∀(f:FuncId) (OE:List SV) (WZ:List PV),RL st.aE OE WZ->(∀n,xe F (run F n) p.env p.aE p.fz o.op=fV (run F n) f WZ p.aE p.fz)->
  inl f OE st.aE st.fz R' (fun v s' z'=>Qg o.dst st tr k (.shr v s' z')) ρ w=anz y-> ∃r,y=w r/\WO F (o::l) p tr (Q r):=by
  intro f OE WZ hv fB hi;obtain ⟨r,hr,hd⟩:=JA f OE st.aE st.fz R' _ ρ w y WZ p.aE (fun r v s z=>(M2 (anx p.aE) (anx s)&&p.fz.all (has z))=anB/\WO F l {p with env:=iJ o.dst v p.env,aE:=s,fz:=z} (Uy::tr) (Q r)) hv hS hi
   (fun v s' z' pv xC BA w' y' hR hS' hk=>by
    unfold Qg at hk;dsimp only at hk;rw [Jl] at hk;obtain ⟨hk,cT,TG⟩:=BO hk;obtain ⟨hz,hk⟩:=cU hk;have sx:=OF TG;have X5:dU s' (Jq o.dst v (dgE (uQ (anx st.aE)) st.env)) (iJ o.dst pv p.env):=by
     cases o.dst with
     |none=>exact dU.fr sx hE
     |some t=>exact ⟨pv,p.env,rfl,hR,dU.fr sx hE⟩
    have hR':zU {env:=Jq o.dst v (dgE (uQ (anx st.aE)) st.env),aE:=s',fz:=z',kn:=st.kn} {p with env:=iJ o.dst pv p.env,aE:=xC,fz:=z'}:=⟨X5,hS',rfl,h.kn⟩;obtain ⟨r,hr,X6⟩:=hl _ _ _ _ _ _ hR' hk;refine ⟨r,hr,?_,X6⟩;rw [h.fz,hz,agd,hS.len,hS'.len];simpa using cT)
  refine ⟨r,hr,WO.ag1 hw fB ?_⟩;rw [h.fz];rw [h.fz] at hd;exact hd
 have loc: ∀{k':fY->gu R'},my st.env st.aE st.fz o.op k' ρ w=anz y->CK o.op=anC->(∀sr,k' sr=Qg o.dst st tr k (.loc sr))-> ∃r,y=w r/\WO F (o::l) p tr (Q r):=by
  intro k' hv hc hk;obtain ⟨sr,pr,h1,G,h2⟩:=X0 hE hS (pe:=p.env) hv;rw [hk] at h2;exact wg hl h hw ⟨0,by rw [Jj hc,h.fz,h1];rfl⟩ G h2
 generalize fB:o.op=op at hg;cases op with
 |call m f args=>
  have lf:=y7 hE args;simp only [HV] at hg;cases m with
  |WN=>
   dsimp only at hg;cases hx:sB st.aE (kK st.aE deep) (jG st.env args) with
   |none=>rw [hx] at hg;cases hg
   |some vs=>
    rw [hx] at hg;obtain ⟨q,h1,h2⟩:=uy hS (Em hS deep) lf hx;obtain ⟨sr,pr,⟨n,h3⟩,G,h4⟩:=x9 (f:=f) (z:=st.fz) hS h1 h2 (zV hS (FJ hS deep) lf hx) (fun c hc=>D5.con f c hc) hg
    exact wg hl h hw ⟨n,by rw [fB,h.fz];simp only [xe,h3];rfl⟩ G h4
  |own=>
   dsimp only at hg;cases hx:sB st.aE (kK st.aE deep) (jG st.env args) with
   |none=>rw [hx] at hg;cases hg
   |some vs=>
    rw [hx] at hg;obtain ⟨q,h1,h2⟩:=uy hS (Em hS deep) lf hx;obtain ⟨sr,pr,⟨n,h3⟩,G,h4⟩:=x9 (f:=f) (z:=st.fz) hS h1 h2 (zV hS (FJ hS deep) lf hx) (fun c hc=>D5.con f c hc) hg
    exact wg hl h hw ⟨n,by rw [fB,h.fz];simp only [xe,h3];rfl⟩ G h4
  |shr=>exact shr f _ _ lf (fun n=>by rw [fB];rfl) hg
  |fp=>
   dsimp only at hg;cases hx:Og st.aE (kK st.aE deep) (jG st.env args) with
   |false=>rw [hx] at hg;cases hg
   |true=>
    rw [hx] at hg;dsimp only at hg;obtain ⟨hz,hg⟩:=cU hg;cases h1:tu (oZ (rH (xx st.aE deep) (jG st.env args))) (jG st.env args) with
    |none=>rw [h1] at hg;cases hg
    |some vs=>
     cases h2:Hm st.aE (oZ (rH (xx st.aE deep) (jG st.env args))) (oZ (rH (xx st.aE deep) (jG st.env args))) with
     |none=>rw [h1,h2] at hg;cases hg
     |some s0=>
      rw [h1,h2] at hg;obtain ⟨sr,pr,⟨n,h3⟩,G,h4⟩:=Qs (f:=f) (z:=st.fz) hS lf (by rw [UT hS (FJ hS deep) lf hx]) hz h1 h2 (fun c hc=>D5.fpc f c hc) hg
      exact wg hl h hw ⟨n,by rw [fB,h.fz];simp only [xe,h3];rfl⟩ G h4
 |xb x args=>
  have lf:=y7 hE args;simp only [HV] at hg;have hx:=dJ hE x;generalize bW st.env x=v at hg hx;cases v with
  |eI f a b=>
   dsimp only at hg;obtain ⟨pa,pb,hx,ha,hb⟩:=hx;have at2: ∀{vs:List SV} {q:List PV},RL st.aE vs q->(AE vs=anB->q.any EH=anB):=by
    intro vs
    induction vs with
    |nil=>intro q _ h;cases h
    |cons v vs ih=>
     intro q hq hp;obtain ⟨a,as,rfl,h1,h2⟩:=hq.cons_inv;simp only [AE,ant] at hp;simp only [anu,ant];rcases hp with hp|hp
     · left
       cases v with
       |own _ _=>obtain ⟨_,_,rfl,_⟩:=h1;rfl
       |pre _ _ _ _=>obtain ⟨_,rfl,_⟩:=h1;rfl
       |part _ _ _ _ _=>obtain ⟨_,rfl,_⟩:=h1;rfl
       |pa _ _ _ _ _=>obtain ⟨rfl,_⟩:=h1;rfl
       |pb _ _ _=>obtain ⟨_,rfl,_⟩:=h1;rfl
       |bp _ _ _=>rw [show a=_ from h1];rfl
       |mp _=>rw [show a=_ from h1];rfl
       |_=>cases hp
     right;exact ih h2 hp
   cases hp:AE (jG st.env args++b) with
   |true=>
    rw [hp] at hg
    have:=at2 (lf.append hb) hp
    exact shr f _ _ ((ha.append lf).append hb) (fun n=>by rw [fB];simp only [xe,hx,this,if_true]) hg
   |false=>
    rw [hp] at hg;simp only [ol] at hg;cases hxx:sB st.aE (kK st.aE deep) (a++jG st.env args++b) with
    |none=>rw [hxx] at hg;cases hg
    |some vs=>
     rw [hxx] at hg;have hno: ∀{vs u:List SV} {q:List PV},RL st.aE vs q->AE vs=anC->sB st.aE (kK st.aE deep) vs=anz u->q.any EH=anC:=by
      intro vs
      induction vs with
      |nil=>intro u q hq _ _;rw [show q=[] from hq];rfl
      |cons v vs ih=>
       intro u q hq hp hu;obtain ⟨a,as,rfl,h1,h2⟩:=hq.cons_inv;simp only [AE,Bool.or_eq_false_iff] at hp;simp only [sB] at hu;split at hu
       · rename_i y1 y2 e1 e2
         simp only [anu,ih h2 hp.2 e2,Bool.or_false];cases v with
         |agg _|cq _|bH _ _=>obtain ⟨_,rfl,_⟩:=h1;rfl
         |eI _ _ _=>obtain ⟨_,_,rfl,_⟩:=h1;rfl
         |int _ _|bool _|str _|dR|sl _ _|nil _ _|undef|jB=>rw [show a=_ from h1];rfl
         |iS=>cases e1
         |own _ _|pre _ _ _ _|part _ _ _ _ _|pa _ _ _ _ _|pb _ _ _|bp _ _ _|mp _=>cases hp.1
       cases hu
     have ag3: ∃u2,sB st.aE (kK st.aE deep) (jG st.env args++b)=anz u2:=by
      have: ∀(l:List SV) {m u:List SV},sB st.aE (kK st.aE deep) (l++m)=anz u-> ∃u2,sB st.aE (kK st.aE deep) m=anz u2:=by
       intro l
       induction l with
       |nil=>intro m u h;exact ⟨u,h⟩
       |cons x l ih=>
        intro m u h;simp only [agS,sB] at h;split at h
        · rename_i e1 e2;exact ih e2
        cases h
      rw [af4] at hxx;exact this a hxx
     obtain ⟨u2,hu2⟩:=ag3;have at3:=hno (lf.append hb) hp hu2;have rE:=(ha.append lf).append hb;obtain ⟨q,h1,h2⟩:=uy hS (Em hS deep) rE hxx;obtain ⟨sr,pr,⟨n,h3⟩,G,h4⟩:=x9 (f:=f) (z:=st.fz) hS h1 h2 (zV hS (FJ hS deep) rE hxx) (fun c hc=>D5.con f c hc) hg
     exact wg hl h hw ⟨n,by rw [fB,h.fz];simp only [xe,hx,at3,PP,if_false,h3];rfl⟩ G h4
  |_=>cases hg
 |_=>exact loc (k':=fun r=>Qg o.dst st tr k (.loc r)) (by rw [fB];exact hg) (by rw [fB];rfl) (fun _=>rfl)
theorem wj (D5:gI F cx) (JA:LN F inl): ∀(ops:List bU) {st:qB} {p:St} {tr:List Tr} {k:qB->List Tr->gu R'} {ρ:Type} {w:R'->ρ} {y:ρ} {Q:R'->St->List Tr->Prop},
 at1 F k Q->zU st p->o9 cx inl ops st tr k ρ w=anz y-> ∃r,y=w r/\WO F ops p tr (Q r)
 | [],st,p,tr,k,ρ,w,y,Q,hk,h,he=>by
  obtain ⟨r,hr,hq⟩:=hk st p tr ρ w y h he;exact ⟨r,hr,WO.nil hq⟩
 |o::l,st,p,tr,k,ρ,w,y,Q,hk,h,he=>by
  have hl: ∀st p tr ρ (w:R'->ρ) y,zU st p->o9 cx inl l st tr k ρ w=anz y-> ∃r,y=w r/\WO F l p tr (Q r):=fun st p tr ρ w y h he=>wj D5 JA l hk h he
  have Sn: ∀{st:qB} {c:Nat} {v:SV},zU st p->R st.aE v (lk c p.env)->zU {st with env:=AA c v st.env} p:=fun h hv=>⟨h.env.AA hv,h.aE,h.fz,h.kn⟩
  have ag4: ∀{st:qB},zU st p->wanted o.guard p.env=anz anB->(match o.op with
   | .pick (.t c) a b=>match G9 c st.env with
    | .bool x=>gB x (Qg o.dst {st with env:=AA c (.bool anB) st.env} tr (o9 cx inl l · · k) (.loc {v:=bW st.env a}))
     (Qg o.dst {st with env:=AA c (.bool anC) st.env} tr (o9 cx inl l · · k) (.loc {v:=bW st.env b}))
    |_=>aN
   |op=>HV cx inl st.env st.aE st.fz op (Qg o.dst st tr (o9 cx inl l · · k))) ρ w=anz y-> ∃r,y=w r/\WO F (o::l) p tr (Q r):=by
   intro st h hw he;have plain:HV cx inl st.env st.aE st.fz o.op (Qg o.dst st tr (o9 cx inl l · · k)) ρ w=anz y-> ∃r,y=w r/\WO F (o::l) p tr (Q r):=fun he=>LO D5 JA hl h hw he
   generalize fB:o.op=op at he;cases op with
   |pick c a b=>
    cases c with
    |c v=>exact plain (by rw [fB];exact he)
    |t c=>
     dsimp only at he;generalize hv:G9 c st.env=v at he;cases v with
     |bool x=>
      have hx:lk c p.env= .bool x:=by have:=h.env.lk c;rw [hv] at this;exact this
      rcases fk he with ⟨rfl,he⟩|⟨rfl,he⟩
      · have hR:=Sn h (c:=c) (v:= .bool anB) hx
        exact wg (o:=o) hl hR hw ⟨0,by rw [fB];simp only [xe,bE,fE.ev,hx];rfl⟩ (Good.val hR.aE (dJ h.env a)) he
      have hR:=Sn h (c:=c) (v:= .bool anC) hx
      exact wg (o:=o) hl hR hw ⟨0,by rw [fB];simp only [xe,bE,fE.ev,hx];rfl⟩ (Good.val hR.aE (dJ h.env b)) he
     |_=>cases he
   |_=>exact plain (by rw [fB];exact he)
  have U3: ∀{st:qB},zU st p->wanted o.guard p.env=anz anC->o9 cx inl l {st with env:=Jq o.dst .jB st.env} (Tr.idle::tr) k ρ w=anz y-> ∃r,y=w r/\WO F (o::l) p tr (Q r):=by
   intro st h hw he;have hR:zU {st with env:=Jq o.dst .jB st.env} {p with env:=iJ o.dst .jB p.env}:=by
    refine ⟨?_,h.aE,h.fz,h.kn⟩;cases o.dst with
    |none=>exact h.env
    |some t=>exact ⟨.jB,p.env,rfl,rfl,h.env⟩
   obtain ⟨r,hr,X6⟩:=hl _ _ _ _ _ _ hR he;exact ⟨r,hr,WO.skip hw X6⟩
  simp only [o9] at he;cases NF:o.guard with
  |none=>
   rw [NF] at he;exact ag4 h (by rw [NF];rfl) he
  |some g=>
   obtain ⟨c,want⟩:=g;rw [NF] at he;dsimp only at he;generalize hv:G9 c st.env=v at he;cases v with
   |bool x=>
    have hx:lk c p.env= .bool x:=by have:=h.env.lk c;rw [hv] at this;exact this
    have hwx: ∀b,x=b->wanted o.guard p.env=anz (b==want):=fun b hb=>by rw [NF];simp only [wanted,hx,hb]
    cases want with
    |true=>
     simp only [lw] at he;rcases fk he with ⟨rfl,he⟩|⟨rfl,he⟩
     · exact ag4 (Sn h (v:= .bool anB) hx) (hwx anB rfl) he
     exact U3 (Sn h (v:= .bool anC) hx) (hwx anC rfl) he
    |false=>
     simp only [ol] at he;rcases fk he with ⟨rfl,he⟩|⟨rfl,he⟩
     · exact U3 (Sn h (v:= .bool anB) hx) (hwx anB rfl) he
     exact ag4 (Sn h (v:= .bool anC) hx) (hwx anC rfl) he
   |jB=>
    have hx:lk c p.env= .jB:=by have:=h.env.lk c;rw [hv] at this;exact this
    exact U3 h (by rw [NF];simp only [wanted,hx]) he
   |_=>cases he
theorem FV {e:SE}: ∀{fU:List Nat} {k:SE->gu R'} {ρ:Type} {w:R'->ρ} {y:ρ},Lw e fU k ρ w=anz y->k (fU.map fun s=>(s,G9 s e)) ρ w=anz y
 | [],k,ρ,w,y,h=>h
 |s::r,k,ρ,w,y,h=>by
  simp only [Lw] at h;rw [Jl] at h
  have:=FV h
  exact this
theorem U4 {s:List SB} {e:SE} {pe:Env} (h:dU s e pe): ∀(fU:List Nat),dU s (fU.map fun t=>(t,G9 t e)) (fU.map fun t=>(t,lk t pe))
 | []=>rfl
 |t::r=>⟨_,_,rfl,h.lk t,U4 h r⟩
end
mutual
theorem Ia: ∀(v:SV) (q:List xB),s9 v (CO v++q)=(v,q)
 | .iS,q| .undef,q| .jB,q| .dR,q| .int _ _,q| .bool _,q| .str _,q| .sl _ _,q| .nil _ _,q| .own _ _,q| .pre _ _ _ _,q| .part _ _ _ _ _,q| .pa _ _ _ _ _,q| .pb _ _ _,q| .bp _ _ _,q| .mp _,q=>rfl
 | .agg cs,q=>by simp only [s9,CO,rX]
 | .cq cs,q=>by simp only [s9,CO,rX]
 | .bH cs o,q=>by simp only [s9,CO,rX]
 | .eI f a b,q=>by simp only [s9,CO,af4,rX]
theorem rX: ∀(v:List SV) (q:List xB),rJ v (CP v++q)=(v,q)
 | [],q=>rfl
 |x::xs,q=>by simp only [rJ,CP,af4,Ia,rX]
end
theorem Ib: ∀(v:List SB) (q:List xB),AD v (Jo v++q)=(v,q)
 | [],q=>rfl
 |x::xs,q=>by
  have: ∀q,Om x (Uv x++q)=(x,q):=by
   intro q;cases x<;>first|rfl|simp only [Om,Uv,rX]
  simp only [AD,Jo,af4,this,Ib]
theorem Ic: ∀(v:SE) (q:List xB),Lu v (Sa v++q)=(v,q)
 | [],q=>rfl
 |(t,x)::xs,q=>by simp only [Lu,Sa,af4,Ia,Ic]
theorem OG (st:qB):zR st (xl st)=st:=by
 have hs:=Ib st.aE [];rw [af5] at hs;simp only [zR,xl,Ic,hs]
theorem Sp {cx:Ctx} {inl:XI} (D5:gI F cx) (JA:LN F inl): ∀(c:jY) (R':Type) {st:qB} {p:St} {k:hJ->qB->gu R'} {ρ:Type} {w:R'->ρ} {y:ρ} {Q:R'->hJ->St->Prop},
 (∀e st p ρ (w:R'->ρ) y,zU st p->k e st ρ w=anz y-> ∃r,y=w r/\Q r e p)->zU st p->Bz cx inl c R' st k ρ w=anz y-> ∃r,y=w r/\WP F c p (Q r):=by
 intro c
 induction c with
 |skip=>
  intro R' st p k ρ w y Q hk h he;obtain ⟨r,hr,hq⟩:=hk _ _ _ _ _ _ h he;exact ⟨r,hr,WP.skip hq⟩
 |ret=>
  intro R' st p k ρ w y Q hk h he;obtain ⟨r,hr,hq⟩:=hk _ _ _ _ _ _ h he;exact ⟨r,hr,WP.ret hq⟩
 |exit id=>
  intro R' st p k ρ w y Q hk h he;obtain ⟨r,hr,hq⟩:=hk _ _ _ _ _ _ h he;exact ⟨r,hr,WP.exit hq⟩
 |region d ops fU=>
  intro R' st p k ρ w y Q hk h he;simp only [Bz] at he;have fin: ∀st p ρ (w:R'->ρ) y,zU st p->Lw st.env fU (fun e=>k .normal {st with env:=e}) ρ w=anz y-> ∃r,y=w r/\Q r .normal (qp fU p):=by
   intro st p ρ w y h he
   have:=FV he
   have hR:zU {st with env:=fU.map fun t=>(t,G9 t st.env)} (qp fU p):=⟨U4 h.env fU,h.aE,h.fz,h.kn⟩
   exact hk _ _ _ _ _ _ hR this
  cases d with
  |none=>
   obtain ⟨r,hr,X6⟩:=wj D5 JA ops (Q:=fun r s _=>Q r .normal (qp fU s)) (fun st p tr ρ w y h he=>fin st p ρ w y h he) h he
   exact ⟨r,hr,WP.region X6⟩
  |some bf=>
   obtain ⟨r,hr,X6⟩:=wj D5 JA ops (Q:=fun r s t=>rC 0 (t.reverse.zip bf)=anB/\Q r .normal (qp fU s)) (fun st p tr ρ w y h he=>by
    dsimp only at he;cases ho:rC 0 (tr.reverse.zip bf) with
    |false=>rw [ho] at he;cases he
    |true=>
     rw [ho] at he;obtain ⟨r,hr,hq⟩:=fin st p ρ w y h he;exact ⟨r,hr,ho,hq⟩) h he
   exact ⟨r,hr,WP.W5 X6⟩
 |seq a b iha ihb=>
  intro R' st p k ρ w y Q hk h he;simp only [Bz] at he;obtain ⟨r,hr,OH⟩:=iha R' (Q:=fun r=>andThen (fun s=>WP F b s (Q r)) (Q r)) (fun e st p ρ w y h he=>by
   cases e with
   |normal=>exact ihb R' hk h he
   |exit i=>exact hk _ _ _ _ _ _ h he
   |ret=>exact hk _ _ _ _ _ _ h he) h he
  exact ⟨r,hr,WP.seq OH⟩
 |cond c a b iha ihb=>
  intro R' st p k ρ w y Q hk h he;simp only [Bz] at he;have hx:=dJ h.env c;generalize bW st.env c=v at he hx;cases v with
  |bool x=>
   rcases fk he with ⟨rfl,he⟩|⟨rfl,he⟩
   · obtain ⟨r,hr,OH⟩:=iha R' hk h he
     exact ⟨r,hr,WP.afd hx OH⟩
   obtain ⟨r,hr,OH⟩:=ihb R' hk h he
   exact ⟨r,hr,WP.afe hx OH⟩
  |_=>cases he
 |block id b ih=>
  intro R' st p k ρ w y Q hk h he;simp only [Bz] at he;obtain ⟨r,hr,OH⟩:=ih R' (Q:=fun r=>inBlock id (Q r)) (fun e st p ρ w y h he=>by
   cases e with
   |normal=>exact hk _ _ _ _ _ _ h he
   |ret=>exact hk _ _ _ _ _ _ h he
   |exit j=>
    dsimp only at he;cases hj:NE j id with
    |true=>
     rw [hj] at he;obtain ⟨r,hr,hq⟩:=hk _ _ _ _ _ _ h he;have Xm:=ut hj;exact ⟨r,hr,by simpa [inBlock,Xm] using hq⟩
    |false=>
     rw [hj] at he;obtain ⟨r,hr,hq⟩:=hk _ _ _ _ _ _ h he
     have:j≠id:=by intro e;subst e;simp at hj
     exact ⟨r,hr,by simpa [inBlock,this] using hq⟩) h he
  exact ⟨r,hr,WP.block OH⟩
 |loop live b ih=>
  intro R' st p k ρ w y Q hk h he;simp only [Bz] at he;cases hn:Fv cx.rk live st with
  |none=>rw [hn] at he;cases he
  |some nX=>
   rw [hn] at he;dsimp only at he;have ag5: ∀{β:Type 1} (l:List AK) (c:List AK->β),ksK l c=c l:=by
    intro β l;have api: ∀{β:Type 1} (l:List PT) (c:List PT->β),rK l c=c l:=by
     intro β l
     induction l with
     |nil=>intro c;rfl
     |cons p r ih=>intro c;cases p<;>simp only [rK,ptK,ih]
    induction l with
    |nil=>intro c;rfl
    |cons a r ih=>intro c;cases a<;>simp only [ksK,api,ih]
   rw [ag5] at he;generalize agL (xl nX)=ks at he;cases hp:qY ks (xl nX) with
   |none=>rw [hp] at he;cases he
   |some y0=>
    rw [hp] at he;dsimp only at he;obtain ⟨p1,hp1,hR1⟩:=Qp h hn;have apj: ∀(Oq:qB) (y':j7 ks),Fx nX Oq=anB->qY ks (xl Oq)=anz y'->zR nX (mC ks y')=Oq:=fun Oq y' h1 h2=>by
     rw [sD h2,Sl h1]
    obtain ⟨n,hit⟩:=Un he;have h0:zU (zR nX (mC ks y0)) p1:=by rw [sD hp,OG];exact hR1
    clear he hp hn h hR1
    induction n generalizing y0 p p1 with
    |zero=>cases hit
    |succ n ihn=>
     have body: ∀zr,Bz cx inl b (Step (j7 ks) ρ) (zR nX (mC ks y0)) (fun e DZ=>match e with
      | .normal=>match Fv cx.rk live DZ with
       |some Oq=>bif Fx nX Oq then (match qY ks (xl Oq) with
        |some y'=>HS (.next y')
        |none=>aN) else aN
       |none=>aN
      |e=>fun BA w'=>k e DZ BA fun r=>w' (.done (w r))) (Step (j7 ks) ρ) (fun z=>z)=anz zr->
      WP F b p1 (fun e s=>match zr with
       | .next y'=>e= .normal/\ ∃p3,norm live s=anz p3/\zU (zR nX (mC ks y')) p3
       | .done x=>e≠ .normal/\ ∃r,x=w r/\Q r e s):=by
      intro zr qy;obtain ⟨zr',PL,OH⟩:=ih (Step (j7 ks) ρ) (Q:=fun zr e s=>match zr with
       | .next y'=>e= .normal/\ ∃p3,norm live s=anz p3/\zU (zR nX (mC ks y')) p3
       | .done x=>e≠ .normal/\ ∃r,x=w r/\Q r e s) (fun e DZ p2 BA w' y2 h2 Dp=>by
       cases e with
       |normal=>
        dsimp only at Dp;cases hn3:Fv cx.rk live DZ with
        |none=>rw [hn3] at Dp;cases Dp
        |some Oq=>
         rw [hn3] at Dp;obtain ⟨vj,Dp⟩:=cU Dp;cases hp3:qY ks (xl Oq) with
         |none=>rw [hp3] at Dp;cases Dp
         |some y3=>
          rw [hp3] at Dp;injection Dp with Dp;obtain ⟨p3,at5,hR3⟩:=Qp h2 hn3;exact ⟨.next y3,Dp.symm,rfl,p3,at5,by rw [apj Oq y3 vj hp3];exact hR3⟩
       |exit i=>
        obtain ⟨r,hr,hq⟩:=hk _ _ _ _ _ _ h2 Dp;exact ⟨.done (w r),hr,(by intro e;cases e),r,rfl,hq⟩
       |ret=>
        obtain ⟨r,hr,hq⟩:=hk _ _ _ _ _ _ h2 Dp;exact ⟨.done (w r),hr,(by intro e;cases e),r,rfl,hq⟩) h0 qy
      subst PL;exact OH
     simp only [qz] at hit;split at hit
     · rename_i y' qy
       obtain ⟨m,e,s,cu,rfl,p3,hp3,hR3⟩:=body _ qy;obtain ⟨r,hr,OH⟩:=ihn y' p3 hp3 hit hR3;exact ⟨r,hr,WP.again hp1 ⟨m,.normal,s,cu,OH⟩⟩
     · rename_i x qy
       injection hit with hit;obtain ⟨m,e,s,cu,dW,r,hr,hq⟩:=body _ qy;refine ⟨r,by rw [<- hit];exact hr,WP.again hp1 ⟨m,e,s,cu,?_⟩⟩
       cases e with
       |normal=>exact absurd rfl dW
       |exit i=>exact hq
       |ret=>exact hq
     cases hit
end
end Go.Vm
/- Contracts from the typed machine. -/
namespace Go.Vm
section
variable {F : mX} {cx : Ctx} {inl : XI}
theorem LQ {s:List SB}: ∀{l:List SV} {q:List PV} (i:Nat),RL s l q->dU s (Ou i l) (uT i q)
 | [],q,i,h=>by rw [show q=[] from h];rfl
 |x::xs,q,i,h=>by
  obtain ⟨a,as,rfl,h1,h2⟩:=h.cons_inv;exact ⟨a,uT (i+1) as,rfl,h1,LQ (i+1) h2⟩
theorem U5 {st:qB} {p:St} (h:zU st p) {r:RV} {v:SV} (hr:Ot st r=anz v): ∃q,EJ p r=anz q/\R st.aE v q:=by
 cases r with
 |tmp t=>injection hr with hr;subst hr;exact ⟨_,rfl,h.env.lk t⟩
 |cell t agg=>
  simp only [Ot] at hr;have vj:=h.env.lk t;split at hr
  · rename_i u n off hv
    rw [hv] at vj;rw [cw] at hr;split at hr
    · rename_i cs ck
      obtain ⟨q,h1,h2⟩:=h.aE.box ck;obtain ⟨x,h3,h4⟩:=tB h2 hr;refine ⟨x,?_,h4⟩;simp only [EJ,show lk t p.env=_ from vj,oY,h1,afb,if_true,h3];rfl
    cases hr
  · rename_i cs off hv
    rw [hv] at vj;obtain ⟨q,h1,h2⟩:=vj;obtain ⟨x,h3,h4⟩:=tB h2 hr;refine ⟨x,?_,h4⟩;simp only [EJ,h1,oY,h3];rfl
  cases hr
theorem Ie {st:qB} {p:St} (h:zU st p): ∀{l:List RV} {vs:List SV},y6 st l=anz vs-> ∃q,nW p l=anz q/\RL st.aE vs q
 | [],vs,hr=>by injection hr with hr;subst hr;exact ⟨[],rfl,rfl⟩
 |r::l,vs,hr=>by
  simp only [y6] at hr;split at hr
  · rename_i v Nz h1 h2
    injection hr with hr;subst hr;obtain ⟨q,h3,h4⟩:=U5 h h1;obtain ⟨qs,h5,h6⟩:=Ie h h2;exact ⟨q::qs,by simp only [nW,h3,h5],RL.cons h4 h6⟩
  cases hr
theorem LR {s:List SB} {vs:List SV} {q:List PV} (h:RL s vs q):R s (CQ vs) (results1 q):=by
 match vs,q,h with
 | [],q,h=>rw [show q=[] from h];exact ⟨[],rfl,rfl⟩
 | [v],q,h=>
  obtain ⟨a,as,rfl,h1,h2⟩:=h.cons_inv;rw [show as=[] from h2];exact h1
 |v::u::r,q,h=>
  have rE:=h;obtain ⟨a,as,rfl,h1,h2⟩:=h.cons_inv;obtain ⟨b,bs,rfl,h3,h4⟩:=h2.cons_inv;exact ⟨_,rfl,rE⟩
theorem ya (D5:gI F cx) (JA:LN F inl) {f:FuncId} {x:aJ} (hf:F f=anz (.code x)) {R':Type} {args:List SV} {s:List SB} {z:List Nat} {k:SV->List SB->List Nat->gu R'} {ρ:Type} {w:R'->ρ} {y:ρ} {pa:List PV} {ps:cH}
 {Q:R'->PV->cH->List Nat->Prop} (ha:RL s args pa) (hS:cJ s ps) (he:Lx cx inl x R' args s z k ρ w=anz y)
 (hk: ∀v s' z' p xC BA (w':R'->BA) y',R s' v p->cJ s' xC->k v s' z' BA w'=anz y'-> ∃r,y'=w' r/\Q r p xC z'): ∃r,y=w r/\Ak F f pa ps z (fun p xC z'=>Q r p xC z'):=by
 unfold Lx at he;obtain ⟨hn,he⟩:=cU he;have fin: ∀st p BA (w':R'->BA) y',zU st p->(match y6 st x.res with
  |some vs=>k (CQ vs) st.aE st.fz
  |none=>aN) BA w'=anz y'-> ∃r,y'=w' r/\ ∃vs,nW p x.res=anz vs/\Q r (results1 vs) p.aE p.fz:=by
  intro st p BA w' y' h he;cases hr:y6 st x.res with
  |none=>rw [hr] at he;cases he
  |some vs=>
   rw [hr] at he;obtain ⟨q,h1,h2⟩:=Ie h hr;obtain ⟨r,h3,h4⟩:=hk _ _ _ _ _ _ _ _ (LR h2) h.aE he;exact ⟨r,h3,q,h1,by rw [h.fz];exact h4⟩
 obtain ⟨r,hr,OH⟩:=Sp D5 JA x.code R' (Q:=fun r=>IU x fun p xC z'=>Q r p xC z') (p:={env:=uT 0 pa,aE:=ps,fz:=z,kn:=anx ps}) (fun e st p BA w' y' h he=>by
  cases e with
  |normal=>exact fin st p BA w' y' h he
  |ret=>exact fin st p BA w' y' h he
  |exit i=>cases he) ⟨LQ 0 ha,hS,rfl,hS.len⟩ he
 exact ⟨r,hr,Ak.of hf (by rw [ha.mY];exact hn) OH⟩
theorem JB {α:Type} {l m r:List α} {i:Int} (h:yZ l i m=anz r):0<=i/\i.toNat<=anx l/\anx m=1/\anx l+1<=1048576/\r=l.take i.toNat++m++l.drop i.toNat:=by
 unfold yZ at h;split at h
 · rename_i hc
   injection h with h;exact ⟨hc.1,hc.2.1,hc.2.2.1,hc.2.2.2,h.symm⟩
 cases h
theorem Sq {e:Nat} {args:List SV} {s:List SB} {z:List Nat} {a:ao3} (h:XJ e args s z=anz a):
 ∃x u x2 m,args=[.own a.t x,.int .i64 a.i,.own u x2]/\nth s a.t=anz (.arr a.r a.l)/\nth s u=anz (.arr a.r m)/\a.m=m/\anx a.r=e/\NE a.t u=anC/\has z a.t=anC:=by
 unfold XJ at h;split at h
 case h_2=>cases h
 split at h
 case h_2=>cases h
 split at h
 case h_2=>cases h
 split at h
 case h_2=>cases h
 rename_i m' hm;cases hc:(NE _ e&&_&&_) with
 |false=>rw [hc] at h;cases h
 |true=>
  rw [hc] at h;injection h with h;subst h;simp only [v6,agG,ae9] at hc;obtain ⟨rfl,rfl⟩:=pf hm;exact ⟨_,_,_,_,rfl,by assumption,by assumption,rfl,hc.1.1,hc.1.2,hc.2⟩
theorem OI {e:Nat} {f:FuncId} (hf:F f=anz (.G6 (IT e))) {R':Type} {args:List SV} {s:List SB} {z:List Nat} {k:SV->List SB->List Nat->gu R'} {ρ:Type} {w:R'->ρ} {y:ρ} {pa:List PV} {ps:cH}
 {Q:R'->PV->cH->List Nat->Prop} (ha:RL s args pa) (hS:cJ s ps) (he:agP e args s z k ρ w=anz y)
 (hk: ∀v s' z' p xC BA (w':R'->BA) y',R s' v p->cJ s' xC->k v s' z' BA w'=anz y'-> ∃r,y'=w' r/\Q r p xC z'): ∃r,y=w r/\Ak F f pa ps z (fun p xC z'=>Q r p xC z'):=by
 unfold agP at he;cases hA:XJ e args s z with
 |none=>rw [hA] at he;cases he
 |some a=>
 rw [hA] at he;dsimp only at he;obtain ⟨l',hl,he⟩:=cN he;obtain ⟨x,u,x2,m0,rfl,ht,hu,hm,Tl,htu,hz⟩:=Sq hA;obtain ⟨t,q,l,i,m⟩:=a;dsimp only at*;subst hm Tl;obtain ⟨i0,il,m1,ly,rfl⟩:=JB hl;obtain ⟨p0,pr0,rfl,h0,ha⟩:=ha;obtain ⟨p1,pr1,rfl,h1,ha⟩:=ha;obtain ⟨p2,pr2,rfl,h2,ha⟩:=ha;obtain rfl:pr2=[]:=ha;obtain rfl:p1= .int .i64 i:=h1
 have P4:s[t]? =anz (.arr q l):=by rw [<- cw];exact ht
 have Cl:s[u]? =anz (.arr q m):=by rw [<- cw];exact hu
 obtain ⟨e0,n0,rfl,o0⟩:=h0;obtain ⟨e2,n2,rfl,o2⟩:=h2;obtain ⟨rfl,rfl⟩:e0=anx q/\n0=(anx l):=by
  rcases o0 with ⟨r1,l1,a,b,c⟩|a
  · rw [P4] at a;injection a with a;injection a with a1 a2;subst a1;subst a2;exact ⟨b,c⟩
  rw [P4] at a;cases a
 obtain ⟨rfl,rfl⟩:e2=anx q/\n2=(anx m):=by
  rcases o2 with ⟨r1,l1,a,b,c⟩|a
  · rw [Cl] at a;injection a with a;injection a with a1 a2;subst a1;subst a2;exact ⟨b,c⟩
  rw [Cl] at a;cases a
 obtain ⟨b1,KZ,JC⟩:=hS.at_ t _ P4;obtain ⟨b2,hb2,ag6⟩:=hS.at_ u _ Cl;have JC:b1= .arr (anx q) (l.map (RT.pv q)):=JC;have ag6:b2= .arr (anx q) (m.map (RT.pv q)):=ag6;subst JC ag6;have cT:(Cm [t] (s.set t .dead)).length=(anx s):=by rw [vX];simp
 obtain ⟨L,hL⟩: ∃L,L=l.take i.toNat++m++l.drop i.toNat:=⟨_,rfl⟩;rw [<- hL] at he;have G:=Good.put hS (b:= .dead) (q:= .dead) (l:=[.arr q L]) (ql:=[.arr (anx q) (L.map (RT.pv q))]) (v:= .own (anx s) anC)
  (p:= .own (anx s) (anx q) 0 (anx L) (anx L) anC) (rd:=[]) P4 (.inr rfl) rfl rfl
  (fun j b hj=>by
   cases j with
   |zero=>simp at hj;subst hj;exact ⟨_,rfl,rfl⟩
   |succ j=>simp at hj)
  ⟨anx q,anx L,rfl,.inl ⟨q,L,by rw [<- cT];exact mD,rfl,rfl⟩⟩
 have Ap:(anx L)=anx l+1:=by
  rw [hL];simp only [agH,afg,anp,m1];omega
 obtain ⟨rr,hr,hq⟩:=hk _ _ _ _ _ _ _ _ G.v G.aE he;refine ⟨rr,hr,1,_,_,_,?_,hq⟩;rw [lA];have ij:M2 (anx l+1) eN=anB:=by simp [eN];omega
 have hbl:M2 i.toNat (anx l)=anB:=by simpa using il
 have hLm:L.map (RT.pv q)=(l.map (RT.pv q)).take i.toNat++m.map (RT.pv q)++(l.map (RT.pv q)).drop i.toNat:=by
  rw [hL,afo,afo,afh,afS]
 simp [step,hf,IT,KZ,hb2,m1,htu,hz,i0,ij,il,Ap,hS.len,gj,KJ,hLm]
theorem Sr {α:Type} {l m r:List α} (h:R8 l m=anz r):1<=anx l+anx m/\anx l+anx m<=1048576/\r=l++m:=by
 unfold R8 at h;split at h
 · rename_i hc
   injection h with h;exact ⟨hc.1,hc.2,h.symm⟩
 cases h
theorem Ss {args:List SV} {s:List SB} {z:List Nat} {a:ao4} (h:XK args s z=anz a):
 ∃cap x m,args=[.part a.t 0 2 cap x]/\nth s a.t=anz (.box [.sl a.r a.l,.sl a.r m])/\a.m=m/\anx a.r=1/\has z a.t=anC:=by
 unfold XK at h;split at h
 case h_2=>cases h
 split at h
 case h_2=>cases h
 split at h
 case h_2=>cases h
 rename_i m' hm;cases hc:(NE _ 1&&NE _ 0&&NE _ 2&&_) with
 |false=>rw [hc] at h;cases h
 |true=>
  rw [hc] at h;injection h with h;subst h;simp only [v6,agG,ae9] at hc;obtain ⟨rfl,rfl⟩:=pf hm;obtain ⟨⟨⟨h1,rfl⟩,rfl⟩,h2⟩:=hc;exact ⟨_,_,_,rfl,by assumption,rfl,h1,h2⟩
theorem Ig {r:List PT} (h:(anx r)=1) (l:List (RT r)):vK (l.map (RT.pv r))=anB:=by
 unfold vK;rw [afj];intro x hx;obtain ⟨a,_,rfl⟩:=an1.1 hx
 match r,h with
 | [p],_=>
  show (NE [p.pv a].length 1&&[p.pv a].all PV.plain)=anB;cases p<;>rfl
theorem OJ {f:FuncId} (hf:F f=anz (.G6 IQ)) {R':Type} {args:List SV} {s:List SB} {z:List Nat} {k:SV->List SB->List Nat->gu R'} {ρ:Type} {w:R'->ρ} {y:ρ} {pa:List PV} {ps:cH}
 {Q:R'->PV->cH->List Nat->Prop} (ha:RL s args pa) (hS:cJ s ps) (he:agQ args s z k ρ w=anz y)
 (hk: ∀v s' z' p xC BA (w':R'->BA) y',R s' v p->cJ s' xC->k v s' z' BA w'=anz y'-> ∃r,y'=w' r/\Q r p xC z'): ∃r,y=w r/\Ak F f pa ps z (fun p xC z'=>Q r p xC z'):=by
 unfold agQ at he;cases hA:XK args s z with
 |none=>rw [hA] at he;cases he
 |some a=>
 rw [hA] at he;dsimp only at he;obtain ⟨l',hl,he⟩:=cN he;obtain ⟨cap,x,m0,rfl,ht,hm,Tl,hz⟩:=Ss hA;obtain ⟨t,q,l,m⟩:=a;dsimp only at*;subst hm;obtain ⟨hp,ly,rfl⟩:=Sr hl;obtain ⟨p0,pr0,rfl,h0,ha⟩:=ha;obtain rfl:pr0=[]:=ha;have P4:s[t]? =anz (.box [.sl q l,.sl q m]):=by rw [<- cw];exact ht
 obtain ⟨e0,rfl,o0⟩:=h0;obtain rfl:e0=1:=by
  rcases o0 with ⟨r1,l1,a,b⟩|a|⟨_,a,b⟩
  · rw [P4] at a;cases a
  · rw [P4] at a;cases a
  exact b
 obtain ⟨b1,KZ,JC⟩:=hS.at_ t _ P4;obtain ⟨ps1,rfl,p1,q1,rfl,hp1,p2,q2,rfl,hp2,rfl⟩:=JC;have hp1:p1= .sl (anx q) anC (l.map (RT.pv q)):=hp1;have hp2:p2= .sl (anx q) anC (m.map (RT.pv q)):=hp2;subst hp1 hp2;have cT:(Cm [t] (s.set t .dead)).length=(anx s):=by rw [vX];simp
 obtain ⟨L,hL⟩: ∃L,L=l++m:=⟨_,rfl⟩;rw [<- hL] at he;have G:=Good.put hS (b:= .dead) (q:= .dead) (l:=[.arr q L]) (ql:=[.arr (anx q) (L.map (RT.pv q))]) (v:= .own (anx s) anC)
  (p:= .own (anx s) (anx q) 0 (anx L) (anx L) anC) (rd:=[]) P4 (.inr rfl) rfl rfl
  (fun j b hj=>by
   cases j with
   |zero=>simp at hj;subst hj;exact ⟨_,rfl,rfl⟩
   |succ j=>simp at hj)
  ⟨anx q,anx L,rfl,.inl ⟨q,L,by rw [<- cT];exact mD,rfl,rfl⟩⟩
 have Ap:(anx L)=anx l+(anx m):=by rw [hL];simp
 obtain ⟨rr,hr,hq⟩:=hk _ _ _ _ _ _ _ _ G.v G.aE he;refine ⟨rr,hr,1,_,_,_,?_,hq⟩;rw [lA];have ij:M2 (anx l+anx m) eN=anB:=by simp [eN];omega
 have Hd:M2 1 (anx l+anx m)=anB:=by simpa using hp
 have hLm:L.map (RT.pv q)=l.map (RT.pv q)++m.map (RT.pv q):=by rw [hL,afo]
 have hc:(NE 1 1&&NE 0 0&&NE 2 2&&!has z t&&vK (l.map (RT.pv q))&&vK (m.map (RT.pv q))&&M2 1 ((l.map (RT.pv q)).length+(m.map (RT.pv q)).length)&&M2 ((l.map (RT.pv q)).length+(m.map (RT.pv q)).length) eN&&(NE (anx q) 1||(l.map (RT.pv q)).isEmpty)&&(NE (anx q) 1||(m.map (RT.pv q)).isEmpty))=anB:=by
  rw [Ig Tl,Ig Tl,hz,af6,af6,Hd,ij,Tl];rfl
 simp only [step,hf];unfold IQ
 dsimp only;rw [KZ];dsimp only;rw [hc];simp [hS.len,gj,KJ,hLm,Ap,Tl]
theorem LS: ∀(p:PT) (a:p.T),By p (p.pv a)=anz a
 | .i k,a=>by
  have:fA k k=anB:=fj.2 rfl
  simp [By,PT.pv,this]
 | .b,a=>rfl
theorem Qu: ∀(r:List PT) (a:RT r),Hn r (RT.pv r a)=anz a
 | [],a=>rfl
 | [p],a=>LS p a
 |p::q::r,a=>by
  show (match By p (p.pv a.1),Hn (q::r) (RT.pv (q::r) a.2) with
   |some a,anz b=>anz (a,b)
   |_,_=>anA)=_
  rw [LS,Qu (q::r)]
theorem LU (r:List PT): ∀l:List (RT r),Dw r (l.map (RT.pv r))=anz l
 | []=>rfl
 |a::l=>by
  show (match Hn r (RT.pv r a),Dw r (l.map (RT.pv r)) with
   |some a,anz l=>anz (a::l)
   |_,_=>anA)=_
  rw [Qu,LU r l]
theorem X7 {s:List SB} {g:Option FuncId} {a:List SV} {p:List PV} (h:Dy g a=anB) (hr:RL s a p):XG g p=anB:=by
 unfold Dy at h;split at h
 · obtain rfl:p=[]:=hr
   rfl
 · obtain ⟨p0,pr,rfl,h0,hr⟩:=hr
   obtain rfl:pr=[]:=hr;obtain ⟨x,y,rfl,hx,hy⟩:=h0;obtain rfl:x=[]:=hx;obtain rfl:y=[]:=hy;exact h
 cases h
theorem Su {r:List PT} {g:Option FuncId} {args:List SV} {s:List SB} {z:List Nat} {t:Nat} {o:Option Nat} {l:List (RT r)} (h:XL r g args s z=anz (t,o,l)):
 ∃x a,args=x::a/\nth s t=anz (.arr r l)/\has z t=anC/\Dy g a=anB/\((o=anA/\ ∃ex,x= .own t ex)\/ ∃len cap ex,o=anz len/\x= .pre t len cap ex):=by
 unfold XL at h;split at h
 · split at h
   · split at h
     · rename_i hm
       cases hc:(!has z _&&Dy g _) with
       |false=>rw [hc] at h;cases h
       |true=>
        rw [hc] at h;simp only [lw,EQ,adc] at h;obtain ⟨rfl,rfl,rfl⟩:=h;simp only [v6,ae9] at hc;obtain ⟨rfl,rfl⟩:=pf hm;exact ⟨_,_,rfl,by assumption,hc.1,hc.2,.inl ⟨rfl,_,rfl⟩⟩
     cases h
   cases h
 · split at h
   · split at h
     · rename_i hm
       cases hc:(!has z _&&Dy g _) with
       |false=>rw [hc] at h;cases h
       |true=>
        rw [hc] at h;simp only [lw,EQ,adc] at h;obtain ⟨rfl,rfl,rfl⟩:=h;simp only [v6,ae9] at hc;obtain ⟨rfl,rfl⟩:=pf hm;exact ⟨_,_,rfl,by assumption,hc.1,hc.2,.inr ⟨_,_,_,rfl,rfl⟩⟩
     cases h
   cases h
 cases h
theorem OK {α:Type} {f:List α->Option (List α)} {l m:List α} (h:Dv f l=anz m):(anx l)<=1048576/\f l=anz m/\anx m=(anx l):=by
 unfold Dv at h;split at h
 · rename_i hl
   split at h
   · rename_i m' hm
     split at h
     · rename_i he
       injection h with h;subst h;exact ⟨hl,hm,he⟩
     cases h
   cases h
 cases h
theorem JD {α:Type} {f:List α->Option (List α)} {n:Nat} {l m:List α} (h:y4 f n l=anz m):n<=anx l/\ ∃m',Dv f (l.take n)=anz m'/\m=m'++l.drop n:=by
 unfold y4 at h;split at h
 · rename_i hn
   cases hm:Dv f (l.take n) with
   |none=>rw [hm] at h;cases h
   |some m'=>
    rw [hm] at h;injection h with h;exact ⟨hn,m',rfl,h.symm⟩
 cases h
theorem OL {q:Srt} {f:FuncId} (hf:F f=anz (.G6 (Jp q))) {R':Type} {args:List SV} {s:List SB} {z:List Nat} {k:SV->List SB->List Nat->gu R'} {ρ:Type} {w:R'->ρ} {y:ρ} {pa:List PV} {ps:cH}
 {Q:R'->PV->cH->List Nat->Prop} (ha:RL s args pa) (hS:cJ s ps) (he:agR q args s z k ρ w=anz y)
 (hk: ∀v s' z' p xC BA (w':R'->BA) y',R s' v p->cJ s' xC->k v s' z' BA w'=anz y'-> ∃r,y'=w' r/\Q r p xC z'): ∃r,y=w r/\Ak F f pa ps z (fun p xC z'=>Q r p xC z'):=by
 have key: ∀(t len:Nat) (l m':List (RT q.r)) (ex:Bool) (cap:Nat) (pr:List PV) (a:List SV),s[t]? =anz (.arr q.r l)->has z t=anC->Dy q.g a=anB->RL s a pr->pa= .own t (anx q.r) 0 len cap ex::pr->len<=anx l->Dv q.fn (l.take len)=anz m'->
  k (.cq []) (fY.nB s {v:= .cq [],wr:=[(t,.arr q.r (m'++l.drop len))]}) z ρ w=anz y-> ∃r,y=w r/\Ak F f pa ps z (fun p xC z'=>Q r p xC z'):=by
  intro t len l m' ex cap pr a ht hz hg har TS cT D2 he;subst TS;obtain ⟨s1,s2,s3⟩:=OK D2;obtain ⟨b1,KZ,JC⟩:=hS.at_ t _ ht;have JC:b1= .arr (anx q.r) (l.map (RT.pv q.r)):=JC;subst JC;have Ap:(l.take len).length=len:=by rw [afg];omega
  have Kz:(m'++l.drop len).length=(anx l):=by rw [agH,anp,s3,Ap];omega
  have G:=Good.put hS (b:= .arr q.r (m'++l.drop len)) (q:= .arr (anx q.r) ((m'++l.drop len).map (RT.pv q.r))) (l:=[]) (ql:=[]) (v:= .cq []) (p:= .cq []) (rd:=[]) ht (.inl ⟨_,rfl,Kz⟩) rfl rfl
   (fun j b hj=>by simp at hj) ⟨[],rfl,rfl⟩
  obtain ⟨rr,hr,hq⟩:=hk _ _ _ _ _ _ _ _ G.v G.aE he;refine ⟨rr,hr,1,_,_,_,?_,hq⟩;rw [lA];have hg':=X7 hg har;have hrt:Dw q.r ((l.map (RT.pv q.r)).take len)=anz (l.take len):=by rw [<- afh];exact LU q.r _
  have hbl:M2 len (anx l)=anB:=by simpa using cT
  have hmo:M2 len eN=anB:=by simp [eN];omega
  have hbe:NE (anx m') (l.take len).length=anB:=by rw [s3];exact afb _
  simp only [step,hf,Jp,KZ,af6,afb,hbl,hmo,hz,hg',hrt,s2,hbe,afI,agd,if_true,Option.map_some,gj,KJ,afo,afS]
 unfold agR at he;cases hA:XL q.r q.g args s z with
 |none=>rw [hA] at he;cases he
 |some u=>
  obtain ⟨t,o,l⟩:=u;rw [hA] at he;obtain ⟨x,a,rfl,ht,hz,hg,h⟩:=Su hA;obtain ⟨p0,pr,rfl,h0,ha⟩:=ha;rw [cw] at ht;rcases h with ⟨rfl,ex,rfl⟩|⟨len,cap,ex,rfl,rfl⟩
  · obtain ⟨m,hm,he⟩:=cN he
    obtain ⟨e0,n0,rfl,o0⟩:=h0;obtain ⟨rfl,rfl⟩:e0=anx q.r/\n0=(anx l):=by
     rcases o0 with ⟨r1,l1,a,b,c⟩|a
     · rw [ht] at a;injection a with a;injection a with a1 a2;subst a1;cases a2;exact ⟨b,c⟩
     rw [ht] at a;cases a
    refine key t (anx l) l m ex (anx l) pr a ht hz hg ha rfl (akr _) (by rw [List.take_length];exact hm) ?_
    rw [List.drop_length,af5];exact he
  obtain ⟨m,hm,he⟩:=cN he
  obtain ⟨e0,rfl,o0⟩:=h0;obtain rfl:e0=(anx q.r):=by
   rcases o0 with ⟨r1,l1,a,b⟩|a|⟨_,a,_⟩
   · rw [ht] at a;injection a with a;injection a with a1 a2;subst a1;exact b
   · rw [ht] at a;cases a
   rw [ht] at a;cases a
  obtain ⟨hn,m',D2,rfl⟩:=JD hm;exact key t len l m' ex cap pr a ht hz hg ha rfl hn D2 he
theorem JE (D5:gI F cx): ∀n,LN F (UA cx n)
 |0=>fun f args s z R' k ρ w y pa ps Q _ _ h _=>by cases h
 |n+1=>fun f args s z R' k ρ w y pa ps Q ha hS h hk=>by
  simp only [UA] at h;cases hx:cx.code f with
  |none=>rw [hx] at h;cases h
  |some x=>
   rw [hx] at h;cases x with
   |code x=>exact ya D5 (JE D5 n) (D5.code f _ hx) ha hS h hk
   |ins e=>exact OI (D5.code f _ hx) ha hS h hk
   |srt q=>exact OL (D5.code f _ hx) ha hS h hk
   |cat=>exact OJ (D5.code f _ hx) ha hS h hk
def X8:Kd->Bool->Bool
 | .own,b=>b
 |_,b=>!b
def U6 (kd:Kd) {β:Type} (res:Arg β) (b:β) (p:PV) (ps:cH) (z:List Nat):Prop:=
 match kd with
 | .pure=>p.kF=anB/\sC (res.enc b)=anz p
 | .mO=>p.kF=anC/\ ∃q,yN ps p=anz q/\sC (res.enc b)=anz q
 | .own=> ∀nx,∃p0 p' q seen,zG ps z nx [] p=anz (p',q,seen)/\sC (res.enc b)=anz p0/\FN nx p0=anz (p',q)
mutual
theorem LV {s:List SB}: ∀{v:SV} {p:PV},R s v p->AB v=anB->sC v=anz p
 | .int _ _,p,h,_| .bool _,p,h,_| .str _,p,h,_=>by rw [show p=_ from h];rfl
 | .agg cs,p,h,hn=>by obtain ⟨q,rfl,h⟩:=h;simp only [sC,FW h hn]
 | .cq cs,p,h,hn=>by obtain ⟨q,rfl,h⟩:=h;simp only [sC,FW h hn]
 | .iS,_,_,h| .undef,_,_,h| .jB,_,_,h| .dR,_,_,h| .sl _ _,_,_,h| .nil _ _,_,_,h| .own _ _,_,_,h| .pre _ _ _ _,_,_,h| .part _ _ _ _ _,_,_,h| .pa _ _ _ _ _,_,_,h| .pb _ _ _,_,_,h| .bp _ _ _,_,_,h| .bH _ _,_,_,h| .eI _ _ _,_,_,h| .mp _,_,_,h=>by cases h
theorem FW {s:List SB}: ∀{v:List SV} {p:List PV},RL s v p->rI v=anB->qZ v=anz p
 | [],p,h,_=>by rw [show p=_ from h];rfl
 |x::xs,p,h,hn=>by
  obtain ⟨a,as,rfl,h1,h2⟩:=h.cons_inv;simp only [rI,v6] at hn;exact eF.2 ⟨_,_,rfl,LV h1 hn.1,FW h2 hn.2⟩
end
theorem OM {kd:Kd} {β:Type} {res:Arg β} {v:SV} {s:List SB} {z:List Nat} {p:PV} {ps:cH} {ρ:Type} {w:β->ρ} {y:ρ} (hv:R s v p) (hS:cJ s ps) (h:UB kd res v s z ρ w=anz y):
 ∃b,y=w b/\U6 kd res b p ps z:=by
 unfold UB at h;cases kd with
 |pure=>
  dsimp only at h;obtain ⟨h1,h2⟩:=cU h;obtain ⟨b,h3,h4⟩:=bK h2;injection h4 with h4;exact ⟨b,h4.symm,LL hv h1,res.law h3 (LV hv h1)⟩
 |mO=>
  dsimp only at h;obtain ⟨h1,h2⟩:=rW h;obtain ⟨u,h3,h4⟩:=bK h2;obtain ⟨b,h5,h6⟩:=bK h4;injection h6 with h6;obtain ⟨q,h7,h8⟩:=afN hS hv h3;exact ⟨b,h6.symm,H6 hv h1 h3,q,h7,res.law h5 h8⟩
 |own=>
  dsimp only at h;obtain ⟨u,h3,h4⟩:=bK h;obtain ⟨b,h5,h6⟩:=bK h4;injection h6 with h6;refine ⟨b,h6.symm,fun nx=>?_⟩
  obtain ⟨p0,p',q,h7,h8,h9⟩:=UZ hS (v':=u.1) (seen':=u.2) nx hv h3;exact ⟨p0,p',q,u.2,h9,res.law h5 h7,h8⟩
theorem cJ.nil:cJ [] []:=⟨rfl,fun t b h=>by simp at h⟩
theorem aF.of {f:FuncId} {x:aJ} {α β:Type} {args:ax α} {res:Arg β} {kd:Kd} {fn:α->Option β} {ow:Bool} (hf:F f=anz (.code x)) (ho:X8 kd ow=anB) (D5:gI F cx)
 (h: ∀a,afH cx x args res kd a=fn a):aF F f ⟨args,res,fn,kd,ow⟩:=by
 intro a b as pa aE fz hb TS hex;have hb:fn a=anz b:=hb;rw [<- h a] at hb;obtain ⟨r,hr,n,v,s,z,cu,hl⟩:=ya D5 (JE D5 8) hf (Q:=fun r p ps z=>U6 kd res r p ps z) (FQ TS) cJ.nil hb (fun v s' z' p xC BA w' y' hv hS hk=>OM hv hS hk)
 have hr':b=r:=hr;subst hr';cases kd with
 |pure=>
  obtain ⟨h1,h2⟩:=hl;have how:ow=anC:=by simpa [X8] using ho
  subst how;refine ⟨n,{v:=v,rd:=dD (di aE deep) as},?_,v,h2,rfl⟩;simp only [dw,hex,hf,cu,PP,if_false,h1,if_true]
 |mO=>
  obtain ⟨h1,q,h2,h3⟩:=hl;have how:ow=anC:=by simpa [X8] using ho
  subst how;refine ⟨n,{v:=q,rd:=dD (di aE deep) as,fr:=dD (di aE deep) as},?_,q,h3,rfl⟩;simp only [dw,hex,hf,cu,PP,if_false,h1,h2]
 |own=>
  have how:ow=anB:=ho;subst how;obtain ⟨p0,p',q,seen,h1,h2,h3⟩:=hl (anx aE);refine ⟨n,{v:=p',news:=q,rd:=dD (di aE deep) as},?_,p0,p',q,h2,h3,rfl⟩;simp only [dw,hex,hf,cu,if_true,h1]
theorem LW: ∀(s:List SB) (q:List xB),(AD s q).1.length=anx s
 | [],q=>rfl
 |b::r,q=>by simp only [AD,af2,LW r]
mutual
theorem R.take {s:List SB} {k:Nat}: ∀{v:SV} {p:PV},R s v p->(∀t∈Oh s6 v,t<k)->R (s.take k) v p
 | .iS,_,_,_=>trivial
 | .undef,_,h,_| .jB,_,h,_| .dR,_,h,_| .int _ _,_,h,_| .bool _,_,h,_| .str _,_,h,_| .sl _ _,_,h,_| .nil _ _,_,h,_| .bp _ _ _,_,h,_| .mp _,_,h,_=>h
 | .agg cs,_,h,ht=>by obtain ⟨q,rfl,h⟩:=h;exact ⟨q,rfl,RL.FX h ht⟩
 | .cq cs,_,h,ht=>by obtain ⟨q,rfl,h⟩:=h;exact ⟨q,rfl,RL.FX h ht⟩
 | .bH cs o,_,h,ht=>by obtain ⟨q,rfl,h⟩:=h;exact ⟨q,rfl,RL.FX h ht⟩
 | .eI f a b,_,h,ht=>by
  obtain ⟨pa,pb,rfl,h1,h2⟩:=h;exact ⟨pa,pb,rfl,RL.FX h1 (fun t h=>ht t (agr _ h)),RL.FX h2 (fun t h=>ht t (agc _ h))⟩
 | .own t ex,_,h,ht=>by
  obtain ⟨e,n,rfl,db⟩:=h;have hk:=ht t (afV.2 rfl);refine ⟨e,n,rfl,?_⟩;rcases db with ⟨r,l,h1,h2,h3⟩|h1
  · exact .inl ⟨r,l,by rw [If hk];exact h1,h2,h3⟩
  exact .inr (by rw [If hk];exact h1)
 | .pre t a b c,_,h,ht=>by
  obtain ⟨e,rfl,db⟩:=h;have hk:=ht t (afV.2 rfl);refine ⟨e,rfl,?_⟩;rcases db with ⟨r,l,h1,h2⟩|h1
  · exact .inl ⟨r,l,by rw [If hk];exact h1,h2⟩
  exact .inr (by rw [If hk];exact h1)
 | .part t o a b c,_,h,ht=>by
  obtain ⟨e,rfl,db⟩:=h;have hk:=ht t (afV.2 rfl);refine ⟨e,rfl,?_⟩;rcases db with ⟨r,l,h1,h2⟩|h1
  · exact .inl ⟨r,l,by rw [If hk];exact h1,h2⟩
  exact .inr (by rw [If hk];exact h1)
 | .pa t r i a o,_,h,ht=>by
  obtain ⟨rfl,db⟩:=h;have hk:=ht t (afU ..);refine ⟨rfl,?_⟩;rcases db with ⟨l,h1,h2⟩|h1
  · exact .inl ⟨l,by rw [If hk];exact h1,h2⟩
  exact .inr (by rw [If hk];exact h1)
 | .pb t i o,_,h,ht=>by
  obtain ⟨e,rfl,db⟩:=h;have hk:=ht t (afU ..);refine ⟨e,rfl,?_⟩;rcases db with ⟨r,l,h1,h2⟩|h1
  · exact .inl ⟨r,l,by rw [If hk];exact h1,h2⟩
  exact .inr (by rw [If hk];exact h1)
theorem RL.FX {s:List SB} {k:Nat}: ∀{v:List SV} {p:List PV},RL s v p->(∀t∈rH s6 v,t<k)->RL (s.take k) v p
 | [],_,h,_=>h
 |x::xs,_,h,ht=>by
  obtain ⟨a,as,rfl,h1,h2⟩:=h.cons_inv;exact RL.cons (R.take h1 (fun t h=>ht t (agr _ h))) (RL.FX h2 (fun t h=>ht t (agc _ h)))
end
theorem FY {R' ρ:Type} {w:R'->ρ} {y:ρ}: ∀{s s':List SB} {k:gu R'},BB s s' k ρ w=anz y->k ρ w=anz y/\anx s'=anx s/\ ∀(t:Nat) (x z:SB),s[t]? =anz x->s'[t]? =anz z->U1 x z
 | [],[],k,h=>⟨h,rfl,fun t x z h=>by simp at h⟩
 | [],_::_,k,h=>by cases h
 |_::_,[],k,h=>by cases h
 |x::xs,y'::ys,k,h=>by
  have step: ∀(_:BB xs ys k ρ w=anz y) (_:U1 x y'),k ρ w=anz y/\(y'::ys).length=(x::xs).length/\ ∀(t:Nat) (a b:SB),(x::xs)[t]? =anz a->(y'::ys)[t]? =anz b->U1 a b:=by
   intro h hx;obtain ⟨h1,h2,h3⟩:=FY h;refine ⟨h1,by simpa using h2,fun t a b ha hb=>?_⟩
   cases t with
   |zero=>simp at ha hb;subst ha hb;exact hx
   |succ t=>exact h3 t a b (by simpa using ha) (by simpa using hb)
  cases x with
  |arr r l=>
   cases y' with
   |arr q m=>
    obtain ⟨hr,h2⟩:=cU (a:=gB (anx m==anx l) (BB xs ys k) aN) h;obtain ⟨hl,h3⟩:=ir h2;exact step h3 ⟨vn hr,by simpa using hl⟩
   |_=>cases h
  |dead=>cases y' with
   |dead=>exact step h trivial
   |_=>cases h
  |box cs=>cases y' with
   |box _=>exact step h trivial
   |_=>cases h
  |set l=>cases y' with
   |set _=>exact step h trivial
   |_=>cases h
  |aO p l=>cases y' with
   |aO _ _=>exact step h trivial
   |_=>cases h
theorem FZ: ∀{s:List SB},Fy s=anB-> ∀(t:Nat) (b:SB),s[t]? =anz b->y5 b=anB
 | [],_,t,b,h=>by simp at h
 |x::xs,hs,0,b,h=>by simp only [Fy,v6] at hs;simp at h;subst h;exact hs.1
 |x::xs,hs,t+1,b,h=>by simp only [Fy,v6] at hs;exact FZ hs.2 t b (by simpa using h)
theorem jr.of {f:FuncId} {x:aJ} {wd:Bool} {ka ko:List AK} {ta:List SV} {tb to:List SB} {tv:SV} {fn:j7 ka->Option (j7 ko)} (hf:F f=anz (.code x)) (D5:gI F cx)
 (h: ∀a,atL wd cx x ka ta tb ko tv to a=fn a):jr F f ⟨ka,ta,tb,ko,tv,to,fn⟩:=by
 intro a b pa ps hb ha hS;rw [show (⟨ka,ta,tb,ko,tv,to,fn⟩:dN).fn a=fn a from rfl,<- h a] at hb;have cT:(dN.sa ⟨ka,ta,tb,ko,tv,to,fn⟩ a).length=(anx tb):=LW _ _;obtain ⟨r,hr,n,v,s,z,cu,hz,hq⟩:=ya D5 (JE D5 8) hf (Q:=fun (r:j7 ko) p xC z'=>z'=[]/\ig (anx tb) p xC=anB/\
  R (dN.sb ⟨ka,ta,tb,ko,tv,to,fn⟩ r) (dN.vb ⟨ka,ta,tb,ko,tv,to,fn⟩ r) p/\cJ (dN.sb ⟨ka,ta,tb,ko,tv,to,fn⟩ r) (xC.take (anx tb))/\
  (dN.sb ⟨ka,ta,tb,ko,tv,to,fn⟩ r).length=(dN.sa ⟨ka,ta,tb,ko,tv,to,fn⟩ a).length/\
  ∀(t:Nat) (x y:SB),(dN.sa ⟨ka,ta,tb,ko,tv,to,fn⟩ a)[t]? =anz x->(dN.sb ⟨ka,ta,tb,ko,tv,to,fn⟩ r)[t]? =anz y->U1 x y) ha hS hb (fun v s' z' p xC BA w' y' hv hS' hk=>by
  cases z' with
  |cons _ _=>cases hk
  |nil=>
   dsimp only at hk;obtain ⟨hc,hk⟩:=cU hk;simp only [v6] at hc;obtain ⟨⟨⟨⟨c1,c2⟩,c3⟩,c4⟩,c5⟩:=hc;obtain ⟨hk,f1,f2⟩:=FY hk;obtain ⟨r,hr,hk⟩:=bK hk;injection hk with hk;have hu:R s' (bif wd then HU s' v else v) p:=by
    cases wd with
    |true=>exact Qn hv
    |false=>exact hv
   generalize (bif wd then HU s' v else v)=u at c1 c3 c4 hr hu
   have E0:=sD hr;have U7:dN.vb ⟨ka,ta,tb,ko,tv,to,fn⟩ r=u:=by
    show (s9 tv (mC ko r)).1=u;rw [E0,En _ c1]
   have hsb:dN.sb ⟨ka,ta,tb,ko,tv,to,fn⟩ r=s'.take (anx tb):=by
    show (AD to (s9 tv (mC ko r)).2).1=_;rw [E0,En _ c1]
    have:=BL [] c2
    rw [af5] at this;rw [this]
   have ly:(anx tb)<=(anx s'):=by
    have:=f1
    rw [afg] at this;have h2:(dN.sa ⟨ka,ta,tb,ko,tv,to,fn⟩ a).length=(anx tb):=cT;have h3:min (anx tb) (anx s')=(anx tb):=by rw [this];exact h2
    omega
   unfold afG at c3;rw [afj] at c3;have hkv: ∀t∈Oh s6 u,t<(anx tb):=fun t ht=>by simpa using c3 t (agr _ ht)
   have hkb: ∀b∈s'.take (anx tb),∀t∈Fp b,t<(anx tb):=fun b hb t ht=>by simpa using c3 t (agc _ (anq.2 ⟨b,hb,ht⟩))
   have qu:cJ (s'.take (anx tb)) (xC.take (anx tb)):=⟨by simp [hS'.len],fun t x hx=>by
    have dI:t<(anx tb):=by
     have:=(ww.1 hx).1
     rw [afg] at this;omega
    have hx':=hx;rw [If dI] at hx';obtain ⟨q,q1,q2⟩:=hS'.at_ t x hx';refine ⟨q,by rw [If dI];exact q1,?_⟩
    cases x with
    |box cs=>
     obtain ⟨pc,rfl,hpc⟩:=q2;exact ⟨pc,rfl,RL.FX hpc (hkb _ (afK hx))⟩
    |_=>exact q2⟩
   refine ⟨r,hk.symm,rfl,?_,by rw [U7,hsb];exact R.take hu hkv,by rw [hsb];exact qu,by rw [hsb];exact f1,by rw [hsb];exact f2⟩
   unfold ig;rw [afj];intro t ht;rw [ans] at ht;rcases ht with ht|ht
   · rw [<- US (bx:=s6) (fun _=>rfl) hu c4] at ht
     simpa using hkv t ht
   rw [anq] at ht
   obtain ⟨q,hq,ht⟩:=ht;obtain ⟨j,hj,he⟩:=agt hq;have NL:j<(s'.take (anx tb)).length:=by rw [<- qu.len];exact hj
   obtain ⟨x,hx⟩: ∃x,(s'.take (anx tb))[j]? =anz x:=⟨_,F0s NL⟩;obtain ⟨q',q1,q2⟩:=qu.at_ j x hx;rw [F0s hj,he] at q1;injection q1 with q1;subst q1;rw [<- Jv q2 (FZ c5 j x hx)] at ht;simpa using hkb x (afK hx) t ht)
 have hr':b=r:=hr;subst hr';subst hz;refine ⟨n,v,s,cu,?_⟩;rw [cT];obtain ⟨h1,h2,h3,h4,h5⟩:=hq;exact ⟨h1,h2,h3,by rw [h4,cT],h5⟩
theorem ON {f:FuncId} {r:List PT} (hf:F f=anz (.kf anC (fG (anx r)))) (l:List (RT r)) (hl:(anx l)<=1048576) {as:List PV} {aE:cH} {fz:List Nat} (hex:Cp aE (xD aE deep) as=anz [.sl (anx r) anC (l.map (RT.pv r))]):
 ∃n x,dw F (run F n) anC f as aE fz=anz x/\afO .own (anx aE) (dD (di aE deep) as) (.sl r l) x:=by
 refine ⟨0,{v:= .own (anx aE) (anx r) 0 (anx l) (anx l) anC,news:=[.arr (anx r) (l.map (RT.pv r))],rd:=dD (di aE deep) as},?_,.sl (anx r) anC (l.map (RT.pv r)),.own (anx aE) (anx r) 0 (anx l) (anx l) anC,[.arr (anx r) (l.map (RT.pv r))],rfl,by simp only [FN,af6],rfl⟩
 simp only [dw,hex,hf];cases l with
 |nil=>rfl
 |cons a l=>
  have h2:M2 ((l.map (RT.pv r)).length+1) eN=anB:=by simp [eN] at hl ⊢;omega
  simp only [af7,fG,afb,h2,afa,if_true,zG];simp [has]
theorem aF.clone {f:FuncId} {n:Nat} {r:List PT} (hf:F f=anz (.kf anC (fG n))) (hn:n=anx r):aF F f (bz.clone r):=by
 intro (a:List (RT r)) (b:List (RT r)) as pa aE fz hb TS hex;subst hn;have hb:bP a=anz b:=hb;obtain ⟨rfl,hl⟩:=AI hb;have ag7:pa=[.sl (anx r) anC (b.map (RT.pv r))]:=by
  have:anz [PV.sl (anx r) anC (b.map (RT.pv r))]=anz pa:=TS
  exact (afE this).symm
 subst ag7;exact ON hf b hl hex
theorem aF.Ly {f:FuncId} (hf:F f=anz (.kf anC Ai)):aF F f bz.Ly:=by
 intro a b as pa aE fz hb TS hex;obtain ⟨x,y,c⟩:=a;have A6:pg x y c=anz b:=hb;unfold pg at A6;cases hc:(anD (0<=x)&&anD (0<=y)&&anD (0<=c)&&anD (c<=1)) with
 |false=>rw [hc] at A6;cases A6
 |true=>
  rw [hc] at A6;injection A6 with A6;subst A6;simp only [v6,decide_eq_true_eq] at hc;obtain ⟨⟨⟨h1,h2⟩,h3⟩,h4⟩:=hc;obtain ⟨x,rfl⟩:=acl h1;obtain ⟨y,rfl⟩:=acl h2;obtain ⟨c,rfl⟩:=acl h3;have ag7:pa=[.int .u64 (.ofNat x),.int .u64 (.ofNat y),.int .u64 (.ofNat c)]:=by
   have:anz [PV.int .u64 (x:Int),.int .u64 (y:Int),.int .u64 (c:Int)]=anz pa:=TS
   exact (afE this).symm
  subst ag7;have hcb:M2 c 1=anB:=by simp;omega
  refine ⟨0,{v:= .cq [.int .u64 (.ofNat ((x+y+c)%18446744073709551616)),.int .u64 (.ofNat ((x+y+c) / 18446744073709551616))],rd:=dD (di aE deep) as},?_,_,rfl,rfl⟩;show dw F (run F 0) anC f as aE fz=_;simp only [dw,hex,hf,Ai,hcb,if_true];rfl
theorem jr.zero {f:FuncId} {c:dN} (h: ∀a,c.fn a=anA):jr F f c:=fun a b pa ps hb=>by rw [h a] at hb;cases hb
theorem aF.zero {f:FuncId} {c:bz} (h: ∀a,c.fn a=anA):aF F f c:=fun a b as pa aE fz hb=>by rw [h a] at hb;cases hb
theorem aF.at0 {f:FuncId} {fn:Unit->Option Bool} (h:aF F f ⟨ax.nil,Arg.bool,fn,.pure,anC⟩) (hb:fn ()=anz anB):aF F f ⟨ax.nil,Arg.bool,fun _=>anz anB,.pure,anC⟩:=by
 intro a b as args aE fz hr hp hx;obtain rfl:anB=b:=afE hr;exact h () anB as args aE fz hb hp hx
end
end Go.Vm
/- What comes in to a law, as typed values; a law from a contract. -/
namespace Go.Vm
open Go.ChangeShapes Go.WideShapes Go.ChangeAt Go.RowKit
def PT.wf:(p:PT)->p.T->Prop
 | .i k,n=>(Lit.int k n).wf=anB
 | .b,_=>True
def RT.wf:(r:List PT)->RT r->Prop
 | [],_=>True
 | [p],a=>p.wf a
 |p::q::r,a=>p.wf a.1/\RT.wf (q::r) a.2
def gN (r:List PT) (vs:List SV):Prop:= ∃a:RT r,vs=RT.sv r a/\RT.wf r a
def LX (r:List PT) (vs:List SV):Prop:= ∃l:List (RT r),vs=[.sl r l]/\ ∀a∈l,RT.wf r a
def X9:List (List SV->Prop)->List SV->Prop
 | [],vs=>vs=[]
 |K::Ks,vs=> ∃a b,vs=a++b/\K a/\X9 Ks b
theorem gN.cons {p:PT}: ∀{r:List PT} {a b:List SV},gN [p] a->gN r b->gN (p::r) (a++b)
 | [],a,b,⟨x,hx,wx⟩,⟨y,hy,_⟩=>⟨x,by rw [hx,hy];rfl,wx⟩
 |q::r,a,b,⟨x,hx,wx⟩,⟨y,hy,wy⟩=>⟨(x,y),by rw [hx,hy];rfl,wx,wy⟩
theorem gN.split {p q:PT} {r:List PT} {vs:List SV}:gN (p::q::r) vs-> ∃a b,vs=a++b/\gN [p] a/\gN (q::r) b
 |⟨x,hx,wx⟩=>⟨[p.sv x.1],RT.sv (q::r) x.2,hx,⟨x.1,rfl,wx.1⟩,⟨x.2,rfl,wx.2⟩⟩
theorem gN.app: ∀{r s:List PT} {a b:List SV},gN r a->gN s b->gN (r++s) (a++b)
 | [],s,a,b,⟨x,hx,_⟩,h=>by
  have:a=[]:=hx
  subst this;exact h
 | [p],s,a,b,h,k=>gN.cons h k
 |p::q::r,s,a,b,h,k=>by
  obtain ⟨a1,a2,rfl,h1,h2⟩:=gN.split h
  rw [af4];exact gN.cons h1 (gN.app h2 k)
theorem nD: ∀{rs:List (List PT)} {vs:List SV},X9 (rs.map gN) vs->gN rs.flatten vs
 | [],vs,h=>by
  have:vs=[]:=h
  subst this;exact ⟨(),rfl,trivial⟩
 |r::rs,vs,⟨a,b,h1,h2,h3⟩=>by
  subst h1;rw [List.flatten_cons];exact gN.app h2 (nD h3)
def cB (P : Program) (t : TypeId) (K : List SV -> Prop) : Prop :=
  ∀ (H : Type) (enc : TypeId × Value -> H) (w : World) (Aw : Nat) (cs : List Value) (x : DataW H × List MemPlace), DataW.trod enc P w 0 (fun _ => anB) anB Aw t cs = anz x ->
    ∃ vs q, K vs /\ qZ vs = anz q /\ eV (Fl w) gf q cs
section
variable {P : Program}
theorem cB.mono {t:TypeId} {K K':List SV->Prop} (h:cB P t K) (hk: ∀vs,K vs->K' vs):cB P t K':=fun H enc w Aw cs x hx=>by
 obtain ⟨vs,q,h1,h2,h3⟩:=h H enc w Aw cs x hx;exact ⟨vs,q,hk vs h1,h2,h3⟩
theorem cB.int {t:TypeId} {k:IntKind} (ht:P.underlying t=anz (.int k)):cB P t (gN [.i k]):=fun H enc w Aw cs x h=>by
 obtain ⟨n,rfl,_,hw⟩:=DataW.trod_int ht h;exact ⟨[.int k n],[.int k n],⟨n,rfl,hw⟩,rfl,.cons _ _ _ _ (.int k n) .nil⟩
theorem cB.bool {t:TypeId} (ht:P.underlying t=anz .bool):cB P t (gN [.b]):=fun H enc w Aw cs x h=>by
 obtain ⟨b,rfl,_⟩:=DataW.trod_bool ht h;exact ⟨[.bool b],[.bool b],⟨b,rfl,trivial⟩,rfl,.cons _ _ _ _ (.bool b) .nil⟩
def bm (P:Program):List Field->List (List SV->Prop)->Nat->Prop
 | [],[],_=>True
 |f::fs,K::Ks,off=>f.offset=off/\cB P f.type K/\bm P fs Ks (off+P.cellsOf f.type)
 |_,_,_=>False
theorem bm.nil {off:Nat}:bm P [] [] off:=trivial
theorem bm.cons {f:Field} {fs:List Field} {K:List SV->Prop} {Ks:List (List SV->Prop)} {off:Nat} (h1:f.offset=off) (h2:cB P f.type K) (h3:bm P fs Ks (off+P.cellsOf f.type)):bm P (f::fs) (K::Ks) off:=⟨h1,h2,h3⟩
def yb (P:Program):List Field->Nat
 | []=>0
 |f::fs=>P.cellsOf f.type+yb P fs
theorem F0 {im:Im} {loc:Loc}: ∀{p:List PV} {vs:List Value} {q:List PV} {us:List Value},eV im loc p vs->eV im loc q us->eV im loc (p++q) (vs++us)
 | [],[],_,_,.nil,h=>h
 |_::_,_::_,_,_,.cons x v xs ws h hs,k=> .cons x v _ _ h (F0 hs k)
theorem F1 {H:Type} {enc:TypeId×Value->H} {w:World} {n:Nat} {cs:List Value}: ∀{fs:List Field} {Ks:List (List SV->Prop)} {off:Nat},bm P fs Ks off->anx cs=off+yb P fs->
 (∀f∈fs,∃x,DataW.trod enc P w 0 (fun _=>anB) anB n f.type ((cs.drop f.offset).take (P.cellsOf f.type))=anz x)-> ∃vs q,X9 Ks vs/\qZ vs=anz q/\eV (Fl w) gf q (cs.drop off)
 | [],[],off,_,hl,_=>⟨[],[],rfl,rfl,by rw [List.drop_eq_nil_of_le (by simp [yb] at hl;omega)];exact .nil⟩
 |f::fs,K::Ks,off,⟨h1,h2,h3⟩,hl,hx=>by
  obtain ⟨x,Hj⟩:=hx f (by simp)
  obtain ⟨vs,q,k1,k2,k3⟩:=h2 H enc w n _ x Hj;obtain ⟨Nz,q',k1',k2',k3'⟩:=F1 (n:=n) h3 (by simp only [yb] at hl;omega) (fun g hg=>hx g (by simp [hg]))
  refine ⟨vs++Nz,q++q',⟨vs,Nz,rfl,k1,k1'⟩,AF k2 k2',?_⟩;rw [h1] at k3
  have:cs.drop off=(cs.drop off).take (P.cellsOf f.type)++cs.drop (off+P.cellsOf f.type):=by
   rw [<- List.drop_drop,List.take_append_drop]
  rw [this];exact F0 k3 k3'
 | [],_::_,_,h,_,_=>h.elim
 |_::_,[],_,h,_,_=>h.elim
theorem cB.struct {t:TypeId} {fs:Array Field} {Ks:List (List SV->Prop)} (ht:P.underlying t=anz (.struct fs)) (hF:bm P fs.toList Ks 0) (hc:P.cellsOf t=yb P fs.toList):cB P t (X9 Ks):=fun H enc w Aw cs x h=>by
 obtain ⟨xs,n,rfl,_,hl,hxl,rE⟩:=DataW.trod_struct ht h
 have:=F1 (P:=P) (enc:=enc) (w:=w) (n:=n) (cs:=cs) hF (by omega) (fun f hf=>by
  obtain ⟨i,hi,he⟩:=List.mem_iff_getElem.1 hf;have uq:i<fs.size:=by simpa using hi
  have hg:fs[i]? =anz f:=by rw [Array.getElem?_eq_getElem uq];simpa using he
  have:=rE i f hg
  rw [F0s (by omega)] at this
  exact ⟨_,this⟩)
 rwa [afk] at this
theorem RT.vrl {r:List PT} {a:RT r} {q:List PV} (h:qZ (RT.sv r a)=anz q):q=RT.pv r a:=by
 rw [RT.HW] at h;exact (afE h).symm
theorem eV.nth {im:Im} {loc:Loc}: ∀{p:List PV} {vs:List Value},eV im loc p vs-> ∀(k:Nat) (c:PV),p[k]? =anz c-> ∃v,vs[k]? =anz v/\VR im loc c v
 |_::_,_::_,.cons x v xs ws h hs,0,c,hc=>by
  simp at hc;subst hc;exact ⟨v,by simp,h⟩
 |_::_,_::_,.cons x v xs ws h hs,k+1,c,hc=>by
  obtain ⟨u,h1,h2⟩:=eV.nth hs k c (by simpa using hc)
  exact ⟨u,by simpa using h1,h2⟩
theorem cB.slice {t e:TypeId} {r:List PT} (ht:P.underlying t=anz (.slice e)) (he:cB P e (gN r)) (hc:P.cellsOf e=anx r) (hr:0<anx r):cB P t (LX r):=fun H enc w Aw cs x h=>by
 rcases Go.Deep.open_slice ht h with ⟨rfl,_⟩|⟨a,len,cap,m,n,D,Pl,rfl,_,hl,hm,hmm,_,hx⟩
 · exact ⟨[.sl r []],[.sl (anx r) anC []],⟨[],rfl,by simp⟩,rfl,.cons _ _ _ _ (.sl (anx r) anC [] anA 0 (akr _) (fun h=>by cases h) (fun h=>absurd rfl h)) .nil⟩
 have CG:len<=m:=by rw [hmm];split<;>omega
 have each: ∀i,i<len-> ∃A:RT r,RT.wf r A/\ ∃HB,w.cells? 0 (a.add (i*anx r)) (anx r)=anz HB/\eV (Fl w) gf (RT.pv r A) HB:=by
  intro i hi;obtain ⟨HB,h1,h2⟩:=hx i (by omega)
  obtain ⟨vs,q,⟨A,hA,wA⟩,k2,k3⟩:=he H enc w n HB _ h2;subst hA;rw [RT.vrl k2] at k3;rw [hc] at h1;exact ⟨A,wA,HB,h1,k3⟩
 have ch: ∃A:Nat->RT r,∀i,i<len->RT.wf r (A i)/\ ∃HB,w.cells? 0 (a.add (i*anx r)) (anx r)=anz HB/\eV (Fl w) gf (RT.pv r (A i)) HB:=by
  classical
  refine ⟨fun i=>if h:i<len then (each i h).choose else RT.zero r,fun i hi=>?_⟩
  simp only [dif_pos hi];exact (each i hi).choose_spec
 obtain ⟨A,hA⟩:=ch;refine ⟨[.sl r ((am8 len).map A)],[.sl (anx r) anC (((am8 len).map A).map (RT.pv r))],⟨_,rfl,fun x hx=>?_⟩,rfl,.cons _ _ _ _ ?_ .nil⟩
 · obtain ⟨i,hi,rfl⟩:=an1.1 hx
   exact (hA i (List.mem_range.1 hi)).1
 have cT:(((am8 len).map A).map (RT.pv r)).length=len:=by simp
 have:=VR.sl (im:=Fl w) (loc:=gf) (anx r) anC (((am8 len).map A).map (RT.pv r)) (anz a) cap (by rw [cT];exact hl) (fun h=>by cases h) (fun dW=>by
  have Hd:0<len:=by
   rcases am6 len with h|h
   · subst h;exact absurd rfl dW
   exact h
  obtain ⟨_,cs0,h0,_⟩:=hA 0 Hd;obtain ⟨_,Ky,E9⟩:=an2 h0;obtain ⟨b,off,spot⟩:=a;have apn:spot=anA:=by
   have h1:=E9 0 hr;rw [F0s (by omega)] at h1
   simpa [Addr.add] using World.cell?_spot h1
  subst apn;refine ⟨b,off,rfl,fun i row uW=>?_⟩
  simp only [List.map_map,List.getElem?_map,afc] at uW;obtain ⟨j,hj,rfl⟩:=uW;have NL:=cL hj
  have:j=i:=by
   rw [List.getElem?_range (by simpa using NL)] at hj
   exact (afE hj).symm
  subst this;have apo:j<len:=by simpa using NL
  obtain ⟨_,HB,h1,h2⟩:=hA j apo;obtain ⟨_,HE,Dq⟩:=an2 h1;refine ⟨RT.vV r (A j),fun k c hk=>?_⟩
  obtain ⟨v,hv,oU⟩:=eV.nth h2 k c hk;have hkr:k<(anx r):=by
   have:=cL hk
   rwa [Function.comp,RT.vV] at this
  have cc:=Dq k hkr;rw [hv] at cc;rw [Go.WideShapes.add_plain,Go.WideShapes.add_plain] at cc;have NK:c.plain=anB:=afj.1 (RT.plain r (A j)) c (afK hk);exact ⟨v,oU.plain NK,R5 cc⟩)
 rw [cT] at this;exact this
theorem cB.apq {t:TypeId} {fs:Array Field} {K:List SV->Prop} (h:cB P t K) (ht:P.underlying t=anz (.struct fs)) {H:Type} {enc:TypeId×Value->H} {w:World} {od:Nat} {v:Value} {d:DataW H} {p:List MemPlace}
 (hv:Value.okWide P w .any od t v) (hd:DataW.Trod enc P w 0 (fun _=>anB) anB t v d p): ∃vs q,K vs/\qZ vs=anz q/\VR (Fl w) gf (.agg q) v:=by
 obtain ⟨cs,rfl,_⟩:=okWide_struct ht hv;obtain ⟨Aw,hf⟩:=hd;obtain ⟨vs,q,k1,k2,k3⟩:=h H enc w Aw _ _ hf;exact ⟨vs,q,k1,k2,.agg q _ k3⟩
theorem cB.at8 {t:TypeId} {k:IntKind} (ht:P.underlying t=anz (.int k)) {H:Type} {enc:TypeId×Value->H} {w:World} {od:Nat} {v:Value} {d:DataW H} {p:List MemPlace}
 (hv:Value.okWide P w .any od t v) (hd:DataW.Trod enc P w 0 (fun _=>anB) anB t v d p): ∃n,(Lit.int k n).wf=anB/\VR (Fl w) gf (.int k n) v:=by
 obtain ⟨n,rfl,_,_,hw⟩:=open_int ht hv hd;exact ⟨n,hw,.int k n⟩
theorem wf_i64 {n:Int} (h:(Lit.int .i64 n).wf=anB): -9223372036854775808<=n/\n<9223372036854775808:=by
 simp only [Lit.wf,v6,decide_eq_true_eq] at h;have e1:IntKind.i64.min= -9223372036854775808:=by decide
 have e2:IntKind.i64.max=9223372036854775807:=by decide
 rw [e1,e2] at h;omega
end
theorem aF.at9 {F:mX} {f:FuncId} {x:aJ} {α:Type} {A:ax α} {fn:α->Option Bool} (h:aF F f ⟨A,Arg.bool,fn,.pure,anC⟩) (hf:F f=anz (.code x)) {a:α} (hb:fn a=anz anB) {ps:List PV} (hp:qZ (A.enc a)=anz ps) (hx:Cp [] (xD [] deep) ps=anz ps):
 ∃n s z,run F n (.func f ps [] [])=anz (.func (.bool anB) s z):=by
 obtain ⟨n,r,h1,p,h2,rfl⟩:=h a anB ps ps [] [] hb hp hx;have hp':p= .bool anB:=(afE h2).symm;subst hp';refine ⟨n,?_⟩;simp only [dw,hx,hf] at h1;split at h1
 · rename_i v s z hr
   simp only [PP,if_false] at h1;split at h1
   · injection h1 with h1
     injection h1 with h1;subst h1;exact ⟨s,z,hr⟩
   rename_i hn
   split at h1
   · rename_i v' hv
     injection h1 with h1;injection h1 with h1;subst h1;exfalso;cases v with
     |bool b=>exact hn rfl
     |int _ _|str _|sl _ _ _=>injection hv with hv;cases hv
     |agg cs=>simp only [yN,afc] at hv;obtain ⟨_,_,hv⟩:=hv;cases hv
     |cq cs=>simp only [yN,afc] at hv;obtain ⟨_,_,hv⟩:=hv;cases hv
     |own t e off len cap ex=>simp only [yN] at hv;split at hv<;>first|(injection hv with hv;cases hv)|cases hv
     |_=>cases hv
   cases h1
 cases h1
end Go.Vm
