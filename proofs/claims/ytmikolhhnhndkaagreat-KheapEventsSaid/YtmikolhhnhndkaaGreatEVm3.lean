/- The logical machine, part 3: SvCod, SvRel, SvOps1, SvOps2, SvOps3, SvOps4, SvNorm, SvCall, SvFp, SvRun, SvCon, SvLaw. -/
import Derived.Test.YtmikolhhnhndkaaGreatEVm2
open Nat renaming eq_of_beq_eq_true->ut,ble->NE,beq->PP,le_of_ble_eq_true->ac6,beq_refl->ad8,lt_or_ge->adY,zero_add->aec,beq_eq->aem,min_eq_left->aez,le_refl->aeB,blt->aeC,eq_zero_or_pos->aeI,le_of_lt->aeR,sub_self->afK
open Bool renaming and_eq_true->v6,false_eq_true->UV,not_eq_true'->ad1,and_self->ad7,not_false->adW,and_true->aee,not_true->aeG,or_eq_true->afC,true->agK,false->agO
open List renaming getElem?_eq_some_iff->ww,getElem?_append_left->AC,getElem?_append_right->Do,getElem?_eq_getElem->If,getElem?_take_of_lt->IR,getElem?_set->M2,length_cons->ad2,append_assoc->ad3,append_nil->ad4,length_map->ad5,map_cons->ad6,replicate->adc,length_take->ads,map_take->adu,take_of_length_le->adz,all_eq_true->adA,drop_zero->adB,getElem?_cons_succ->adD,map_append->adG,mem_of_getElem?->adX,getElem?_eq_none_iff->adZ,map_drop->ae6,mem_cons_self->ae9,mem_singleton->aea,length_eq_zero_iff->aeb,mem_append_right->aed,mem_cons_of_mem->aef,mem_append_left->aeg,getElem_of_mem->aeh,length_append->aen,getElem?_cons_zero->aes,cons_append->aew,nodup_cons->aeA,take_succ_cons->aeD,all_cons->aeE,cons_beq_cons->aeH,range->aeJ,map_set->aeK,ext_getElem?->aeS,map_nil->aeT,flatMap_cons->aeU,mem_map->aeV,any_eq_true->afb,length_drop->afd,mem_flatMap->afq,all_append->aft,mem_append->afB,any_cons->afE,all_map->agd,length->ags
open Option.some renaming injEq->EQ,inj->adU
open Int renaming eq_ofNat_of_zero_le->acl,ofNat->adV,le_trans->ael
open Prod.mk renaming injEq->ad0
open Option renaming map_eq_some_iff->ad9,isSome_iff_exists->aeo,getD_none->aev,getD_some->afa,some->agy,none->agB
open Go.World renaming cells?_some->aeW
open Decidable renaming decide->agQ
/- The types of arguments and results, as cells. -/
namespace Go.Vm
theorem nQ {r q:List PT} {l:List (RT r)} {m:List (RT q)} (h:qH r q l=agy m): ∃e:r=q,m=e▸l:=by
 unfold qH at h;split at h
 · rename_i hs
   injection h with h;exact ⟨th hs,h.symm⟩
 cases h
theorem zY {r q:List PT} {l:List (RT r)} {m:List (RT q)} (h:qH r q l=agy m):r=q/\m.map (RT.pv q)=l.map (RT.pv r)/\ags m=(ags l):=by obtain ⟨rfl,rfl⟩:=nQ h;exact ⟨rfl,rfl,rfl⟩
theorem dR {x:SV} {xs:List SV} {ps:List PV}:oz (x::xs)=agy ps↔ ∃p qs,ps=p::qs/\qc x=agy p/\oz xs=agy qs:=by
 simp only [oz];constructor
 · intro h
   split at h
   · rename_i y ys h1 h2
     injection h with h;exact ⟨y,ys,h.symm,h1,h2⟩
   cases h
 rintro ⟨p,qs,rfl,h1,h2⟩
 rw [h1,h2]
theorem yS: ∀{xs ys:List SV} {p q:List PV},oz xs=agy p->oz ys=agy q->oz (xs++ys)=agy (p++q)
 | [],ys,p,q,h,k=>by simp only [oz,EQ] at h;subst h;exact k
 |x::xs,ys,p,q,h,k=>by obtain ⟨a,as,rfl,h1,h2⟩:=dR.1 h;exact dR.2 ⟨a,as++q,rfl,h1,yS h2 k⟩
theorem PT.oB: ∀{p:PT} {v:SV} {a:p.T},p.of v=agy a->v=p.sv a
 | .i k,.int l n,a,h=>by
  simp only [PT.of] at h;cases hk:eG l k with
  |false=>rw [hk] at h;cases h
  |true=>rw [hk] at h;injection h with h;subst h;rw [eu.1 hk];rfl
 | .b,.bool x,a,h=>by injection h with h;subst h;rfl
 | .i k,.bool _,a,h=>by cases h
 | .b,.int _ _,a,h=>by cases h
 | .i _,.ga,a,h| .i _,.undef,a,h| .i _,.iI,a,h| .i _,.dv,a,h| .i _,.str _,a,h| .i _,.agg _,a,h| .i _,.bT _,a,h| .i _,.sl _ _,a,h| .i _,.nil _ _,a,h| .i _,.own _ _,a,h| .i _,.pre _ _ _ _,a,h| .i _,.part _ _ _ _ _,a,h| .i _,.pa _ _ _ _ _,a,h| .i _,.pb _ _ _,a,h| .i _,.bp _ _ _,a,h| .i _,.bw _ _,a,h| .i _,.ed _ _ _,a,h| .i _,.mp _,a,h=>by cases h
 | .b,.ga,a,h| .b,.undef,a,h| .b,.iI,a,h| .b,.dv,a,h| .b,.str _,a,h| .b,.agg _,a,h| .b,.bT _,a,h| .b,.sl _ _,a,h| .b,.nil _ _,a,h| .b,.own _ _,a,h| .b,.pre _ _ _ _,a,h| .b,.part _ _ _ _ _,a,h| .b,.pa _ _ _ _ _,a,h| .b,.pb _ _ _,a,h| .b,.bp _ _ _,a,h| .b,.bw _ _,a,h| .b,.ed _ _ _,a,h| .b,.mp _,a,h=>by cases h
theorem RT.oB: ∀{r:List PT} {vs:List SV} {a:RT r},RT.of r vs=agy a->vs=RT.sv r a
 | [],[],a,_=>rfl
 | [p],[v],a,h=>by have:=PT.oB (p:=p) h;rw [this];rfl
 |p::q::r,v::vs,a,h=>by
  simp only [RT.of] at h;split at h
  · rename_i x y h1 h2
    injection h with h;subst h;rw [PT.oB h1,RT.oB h2];rfl
  cases h
 | [],_::_,a,h=>by simp [RT.of] at h
 | [p],[],a,h=>by simp [RT.of] at h
 | [p],_::_::_,a,h=>by simp [RT.of] at h
 |_::_::_,[],a,h=>by simp [RT.of] at h
theorem PT.FO (p:PT) (a:p.T):qc (p.sv a)=agy (p.pv a):=by cases p<;>rfl
theorem RT.FO: ∀(r:List PT) (a:RT r),oz (RT.sv r a)=agy (RT.pv r a)
 | [],_=>rfl
 | [p],a=>dR.2 ⟨_,_,rfl,PT.FO p a,rfl⟩
 |p::q::r,a=>dR.2 ⟨_,_,rfl,PT.FO p a.1,RT.FO (q::r) a.2⟩
theorem RT.uh: ∀(r:List PT) (a:RT r),(RT.pv r a).length=ags r
 | [],_=>rfl
 | [p],a=>rfl
 |p::q::r,a=>by simp [RT.pv,RT.uh (q::r) a.2]
theorem RT.G1: ∀(r:List PT) (a:RT r),(RT.sv r a).length=ags r
 | [],_=>rfl
 | [p],a=>rfl
 |p::q::r,a=>by simp [RT.sv,RT.G1 (q::r) a.2]
theorem FP: ∀(n:Nat) {vs:List SV} {ps:List PV},oz vs=agy ps-> ∃p q,ps=p++q/\oz (vs.take n)=agy p/\oz (vs.drop n)=agy q
 |0,vs,ps,h=>⟨[],ps,rfl,by simp [oz],by simpa using h⟩
 |n+1,[],ps,h=>⟨[],ps,rfl,by simp [oz],by simpa using h⟩
 |n+1,v::vs,ps,h=>by obtain ⟨p,qs,rfl,h1,h2⟩:=dR.1 h;obtain ⟨a,b,rfl,h3,h4⟩:=FP n h2;exact ⟨p::a,b,rfl,by rw [aeD];exact dR.2 ⟨p,a,rfl,h1,h3⟩,by simpa using h4⟩
def cj.int (k:IntKind):cj Int where
 enc n:=[.int k n]
 dec vs:=match vs with
  | .int l n::r=>bif eG l k then agy (n,r) else agB
  |_=>agB
 law:=fun {vs a rest ps} h hp=>by
  split at h
  · rename_i l n r
    cases hk:eG l k with
    |false=>rw [hk] at h;cases h
    |true=>rw [hk] at h;simp only [lw,EQ,ad0] at h;obtain ⟨rfl,rfl⟩:=h;obtain ⟨p,qs,rfl,h1,h2⟩:=dR.1 hp;rw [eu.1 hk] at h1;exact ⟨[p],qs,rfl,dR.2 ⟨p,[],rfl,h1,rfl⟩,h2⟩
  cases h
def cj.bool:cj Bool where
 enc n:=[.bool n]
 dec vs:=match vs with
  | .bool n::r=>agy (n,r)
  |_=>agB
 law:=fun {vs a rest ps} h hp=>by
  split at h
  · simp only [EQ,ad0] at h
    obtain ⟨rfl,rfl⟩:=h;obtain ⟨p,qs,rfl,h1,h2⟩:=dR.1 hp;exact ⟨[p],qs,rfl,dR.2 ⟨p,[],rfl,h1,rfl⟩,h2⟩
  cases h
def My (r:List PT):SV->Option (List (RT r))
 | .sl q l=>qH q r l
 | .nil e c=>bif PP e (ags r)&&!c then agy [] else agB
 |_=>agB
theorem FQ {r:List PT} {v:SV} {l:List (RT r)} {p:PV} (h:My r v=agy l) (hp:qc v=agy p):qc (.sl r l)=agy p:=by
 cases v with
 |sl q m=>obtain ⟨rfl,h2,_⟩:=zY h;rw [<- hp];simp only [qc,h2]
 |nil e c=>
  simp only [My] at h;cases hc:(PP e (ags r)&&!c) with
  |false=>rw [hc] at h;cases h
  |true=>rw [hc] at h;injection h with h;subst h;simp only [v6,aem,ad1] at hc;obtain ⟨rfl,rfl⟩:=hc;rw [<- hp];rfl
 |_=>cases h
def cj.sl (r:List PT):cj (List (RT r)) where
 enc l:=[.sl r l]
 dec vs:=match vs with
  |v::rest=>match My r v with
   |some l=>agy (l,rest)
   |none=>agB
  | []=>agB
 law:=fun {vs a rest ps} h hp=>by
  split at h
  · split at h
    · rename_i v r' x l hl
      simp only [EQ,ad0] at h;obtain ⟨rfl,rfl⟩:=h;obtain ⟨p,qs,rfl,h1,h2⟩:=dR.1 hp;exact ⟨[p],qs,rfl,dR.2 ⟨p,[],rfl,FQ hl h1,rfl⟩,h2⟩
    cases h
  cases h
def cj.row (r:List PT):cj (RT r) where
 enc:=RT.sv r
 dec vs:=match RT.of r (vs.take (ags r)) with
  |some a=>agy (a,vs.drop (ags r))
  |none=>agB
 law:=fun {vs a rest ps} h hp=>by
  split at h
  · rename_i x hx
    simp only [EQ,ad0] at h;obtain ⟨rfl,rfl⟩:=h;obtain ⟨p,q,rfl,h1,h2⟩:=FP (ags r) hp;rw [RT.oB hx] at h1;exact ⟨p,q,rfl,h1,h2⟩
  cases h
def cj.prod {α β:Type} (A:cj α) (B:cj β):cj (α×β) where
 enc p:=A.enc p.1++B.enc p.2
 dec vs:=match A.dec vs with
  |some p=>match B.dec p.2 with
   |some q=>agy ((p.1,q.1),q.2)
   |none=>agB
  |none=>agB
 law:=fun {vs a rest ps} h hp=>by
  split at h
  · rename_i p hA
    split at h
    · rename_i q hB
      simp only [EQ,ad0] at h;obtain ⟨rfl,rfl⟩:=h;obtain ⟨p1,p2,rfl,h1,h2⟩:=A.law (a:=p.1) (rest:=p.2) hA hp;obtain ⟨q1,q2,rfl,h3,h4⟩:=B.law (a:=q.1) (rest:=q.2) hB h2;exact ⟨p1++q1,q2,by simp,yS h1 h3,h4⟩
    cases h
  cases h
def cj.iso {α β:Type} (A:cj α) (f:α->β) (g:β->α) (h: ∀a,g (f a)=a):cj β where
 enc b:=A.enc (g b)
 dec vs:=match A.dec vs with
  |some p=>agy (f p.1,p.2)
  |none=>agB
 law:=fun {vs a rest ps} hd hp=>by
  split at hd
  · rename_i p hA
    simp only [EQ,ad0] at hd;obtain ⟨rfl,rfl⟩:=hd;rw [h];exact A.law hA hp
  cases hd
def Arg.int (k:IntKind):Arg Int where
 enc n:= .int k n
 dec v:=match v with
  | .int l n=>bif eG l k then agy n else agB
  |_=>agB
 law:=fun {v a p} h hp=>by
  split at h
  · rename_i l n
    cases hk:eG l k with
    |false=>rw [hk] at h;cases h
    |true=>rw [hk] at h;injection h with h;subst h;rw [eu.1 hk] at hp;exact hp
  cases h
def Arg.bool:Arg Bool where
 enc n:= .bool n
 dec v:=match v with
  | .bool n=>agy n
  |_=>agB
 law:=fun {v a p} h hp=>by
  split at h
  · injection h with h;subst h;exact hp
  cases h
def Arg.sl (r:List PT):Arg (List (RT r)) where
 enc l:= .sl r l
 dec:=My r
 law:=FQ
def Arg.agg {α:Type} (A:cj α):Arg α where
 enc a:= .agg (A.enc a)
 dec v:=match v with
  | .agg cs=>match A.dec cs with
   |some p=>match p.2 with
    | []=>agy p.1
    |_=>agB
   |none=>agB
  |_=>agB
 law:=fun {v a p} h hp=>by
  split at h
  · rename_i cs
    split at h
    · rename_i q hA
      obtain ⟨x,rest⟩:=q;dsimp only at h;cases rest with
      |cons _ _=>cases h
      |nil=>
       injection h with h;subst h;simp only [qc] at hp;cases hc:oz cs with
       |none=>rw [hc] at hp;cases hp
       |some l=>rw [hc] at hp;injection hp with hp;subst hp;obtain ⟨p1,p2,rfl,h1,h2⟩:=A.law hA hc;simp only [oz,EQ] at h2;subst h2;simp only [qc,h1,ad4]
    cases h
  cases h
def Arg.ref {α:Type} (A:cj α):Arg α where
 enc a:= .bw (A.enc a) 0
 dec v:=match v with
  | .bw cs 0=>match A.dec cs with
   |some p=>match p.2 with
    | []=>agy p.1
    |_=>agB
   |none=>agB
  |_=>agB
 law:=fun {v a p} h hp=>by
  split at h
  · rename_i cs
    split at h
    · rename_i q hA
      obtain ⟨x,rest⟩:=q;dsimp only at h;cases rest with
      |cons _ _=>cases h
      |nil=>
       injection h with h;subst h;simp only [qc] at hp;cases hc:oz cs with
       |none=>rw [hc] at hp;cases hp
       |some l=>rw [hc] at hp;injection hp with hp;subst hp;obtain ⟨p1,p2,rfl,h1,h2⟩:=A.law hA hc;simp only [oz,EQ] at h2;subst h2;simp only [qc,h1,ad4]
    cases h
  cases h
def ay.nil:ay Unit where
 enc _:=[]
 dec vs:=match vs with
  | []=>agy ()
  |_=>agB
 law:=fun {vs a ps} h hp=>by
  split at h
  · exact hp
  cases h
def ay.one {α:Type} (A:Arg α):ay α where
 enc a:=[A.enc a]
 dec vs:=match vs with
  | [v]=>A.dec v
  |_=>agB
 law:=fun {vs a ps} h hp=>by
  split at h
  · obtain ⟨p,qs,rfl,h1,h2⟩:=dR.1 hp
    exact dR.2 ⟨p,qs,rfl,A.law h h1,h2⟩
  cases h
def ay.cons {α β:Type} (A:Arg α) (B:ay β):ay (α×β) where
 enc a:=A.enc a.1::B.enc a.2
 dec vs:=match vs with
  |v::r=>match A.dec v with
   |some x=>match B.dec r with
    |some y=>agy (x,y)
    |none=>agB
   |none=>agB
  | []=>agB
 law:=fun {vs a ps} h hp=>by
  split at h
  · split at h
    · rename_i x hx
      split at h
      · rename_i y hy
        injection h with h;subst h;obtain ⟨p,qs,rfl,h1,h2⟩:=dR.1 hp;exact dR.2 ⟨p,qs,rfl,A.law hx h1,B.law hy h2⟩
      cases h
    cases h
  cases h
def Arg.bT {α:Type} (A:ay α):Arg α where
 enc a:= .bT (A.enc a)
 dec v:=match v with
  | .bT vs=>A.dec vs
  |_=>agB
 law:=fun {v a p} h hp=>by
  split at h
  · rename_i vs
    simp only [qc] at hp;cases hc:oz vs with
    |none=>rw [hc] at hp;cases hp
    |some l=>rw [hc] at hp;injection hp with hp;subst hp;simp only [qc,A.law h hc]
  cases h
def Arg.ed {α:Type} (f:FuncId) (A:ay α):Arg α where
 enc a:= .ed f [] (A.enc a)
 dec v:=match v with
  | .ed g [] b=>bif PP g f then A.dec b else agB
  |_=>agB
 law:=fun {v a p} h hp=>by
  split at h
  · rename_i g b
    cases hg:PP g f with
    |false=>rw [hg] at h;cases h
    |true=>
     rw [hg] at h;have:=ut hg;subst this;simp only [qc,oz] at hp ⊢;cases hc:oz b with
     |none=>rw [hc] at hp;cases hp
     |some l=>rw [hc] at hp;rw [A.law h hc];exact hp
  cases h
def qt.rows {α:Type} (A:Arg α) (q r:List PT) (g:α->List (RT q)) (fn:List (RT q)->Option (List (RT r))):qt:=⟨.one A,.sl r,fun a=>fn (g a),.own,agO⟩
def qt.clone (r:List PT):qt:=⟨.one (.sl r),.sl r,cz,.own,agO⟩
def nR (a b c:Int):Option (Int×Int):=bif agQ (0<=a)&&agQ (0<=b)&&agQ (0<=c)&&agQ (c<=1) then agy ((a+b+c)%18446744073709551616,(a+b+c) / 18446744073709551616) else agB
def qt.Mz:qt:=⟨.cons (.int .u64) (.cons (.int .u64) (.one (.int .u64))),.bT (.cons (.int .u64) (.one (.int .u64))),fun a=>nR a.1 a.2.1 a.2.2,.pure,agO⟩
def IQ:List (Nat×qt)->FuncId->List qt
 | [],_=>[]
 |(g,c)::r,f=>bif PP g f then c::IQ r f else IQ r f
def IS:List (Nat×eJ)->FuncId->List eJ
 | [],_=>[]
 |(g,c)::r,f=>bif PP g f then c::IS r f else IS r f
def G2:List (Nat×Cd)->FuncId->Option Cd
 | [],_=>agB
 |(g,c)::r,f=>bif PP g f then agy c else G2 r f
def qd (lp:Option Nat) (c:List (Nat×qt)) (p:List (Nat×eJ)) (x:List (Nat×Cd)) (rk:List (Nat×List PT)):Ctx:=⟨lp,IQ c,IS p,G2 x,rk,agO⟩
end Go.Vm
/- What a typed value says of a value of the logical machine. -/
namespace Go.Vm
def OwnAt (s:List SB) (t e n:Nat):Prop:=(∃r l,s[t]? =agy (.arr r l)/\e=ags r/\n=ags l)\/s[t]? =agy .dead
def yi (s:List SB) (t e:Nat):Prop:=(∃r l,s[t]? =agy (.arr r l)/\e=ags r)\/s[t]? =agy .dead\/(∃cs,s[t]? =agy (.box cs)/\e=1)
def Ql (s:List SB) (t:Nat) (r:List PT) (i:Int) (a:RT r):Prop:=(∃l,s[t]? =agy (.arr r l)/\aC l i=agy a)\/s[t]? =agy .dead
def YV (s:List SB) (t:Nat) (i:Int):Prop:=(∃r l,s[t]? =agy (.arr r l)/\(aC l i).isSome=agK)\/s[t]? =agy .dead
mutual
def R (s:List SB):SV->PV->Prop
 | .ga,_=>True
 | .undef,v=>v= .undef
 | .iI,v=>v= .iI
 | .dv,v=>v= .dv
 | .int k n,v=>v= .int k n
 | .bool b,v=>v= .bool b
 | .str x,v=>v= .str x
 | .agg cs,v=> ∃ps,v= .agg ps/\RL s cs ps
 | .bT cs,v=> ∃ps,v= .bT ps/\RL s cs ps
 | .sl r l,v=>v= .sl (ags r) agO (l.map (RT.pv r))
 | .nil e c,v=>v= .sl e c []
 | .own t ex,v=> ∃e n,v= .own t e 0 n n ex/\OwnAt s t e n
 | .pre t len cap ex,v=> ∃e,v= .own t e 0 len cap ex/\yi s t e
 | .part t off len cap ex,v=> ∃e,v= .own t e off len cap ex/\yi s t e
 | .pa t r i a off,v=>v= .ptr t (ags r) i.toNat off/\Ql s t r i a
 | .pb t i off,v=> ∃e,v= .ptr t e i.toNat off/\YV s t i
 | .bp t n off,v=>v= .ptr t n 0 off
 | .bw cs off,v=> ∃ps,v= .bw ps off/\RL s cs ps
 | .ed f a b,v=> ∃pa pb,v= .ed f pa pb/\RL s a pa/\RL s b pb
 | .mp t,v=>v= .mp t
def RL (s:List SB):List SV->List PV->Prop
 | [],ps=>ps=[]
 |x::xs,ps=> ∃p q,ps=p::q/\R s x p/\RL s xs q
end
def ry:List Int->PV
 | [a]=> .int .i64 a
 |l=> .agg (l.map (.int .i64))
def zZ (k:List Int):PV×PV:=(ry k,.bool agK)
def Cu (p:PT) (a:RT [.i .i64,p]):PV×PV:=(.int .i64 a.1,p.pv a.2)
def RB (s:List SB):SB->jc->Prop
 | .arr r l,b=>b= .arr (ags r) (l.map (RT.pv r))
 | .box cs,b=> ∃ps,b= .box ps/\RL s cs ps
 | .set l,b=>b= .map (l.map zZ)
 | .bF p l,b=>b= .map (l.map (Cu p))
 | .dead,b=>b= .dead
structure bX (s:List SB) (p:bS):Prop where
 len:(ags p)=ags s
 at_: ∀(t:Nat) (b:SB),s[t]? =agy b-> ∃q,p[t]? =agy q/\RB s b q
def dw (s:List SB):SE->Env->Prop
 | [],e=>e=[]
 |(t,v)::r,e=> ∃p q,e=(t,p)::q/\R s v p/\dw s r q
structure xq (st:nO) (p:St):Prop where
 env:dw st.az st.env p.env
 az:bX st.az p.az
 fz:p.fz=st.fz
 kn:p.kn=st.kn
theorem kY: ∀(s l:List SB),YQ s l=s++l
 | [],_=>rfl
 |b::r,l=>by simp [YQ,kY r l]
theorem z6: ∀(s:List SB) (t:Nat) (b:SB),Qg s t b=s.set t b
 | [],_,_=>by simp [Qg]
 |_::_,0,_=>rfl
 |x::r,n+1,b=>by simp [Qg,z6 r n b]
theorem RL.nil {s:List SB}:RL s [] []:=rfl
theorem RL.cons {s:List SB} {x:SV} {xs:List SV} {p:PV} {q:List PV} (h:R s x p) (k:RL s xs q):RL s (x::xs) (p::q):=⟨p,q,rfl,h,k⟩
theorem RL.cons_inv {s:List SB} {x:SV} {xs:List SV} {ps:List PV} (h:RL s (x::xs) ps): ∃p q,ps=p::q/\R s x p/\RL s xs q:=h
theorem RL.lG {s:List SB}: ∀{xs:List SV} {ps:List PV},RL s xs ps->ags ps=ags xs
 | [],ps,h=>by rw [show ps=[] from h];rfl
 |x::xs,ps,h=>by obtain ⟨p,q,rfl,_,h2⟩:=h.cons_inv;simp [h2.lG]
theorem RL.append {s:List SB}: ∀{xs:List SV} {ps:List PV},RL s xs ps-> ∀{ys:List SV} {qs:List PV},RL s ys qs->RL s (xs++ys) (ps++qs)
 | [],ps,h,_,_,k=>by rw [show ps=[] from h];exact k
 |x::xs,ps,h,_,_,k=>by obtain ⟨p,q,rfl,h1,h2⟩:=h.cons_inv;exact RL.cons h1 (h2.append k)
theorem RL.take {s:List SB}: ∀{xs:List SV} {ps:List PV},RL s xs ps-> ∀n,RL s (xs.take n) (ps.take n)
 | [],ps,h,n=>by rw [show ps=[] from h];simp;exact RL.nil
 |x::xs,ps,h,0=>by simp;exact RL.nil
 |x::xs,ps,h,n+1=>by obtain ⟨p,q,rfl,h1,h2⟩:=h.cons_inv;exact RL.cons h1 (h2.take n)
theorem RL.drop {s:List SB}: ∀{xs:List SV} {ps:List PV},RL s xs ps-> ∀n,RL s (xs.drop n) (ps.drop n)
 | [],ps,h,n=>by rw [show ps=[] from h];simp;exact RL.nil
 |x::xs,ps,h,0=>h
 |x::xs,ps,h,n+1=>by obtain ⟨p,q,rfl,h1,h2⟩:=h.cons_inv;exact h2.drop n
theorem RL.nth {s:List SB}: ∀{xs:List SV} {ps:List PV},RL s xs ps-> ∀{n:Nat} {v:SV},Vm.nth xs n=agy v-> ∃p,ps[n]? =agy p/\R s v p
 | [],_,_,_,_,e=>by cases e
 |x::xs,ps,h,0,v,e=>by obtain ⟨p,q,rfl,h1,_⟩:=h.cons_inv;injection e with e;subst e;exact ⟨p,rfl,h1⟩
 |x::xs,ps,h,n+1,v,e=>by obtain ⟨p,q,rfl,_,h2⟩:=h.cons_inv;obtain ⟨p',h3,h4⟩:=h2.nth (n:=n) e;exact ⟨p',by simpa using h3,h4⟩
mutual
theorem K4 (s:List SB): ∀v:PV,R s (Tf v) v
 | .undef=>rfl
 | .iI=>rfl
 | .dv=>rfl
 | .int _ _=>rfl
 | .bool _=>rfl
 | .str _=>rfl
 | .agg cs=>⟨cs,rfl,ui s cs⟩
 | .bT cs=>⟨cs,rfl,ui s cs⟩
 | .sl e c rows=>by
  cases rows with
  |nil=>exact rfl
  |cons _ _=>trivial
 | .ed f a b=>⟨a,b,rfl,ui s a,ui s b⟩
 | .own .. =>trivial
 | .ptr .. =>trivial
 | .bw .. =>trivial
 | .mp _=>trivial
theorem ui (s:List SB): ∀l:List PV,RL s (zS l) l
 | []=>rfl
 |x::xs=>RL.cons (K4 s x) (ui s xs)
end
theorem dw.lk {s:List SB}: ∀{e:SE} {p:Env},dw s e p-> ∀t,R s (BZ t e) (Vm.lk t p)
 | [],p,h,t=>by rw [show p=[] from h];rfl
 |(u,v)::r,p,h,t=>by
  obtain ⟨q,qs,rfl,h1,h2⟩:=h;simp only [BZ,Vm.lk];cases hb:PP u t with
  |true=>exact h1
  |false=>exact dw.lk h2 t
theorem dw.yN {s:List SB}: ∀{e:SE} {p:Env},dw s e p-> ∀{t:Nat} {v:SV},R s v (Vm.lk t p)->dw s (Vm.yN t v e) p
 | [],p,h,t,v,_=>h
 |(u,x)::r,p,h,t,v,hv=>by
  obtain ⟨q,qs,rfl,h1,h2⟩:=h;simp only [Vm.yN];simp only [Vm.lk] at hv;cases hb:PP u t with
  |true=>rw [hb] at hv;exact ⟨q,qs,rfl,hv,h2⟩
  |false=>rw [hb] at hv;exact ⟨q,qs,rfl,h1,dw.yN h2 hv⟩
theorem dd {s:List SB} {e:SE} {p:Env} (h:dw s e p): ∀x:eL,R s (bE e x) (x.ev p)
 | .t n=>h.lk n
 | .c v=>K4 s v
theorem xt {s:List SB} {e:SE} {p:Env} (h:dw s e p): ∀l:List eL,RL s (iT e l) (C3 p l)
 | []=>rfl
 |x::xs=>RL.cons (dd h x) (xt h xs)
def Fr (bad:List Nat) (s s':List SB):Prop:= ∀(t:Nat) (b:SB),s[t]? =agy b->match b with
 | .arr r l=>(∃l',s'[t]? =agy (.arr r l')/\ags l'=ags l/\(has bad t=agO->l'=l))\/s'[t]? =agy .dead
 | .dead=>s'[t]? =agy .dead
 | .box _=>(∃cs,s'[t]? =agy (.box cs))\/s'[t]? =agy .dead
 |_=>True
theorem Fr.refl (bad:List Nat) (s:List SB):Fr bad s s:=fun t b h=>by
 cases b with
 |arr r l=>exact .inl ⟨l,h,rfl,fun _=>rfl⟩
 |dead=>exact h
 |box cs=>exact .inl ⟨cs,h⟩
 |_=>trivial
theorem Fr.app (bad:List Nat) (s l:List SB):Fr bad s (s++l):=fun t b h=>by
 have h':(s++l)[t]? =agy b:=by have:=(ww.1 h).1;rw [AC this];exact h
 cases b with
 |arr r l=>exact .inl ⟨l,h',rfl,fun _=>rfl⟩
 |dead=>exact h'
 |box cs=>exact .inl ⟨cs,h'⟩
 |_=>trivial
theorem Fr.trans {bad:List Nat} {a b c:List SB} (h:Fr bad a b) (k:Fr bad b c):Fr bad a c:=fun t x hx=>by
 have h1:=h t x hx;cases x with
 |arr r l=>
  rcases h1 with ⟨l',h2,h3,h4⟩|h2
  · have k1:=k t _ h2
    rcases k1 with ⟨l2,k2,k3,k4⟩|k2
    · exact .inl ⟨l2,k2,k3.trans h3,fun hb=>(k4 hb).trans (h4 hb)⟩
    exact .inr k2
  exact .inr (k t _ h2)
 |dead=>exact k t _ h1
 |box cs=>
  rcases h1 with ⟨c2,h2⟩|h2
  · exact k t _ h2
  exact .inr (k t _ h2)
 |_=>trivial
theorem B4 {α:Type} {l m:List α} {i:Int} (h:(aC l i).isSome=agK) (hl:(ags m)=ags l):(aC m i).isSome=agK:=by
 cases i with
 |ofNat n=>simp only [aC] at h ⊢;rw [aeo] at h;obtain ⟨a,ha⟩:=h;have:=(ww.1 ha).1;rw [If (by omega)];rfl
 |negSucc n=>simp [aC] at h
mutual
theorem R.fr {bad:List Nat} {s s':List SB} (hf:Fr bad s s'): ∀{v:SV} {p:PV},R s v p->R s' (SA bad v) p
 | .ga,_,_=>trivial
 | .undef,_,h=>h
 | .iI,_,h=>h
 | .dv,_,h=>h
 | .int _ _,_,h=>h
 | .bool _,_,h=>h
 | .str _,_,h=>h
 | .agg cs,_,h=>by obtain ⟨ps,rfl,h⟩:=h;exact ⟨ps,rfl,RL.fr hf h⟩
 | .bT cs,_,h=>by obtain ⟨ps,rfl,h⟩:=h;exact ⟨ps,rfl,RL.fr hf h⟩
 | .sl _ _,_,h=>h
 | .nil _ _,_,h=>h
 | .own t ex,_,h=>by
  obtain ⟨e,n,rfl,h⟩:=h;refine ⟨e,n,rfl,?_⟩;rcases h with ⟨r,l,h1,h2,h3⟩|h1
  · rcases hf t _ h1 with ⟨l',k1,k2,_⟩|k1
    · exact .inl ⟨r,l',k1,h2,by rw [h3,k2]⟩
    exact .inr k1
  exact .inr (hf t _ h1)
 | .pre t len cap ex,_,h=>by
  obtain ⟨e,rfl,h⟩:=h;refine ⟨e,rfl,?_⟩;rcases h with ⟨r,l,h1,h2⟩|h1|⟨cs,h1,h2⟩
  · rcases hf t _ h1 with ⟨l',k1,_,_⟩|k1
    · exact .inl ⟨r,l',k1,h2⟩
    exact .inr (.inl k1)
  · exact .inr (.inl (hf t _ h1))
  rcases hf t _ h1 with ⟨c2,k1⟩|k1
  · exact .inr (.inr ⟨c2,k1,h2⟩)
  exact .inr (.inl k1)
 | .part t off len cap ex,_,h=>by
  obtain ⟨e,rfl,h⟩:=h;refine ⟨e,rfl,?_⟩;rcases h with ⟨r,l,h1,h2⟩|h1|⟨cs,h1,h2⟩
  · rcases hf t _ h1 with ⟨l',k1,_,_⟩|k1
    · exact .inl ⟨r,l',k1,h2⟩
    exact .inr (.inl k1)
  · exact .inr (.inl (hf t _ h1))
  rcases hf t _ h1 with ⟨c2,k1⟩|k1
  · exact .inr (.inr ⟨c2,k1,h2⟩)
  exact .inr (.inl k1)
 | .pa t r i a off,_,h=>by
  obtain ⟨rfl,h⟩:=h;simp only [SA];cases hb:has bad t with
  |true=>
   refine ⟨_,rfl,?_⟩;rcases h with ⟨l,h1,h2⟩|h1
   · rcases hf t _ h1 with ⟨l',k1,k2,_⟩|k1
     · exact .inl ⟨r,l',k1,B4 (by rw [h2];rfl) k2⟩
     exact .inr k1
   exact .inr (hf t _ h1)
  |false=>
   refine ⟨rfl,?_⟩;rcases h with ⟨l,h1,h2⟩|h1
   · rcases hf t _ h1 with ⟨l',k1,_,k3⟩|k1
     · exact .inl ⟨l',k1,by rw [k3 hb];exact h2⟩
     exact .inr k1
   exact .inr (hf t _ h1)
 | .pb t i off,_,h=>by
  obtain ⟨e,rfl,h⟩:=h;refine ⟨e,rfl,?_⟩;rcases h with ⟨r,l,h1,h2⟩|h1
  · rcases hf t _ h1 with ⟨l',k1,k2,_⟩|k1
    · exact .inl ⟨r,l',k1,B4 h2 k2⟩
    exact .inr k1
  exact .inr (hf t _ h1)
 | .bp _ _ _,_,h=>h
 | .bw cs off,_,h=>by obtain ⟨ps,rfl,h⟩:=h;exact ⟨ps,rfl,RL.fr hf h⟩
 | .ed f a b,_,h=>by obtain ⟨pa,pb,rfl,h1,h2⟩:=h;exact ⟨pa,pb,rfl,RL.fr hf h1,RL.fr hf h2⟩
 | .mp _,_,h=>h
theorem RL.fr {bad:List Nat} {s s':List SB} (hf:Fr bad s s'): ∀{v:List SV} {p:List PV},RL s v p->RL s' (Qf bad v) p
 | [],_,h=>h
 |x::xs,_,h=>by obtain ⟨p,q,rfl,h1,h2⟩:=h.cons_inv;exact RL.cons (R.fr hf h1) (RL.fr hf h2)
end
mutual
theorem MA: ∀v:SV,SA [] v=v
 | .ga| .undef| .iI| .dv| .int _ _| .bool _| .str _| .sl _ _| .nil _ _| .own _ _| .pre _ _ _ _| .part _ _ _ _ _| .pb _ _ _| .bp _ _ _| .mp _=>rfl
 | .agg cs=>by simp only [SA,rO cs]
 | .bT cs=>by simp only [SA,rO cs]
 | .bw cs _=>by simp only [SA,rO cs]
 | .ed _ a b=>by simp only [SA,rO a,rO b]
 | .pa t r i a off=>by simp [SA,has]
theorem rO: ∀v:List SV,Qf [] v=v
 | []=>rfl
 |x::xs=>by simp only [Qf,MA x,rO xs]
end
theorem R.ext {s s':List SB} (hf:Fr [] s s') {v:SV} {p:PV} (h:R s v p):R s' v p:=by
 have:=R.fr hf h
 rwa [MA] at this
theorem RL.ext {s s':List SB} (hf:Fr [] s s') {v:List SV} {p:List PV} (h:RL s v p):RL s' v p:=by
 have:=RL.fr hf h
 rwa [rO] at this
theorem RB.fr {bad:List Nat} {s s':List SB} (hf:Fr bad s s') {b:SB} {p:jc} (h:RB s b p):RB s' (Tl bad b) p:=by
 cases b with
 |box cs=>obtain ⟨ps,rfl,h⟩:=h;exact ⟨ps,rfl,RL.fr hf h⟩
 |_=>exact h
theorem RB.ext {s s':List SB} (hf:Fr [] s s') {b:SB} {p:jc} (h:RB s b p):RB s' b p:=by
 cases b with
 |box cs=>obtain ⟨ps,rfl,h⟩:=h;exact ⟨ps,rfl,RL.ext hf h⟩
 |_=>exact h
theorem dw.fr {bad:List Nat} {s s':List SB} (hf:Fr bad s s'): ∀{e:SE} {p:Env},dw s e p->dw s' (dgE bad e) p
 | [],_,h=>h
 |(t,v)::r,_,h=>by obtain ⟨p,q,rfl,h1,h2⟩:=h;exact ⟨p,q,rfl,R.fr hf h1,dw.fr hf h2⟩
theorem dw.ext {s s':List SB} (hf:Fr [] s s'): ∀{e:SE} {p:Env},dw s e p->dw s' e p
 | [],_,h=>h
 |(t,v)::r,_,h=>by obtain ⟨p,q,rfl,h1,h2⟩:=h;exact ⟨p,q,rfl,R.ext hf h1,dw.ext hf h2⟩
theorem bX.app {s:List SB} {p:bS} (h:bX s p) {l:List SB} {q:bS} (hl:(ags q)=ags l) (hb: ∀(j:Nat) (b:SB),l[j]? =agy b-> ∃x,q[j]? =agy x/\RB (s++l) b x):bX (s++l) (p++q) where
 len:=by simp [h.len,hl]
 at_:=fun t b ht=>by
  rcases adY t (ags s) with cY|Xo
  · rw [AC cY] at ht
    obtain ⟨x,h1,h2⟩:=h.at_ t b ht;exact ⟨x,by rw [AC (by rw [h.len];exact cY)];exact h1,h2.ext (Fr.app [] s l)⟩
  rw [Do Xo] at ht
  obtain ⟨x,h1,h2⟩:=hb _ b ht;exact ⟨x,by rw [Do (by rw [h.len];exact Xo),h.len];exact h1,h2⟩
theorem qe (ts:List Nat): ∀(s:List SB) (t:Nat),(AO ts s)[t]? =(s[t]?).map (Tl ts)
 | [],t=>by simp [AO]
 |b::r,0=>by simp [AO]
 |b::r,t+1=>by simp [AO,qe ts r t]
theorem uj (ts:List Nat): ∀(s:List SB),(AO ts s).length=ags s
 | []=>rfl
 |b::r=>by simp [AO,uj ts r]
theorem Fr.dg {bad ts:List Nat} {s s':List SB} (h:Fr bad s s'):Fr bad s (AO ts s'):=fun t b hb=>by
 have h1:=h t b hb;cases b with
 |arr r l=>
  rcases h1 with ⟨l',h2,h3,h4⟩|h2
  · exact .inl ⟨l',by rw [qe,h2];rfl,h3,h4⟩
  exact .inr (by rw [qe,h2];rfl)
 |dead=>show (AO ts s')[t]? =_;rw [qe,h1];rfl
 |box cs=>
  rcases h1 with ⟨c2,h2⟩|h2
  · exact .inl ⟨Qf ts c2,by rw [qe,h2];rfl⟩
  exact .inr (by rw [qe,h2];rfl)
 |_=>trivial
theorem FT {s:List SB}: ∀(r:List PT) (a:RT r),RL s (RT.sv r a) (RT.pv r a)
 | [],_=>rfl
 | [p],a=>by refine RL.cons ?_ RL.nil;cases p<;>rfl
 |p::q::r,a=>by refine RL.cons ?_ (FT (q::r) a.2);cases p<;>rfl
theorem xu {s:List SB}: ∀(r:List PT) (a:RT r) {ps:List PV},RL s (RT.sv r a) ps->ps=RT.pv r a
 | [],_,ps,h=>h
 | [p],a,ps,h=>by obtain ⟨x,q,rfl,h1,h2⟩:=h.cons_inv;have YW:q=[]:=h2;subst YW;cases p<;>(have O3:=h1;simp only [PT.sv,R] at O3;rw [O3];rfl)
 |p::q::r,a,ps,h=>by obtain ⟨x,qs,rfl,h1,h2⟩:=h.cons_inv;rw [xu (q::r) a.2 h2];cases p<;>(have O3:=h1;simp only [PT.sv,R] at O3;rw [O3];rfl)
theorem RT.plain: ∀(r:List PT) (a:RT r),(RT.pv r a).all PV.plain=agK
 | [],_=>rfl
 | [p],a=>by cases p<;>rfl
 |p::q::r,a=>by have:=RT.plain (q::r) a.2;cases p<;>(simp only [RT.pv,aeE,this,aee];rfl)
theorem R.cells {s:List SB} {v:SV} {p:PV} (h:R s v p) (hj:v≠ .ga):RL s v.cells p.cells:=by
 cases v with
 |ga=>exact absurd rfl hj
 |agg cs=>obtain ⟨ps,rfl,h⟩:=h;exact h
 |undef=>rw [show p= .undef from h];exact RL.cons rfl RL.nil
 |iI=>rw [show p= .iI from h];exact RL.cons rfl RL.nil
 |dv=>rw [show p= .dv from h];exact RL.cons rfl RL.nil
 |int k n=>rw [show p= .int k n from h];exact RL.cons rfl RL.nil
 |bool b=>rw [show p= .bool b from h];exact RL.cons rfl RL.nil
 |str x=>rw [show p= .str x from h];exact RL.cons rfl RL.nil
 |sl r l=>rw [show p=_ from h];exact RL.cons rfl RL.nil
 |nil e c=>rw [show p=_ from h];exact RL.cons rfl RL.nil
 |bp t n o=>rw [show p=_ from h];exact RL.cons rfl RL.nil
 |mp t=>rw [show p=_ from h];exact RL.cons rfl RL.nil
 |bT cs=>obtain ⟨ps,rfl,h⟩:=h;exact RL.cons ⟨ps,rfl,h⟩ RL.nil
 |own t ex=>obtain ⟨e,n,rfl,h⟩:=h;exact RL.cons ⟨e,n,rfl,h⟩ RL.nil
 |pre t a b c=>obtain ⟨e,rfl,h⟩:=h;exact RL.cons ⟨e,rfl,h⟩ RL.nil
 |part t o a b c=>obtain ⟨e,rfl,h⟩:=h;exact RL.cons ⟨e,rfl,h⟩ RL.nil
 |pa t r i a o=>obtain ⟨rfl,h⟩:=h;exact RL.cons ⟨rfl,h⟩ RL.nil
 |pb t i o=>obtain ⟨e,rfl,h⟩:=h;exact RL.cons ⟨e,rfl,h⟩ RL.nil
 |bw cs o=>obtain ⟨ps,rfl,h⟩:=h;exact RL.cons ⟨ps,rfl,h⟩ RL.nil
 |ed f a b=>obtain ⟨pa,pb,rfl,h⟩:=h;exact RL.cons ⟨pa,pb,rfl,h⟩ RL.nil
theorem R.oP {s:List SB} {v:SV} {p:PV} (h:R s v p) (ho:v.oP=agK):p.oP=agK:=by
 cases v with
 |ga|undef|iI|agg _|bT _=>cases ho
 |dv|int _ _|bool _|str _|sl _ _|nil _ _|bp _ _ _|mp _=>rw [show p=_ from h];rfl
 |own t ex=>obtain ⟨e,n,rfl,h⟩:=h;rfl
 |pre t a b c=>obtain ⟨e,rfl,h⟩:=h;rfl
 |part t o a b c=>obtain ⟨e,rfl,h⟩:=h;rfl
 |pa t r i a o=>obtain ⟨rfl,h⟩:=h;rfl
 |pb t i o=>obtain ⟨e,rfl,h⟩:=h;rfl
 |bw cs o=>obtain ⟨ps,rfl,h⟩:=h;rfl
 |ed f a b=>obtain ⟨pa,pb,rfl,h⟩:=h;rfl
theorem RL.we {s:List SB}: ∀{cs:List SV} {ps:List PV},RL s cs ps->Vm.we cs=agK->ps.all PV.oP=agK
 | [],ps,h,_=>by rw [show ps=[] from h];rfl
 |x::xs,ps,h,ho=>by obtain ⟨p,q,rfl,h1,h2⟩:=h.cons_inv;simp only [Vm.we,v6] at ho;simp only [aeE,v6];exact ⟨h1.oP ho.1,h2.we ho.2⟩
theorem R.stored {s:List SB} {v:SV} {p:PV} {w:List SV} (h:R s v p) (hs:v.stored=agy w): ∃q,p.stored=agy q/\RL s w q:=by
 unfold SV.stored at hs;cases ha:Vm.we v.cells with
 |false=>rw [ha] at hs;cases hs
 |true=>
  rw [ha] at hs;injection hs with hs;subst hs;have hj:v≠ .ga:=by intro e;subst e;cases ha
  have hc:=h.cells hj;exact ⟨p.cells,by unfold PV.stored;rw [rc (hc.we ha)],hc⟩
theorem R.ofRow {s:List SB} {v:SV} {p:PV} {r:List PT} {a:RT r} (h:R s v p) (hr:RT.of r v.cells=agy a):p.bW=agy (RT.pv r a)/\ags v.cells=(ags r):=by
 have hc:=RT.oB hr;have hl:(ags v.cells)=(ags r):=by rw [hc,RT.G1]
 refine ⟨?_,hl⟩;have hj:v≠ .ga:=by
  intro e;subst e;cases r with
  |nil=>simp [SV.cells,RT.of] at hr
  |cons p q=>cases q with
   |nil=>cases p<;>simp [SV.cells,RT.of,PT.of] at hr
   |cons _ _=>simp only [SV.cells,RT.of] at hr;split at hr<;>cases hr<;>(rename_i x y h1 h2;simp at h2)
 have h1:=h.cells hj;rw [hc] at h1;have h2:=xu r a h1;unfold PV.bW;rw [h2,rc (RT.plain r a)]
theorem rP {s:List SB} {agg:Option Nat} {off:Nat} {cs:List SV} {ps:List PV} {v:SV} (h:RL s cs ps) (hp:yf agg off cs=agy v): ∃p,part agg off ps=agy p/\R s v p:=by
 cases agg with
 |none=>obtain ⟨p,h1,h2⟩:=h.nth hp;exact ⟨p,h1,h2⟩
 |some n=>
  simp only [yf] at hp;cases hb:NE (off+n) (ags cs) with
  |false=>rw [hb] at hp;cases hp
  |true=>
   rw [hb] at hp;injection hp with hp;subst hp;have:off+n<=(ags ps):=by rw [h.lG];exact ac6 hb
   exact ⟨.agg ((ps.drop off).take n),by simp only [part,rc this],_,rfl,(h.drop off).take n⟩
theorem xw {s:List SB} {off:Nat} {new old:List SV} {pn po:List PV} (h:RL s new pn) (k:RL s old po):RL s (oy off new old) (mB off pn po):=by unfold oy mB;rw [h.lG];exact ((k.take off).append h).append (k.drop _)
theorem MB {s:List SB} {ps:bS} {v:SV} {p:PV} {r:List PT} {l:List (RT r)} (hs:bX s ps) (h:R s v p) (hc:yg s v=agy ⟨r,l⟩):
 rowsOf ps (ags r) p=agy (l.map (RT.pv r))/\hG p=ud v:=by
 cases v with
 |sl q m=>
  have zD:(⟨q,m⟩:Rows)=⟨r,l⟩:=by injection hc
  cases zD;rw [show p=_ from h];refine ⟨?_,rfl⟩;cases l with
  |nil=>rfl
  |cons a l=>simp [rowsOf]
 |own t ex=>
  simp only [yg,bM] at hc;split at hc
  · rename_i q m bK
    have zD:(⟨q,m⟩:Rows)=⟨r,l⟩:=by injection hc
    cases zD;obtain ⟨e,n,rfl,cC⟩:=h;rcases cC with ⟨q',m',h1,rfl,rfl⟩|h1
    · rw [bK] at h1
      injection h1 with h1;cases h1;obtain ⟨b,h2,h3⟩:=hs.at_ t _ bK;rw [show b=_ from h3] at h2;refine ⟨?_,rfl⟩;simp only [rowsOf,ad8,if_true,h2,adB];rw [adz (by simp)]
    rw [bK] at h1;cases h1
  cases hc
 |pre t len cap ex=>
  simp only [yg,bM] at hc;split at hc
  · rename_i q m bK
    have zD:(⟨q,m.take len⟩:Rows)=⟨r,l⟩:=by injection hc
    cases zD;obtain ⟨e,rfl,cC⟩:=h;rcases cC with ⟨q',m',h1,rfl⟩|h1|⟨_,h1,_⟩
    · rw [bK] at h1
      injection h1 with h1;cases h1;obtain ⟨b,h2,h3⟩:=hs.at_ t _ bK;rw [show b=_ from h3] at h2;refine ⟨?_,rfl⟩;simp only [rowsOf,ad8,if_true,h2];simp
    · rw [bK] at h1;cases h1
    rw [bK] at h1;cases h1
  cases hc
 |part t off len cap ex=>
  simp only [yg,bM] at hc;split at hc
  · rename_i q m bK
    have zD:(⟨q,(m.drop off).take len⟩:Rows)=⟨r,l⟩:=by injection hc
    cases zD;obtain ⟨e,rfl,cC⟩:=h;rcases cC with ⟨q',m',h1,rfl⟩|h1|⟨_,h1,_⟩
    · rw [bK] at h1
      injection h1 with h1;cases h1;obtain ⟨b,h2,h3⟩:=hs.at_ t _ bK;rw [show b=_ from h3] at h2;refine ⟨?_,rfl⟩;simp only [rowsOf,ad8,if_true,h2];simp
    · rw [bK] at h1;cases h1
    rw [bK] at h1;cases h1
  cases hc
 |_=>cases hc
end Go.Vm
/- Operation by operation: what the typed machine does, the logical machine does; the easy ones. -/
namespace Go.Vm
structure Good (s:List SB) (ps:bS) (sr:fh) (pr:mC):Prop where
 rd:pr.rd=sr.rd
 fr:pr.fr=sr.fr
 wr:pr.wr.map (·.1)=wq sr.wr
 nw:tM pr.wr=agK
 nl:(ags pr.news)=ags sr.news
 az:bX (sr.lZ s) (HW (fv pr.wr ps) pr.news)
 v:R (sr.lZ s) sr.v pr.v
 fra:Fr (wq sr.wr) s (sr.lZ s)
section
variable {s : List SB} {ps : bS}
theorem Good.val (hS:bX s ps) {v:SV} {p:PV} {rd fr:List Nat} (hv:R s v p):Good s ps {v,rd,fr} {v:=p,rd,fr} where
 rd:=rfl
 fr:=rfl
 wr:=rfl
 nw:=rfl
 nl:=rfl
 az:=by simp only [fh.lZ,kY,ad4,fv,HW];exact hS
 v:=by simp only [fh.lZ,kY,ad4];exact hv
 fra:=by simp only [fh.lZ,kY,ad4];exact Fr.refl _ _
theorem Good.news (hS:bX s ps) {v:SV} {p:PV} {l:List SB} {q:bS} {rd:List Nat} (hl:(ags q)=ags l) (hb: ∀(j:Nat) (b:SB),l[j]? =agy b-> ∃x,q[j]? =agy x/\RB (s++l) b x) (hv:R (s++l) v p):
 Good s ps {v,news:=l,rd} {v:=p,news:=q,rd} where
 rd:=rfl
 fr:=rfl
 wr:=rfl
 nw:=rfl
 nl:=hl
 az:=by simp only [fh.lZ,kY,fv,pX];exact hS.app hl hb
 v:=by simp only [fh.lZ,kY];exact hv
 fra:=by simp only [fh.lZ,kY];exact Fr.app _ _ _
theorem Good.new (hS:bX s ps) {v:SV} {p:PV} {b:SB} {q:jc} {rd:List Nat} (hb:RB (s++[b]) b q) (hv:R (s++[b]) v p):Good s ps {v,news:=[b],rd} {v:=p,news:=[q],rd}:=
 Good.news hS rfl (fun j x h=>by
  cases j with
  |zero=>simp at h;subst h;exact ⟨q,rfl,hb⟩
  |succ j=>simp at h) hv
def MC (b0 b:SB):Prop:=
 match b0 with
 | .arr r l=>(∃l',b= .arr r l'/\ags l'=ags l)\/b= .dead
 | .dead=>b= .dead
 | .box _=>(∃cs,b= .box cs)\/b= .dead
 |_=>True
theorem Fr.set {t:Nat} {b0 b:SB} (h0:s[t]? =agy b0) (hk:MC b0 b):Fr [t] s (s.set t b):=fun u x hu=>by
 by_cases Kk:t=u
 · subst Kk
   rw [h0] at hu;injection hu with hu;subst hu;have cY:=(ww.1 h0).1;have hb:(s.set t b)[t]? =agy b:=by simp [cY]
   cases b0 with
   |arr r l=>
    rcases hk with ⟨l',rfl,hl⟩|rfl
    · exact .inl ⟨l',hb,hl,fun h=>by simp [has] at h⟩
    exact .inr hb
   |dead=>rw [show b= .dead from hk] at hb ⊢;exact hb
   |box cs=>
    rcases hk with ⟨c2,rfl⟩|rfl
    · exact .inl ⟨c2,hb⟩
    exact .inr hb
   |_=>trivial
 have hb:(s.set t b)[u]? =agy x:=by rw [M2];simp [Kk,hu]
 cases x with
 |arr r l=>exact .inl ⟨l,hb,rfl,fun _=>rfl⟩
 |dead=>exact hb
 |box cs=>exact .inl ⟨cs,hb⟩
 |_=>trivial
theorem bX.put (hS:bX s ps) {t:Nat} {b0 b:SB} {q:jc} (h0:s[t]? =agy b0) (hk:MC b0 b) (hq:RB (AO [t] (s.set t b)) (Tl [t] b) q):bX (AO [t] (s.set t b)) (ps.set t q) where
 len:=by simp [uj,hS.len]
 at_:=fun u x hu=>by
  have cY:=(ww.1 h0).1;rw [qe] at hu
  by_cases Kk:t=u
  · subst Kk
    have hb:(s.set t b)[t]? =agy b:=by simp [cY]
    rw [hb] at hu;simp at hu;subst hu;exact ⟨q,by rw [M2];simp [hS.len,cY],hq⟩
  rw [M2] at hu
  simp only [Kk,if_false,ad9] at hu;obtain ⟨y,hy,rfl⟩:=hu;obtain ⟨q',h1,h2⟩:=hS.at_ u y hy;exact ⟨q',by rw [M2];simp [Kk,h1],h2.fr (Fr.dg (Fr.set h0 hk))⟩
theorem Good.put (hS:bX s ps) {v:SV} {p:PV} {t:Nat} {b0 b:SB} {q:jc} {l:List SB} {ql:bS} {rd:List Nat} (h0:s[t]? =agy b0) (hk:MC b0 b) (hq:RB (AO [t] (s.set t b)) (Tl [t] b) q)
 (hl:(ags ql)=ags l) (hb: ∀(j:Nat) (x:SB),l[j]? =agy x-> ∃y,ql[j]? =agy y/\RB (AO [t] (s.set t b)++l) x y) (hv:R (AO [t] (s.set t b)++l) v p):
 Good s ps {v,wr:=[(t,b)],news:=l,rd} {v:=p,wr:=[(t,q)],news:=ql,rd} where
 rd:=rfl
 fr:=rfl
 wr:=rfl
 nw:=rfl
 nl:=hl
 az:=by simp only [fh.lZ,kY,fv,pX,wq,pJ,z6];exact (hS.put h0 hk hq).app hl hb
 v:=by simp only [fh.lZ,kY,wq,pJ,z6];exact hv
 fra:=by simp only [fh.lZ,kY,wq,pJ,z6];exact (Fr.dg (Fr.set h0 hk)).trans (Fr.app _ _ _)
theorem Good.Qm (hS:bX s ps) {t:Nat} {b0 b:SB} {q:jc} {rd:List Nat} (h0:s[t]? =agy b0) (hk:MC b0 b) (hq:RB (AO [t] (s.set t b)) (Tl [t] b) q):
 Good s ps {v:= .undef,wr:=[(t,b)],rd} {v:= .undef,wr:=[(t,q)],rd}:=
 Good.put hS h0 hk hq rfl (fun j x h=>by simp at h) rfl
end
section
variable {R' ρ : Type} {w : R' -> ρ} {y : ρ}
theorem bB {α:Type} {x:Option α} {k:α->fE R'} (h:j9 x k ρ w=agy y): ∃a,x=agy a/\k a ρ w=agy y:=by
 cases x with
 |none=>cases h
 |some a=>exact ⟨a,rfl,h⟩
theorem b7 {α:Type} {x:Option α} {k:α->fE R'} (h:jW x k ρ w=agy y): ∃a,x=agy a/\k a ρ w=agy y:=KP h
theorem ew {c:Bool} {a b:fE R'} (h:fa c a b ρ w=agy y):(c=agK/\a ρ w=agy y)\/(c=agO/\b ρ w=agy y):=KQ h
theorem cb {c:Bool} {a:fE R'} (h:(bif c then a else aO) ρ w=agy y):c=agK/\a ρ w=agy y:=by
 cases c
 · cases h
 exact ⟨rfl,h⟩
theorem qu {c:Bool} {a:fE R'} (h:(bif c then aO else a) ρ w=agy y):c=agO/\a ρ w=agy y:=by
 cases c
 · exact ⟨rfl,h⟩
 cases h
theorem gE {c:Bool} {a:fE R'} (h:fa c a aO ρ w=agy y):c=agK/\a ρ w=agy y:=by
 rcases ew h with ⟨h1,h2⟩|⟨_,h2⟩
 · exact ⟨h1,h2⟩
 cases h2
theorem uo {c:Bool} {a:fE R'} (h:fa c aO a ρ w=agy y):c=agO/\a ρ w=agy y:=by
 rcases ew h with ⟨_,h2⟩|⟨h1,h2⟩
 · cases h2
 exact ⟨h1,h2⟩
end
def fU {R':Type} (s:List SB) (ps:bS) (po:Option mC) (k:fh->fE R') (ρ:Type) (w:R'->ρ) (y:ρ):Prop:=
 ∃sr pr,po=agy pr/\Good s ps sr pr/\k sr ρ w=agy y
section
variable {R' ρ : Type} {w : R' -> ρ} {y : ρ} {s : List SB} {ps : bS} {e : SE} {pe : Env} {z : List Nat} {k : fh -> fE R'}
theorem fU.val (hS:bX s ps) {po:Option mC} {v:SV} {p:PV} (h:k {v} ρ w=agy y) (hp:po=agy {v:=p}) (hv:R s v p):fU s ps po k ρ w y:=
 ⟨_,_,hp,Good.val hS hv,h⟩
theorem fU.rd (hS:bX s ps) {po:Option mC} {v:SV} {p:PV} {rd:List Nat} (h:k {v,rd} ρ w=agy y) (hp:po=agy {v:=p,rd}) (hv:R s v p):fU s ps po k ρ w y:=
 ⟨_,_,hp,Good.val hS hv,h⟩
theorem lJ (hE:dw s e pe) {x:eL} {a:IntKind} {n:Int} (h:bE e x= .int a n):x.ev pe= .int a n:=by have:=dd hE x;rw [h] at this;exact this
theorem z7 (hE:dw s e pe) {x:eL} {b:Bool} (h:bE e x= .bool b):x.ev pe= .bool b:=by have:=dd hE x;rw [h] at this;exact this
theorem N5 (hE:dw s e pe) {x:eL} {v:SV} (h:bE e x=v):R s v (x.ev pe):=by have:=dd hE x;rwa [h] at this
theorem IT (k:IntKind):eG k k=agK:=by cases k<;>rfl
theorem K5 (hS:bX s ps) {op:BinOp} {a:IntKind} {m n:Int} (h:KS op a m n (YM k) ρ w=agy y): ∃p,arith op a m n=agy p/\fU s ps (agy {v:=p}) k ρ w y:=by
 cases op with
 |quo=>
  obtain ⟨h1,h2⟩:=uo h;have hn:n≠0:=by intro e;subst e;cases h1
  exact ⟨_,by simp only [arith,sp hn],fU.val hS h2 rfl rfl⟩
 |rem=>
  obtain ⟨h1,h2⟩:=uo h;have hn:n≠0:=by intro e;subst e;cases h1
  exact ⟨_,by simp only [arith,sp hn],fU.val hS h2 rfl rfl⟩
 |shl=>cases h
 |shr=>cases h
 |_=>exact ⟨_,rfl,fU.val hS h rfl rfl⟩
theorem Tq (hE:dw s e pe) (hS:bX s ps) {op:BinOp} {a b:eL} (h:kX e s z (.bin op a b) k ρ w=agy y):fU s ps (bq pe ps z (.bin op a b)) k ρ w y:=by
 simp only [kX] at h;generalize ha:bE e a=va at h;cases va with
 |int ka m=>
  generalize hb:bE e b=vb at h;cases vb with
  |int kb n=>
   have h1:=lJ hE ha;have h2:=lJ hE hb;have key:(op≠ .shl)->(op≠ .shr)->(bif eG ka kb then KS op ka m n (YM k) else aO) ρ w=agy y->fU s ps (bq pe ps z (.bin op a b)) k ρ w y:=by
    intro n1 n2 h;obtain ⟨hk,h⟩:=cb h;obtain ⟨p,hp,hs⟩:=K5 hS h;have:bq pe ps z (.bin op a b)=agy {v:=p}:=by simp only [bq,h1,h2];cases op<;>first|exact absurd rfl n1|exact absurd rfl n2|(simp only [Nn,hk,if_true,hp];rfl)
    rw [this];exact hs
   cases op with
   |shl=>
    obtain ⟨hc,h⟩:=uo h;have zD: ¬n<0:=by simpa using hc
    exact fU.val hS h (by simp only [bq,h1,h2,Nn,AQ,sp zD];rfl) rfl
   |shr=>
    obtain ⟨hc,h⟩:=uo h;have zD: ¬n<0:=by simpa using hc
    exact fU.val hS h (by simp only [bq,h1,h2,Nn,AQ,sp zD];rfl) rfl
   |_=>exact key (by intro e;cases e) (by intro e;cases e) h
  |_=>cases h
 |_=>cases h
theorem Qn (hE:dw s e pe) (hS:bX s ps) {neg:Bool} {a b:eL} (h:kX e s z (.HP neg a b) k ρ w=agy y):fU s ps (bq pe ps z (.HP neg a b)) k ρ w y:=by
 simp only [kX] at h;generalize ha:bE e a=va at h;cases va with
 |bool x=>
  generalize hb:bE e b=vb at h;cases vb with
  |bool x'=>refine fU.val hS h ?_ rfl;simp only [bq,z7 hE ha,z7 hE hb];cases neg<;>rfl
  |_=>cases h
 |_=>cases h
theorem Qo: ∀{xs ys:List SV} {ps qs:List PV} {r:Bool},RL s xs ps->RL s ys qs->eqS xs ys=agy r->cU ps qs=agy r
 | [],[],ps,qs,r,h1,h2,h=>by rw [show ps=[] from h1,show qs=[] from h2];exact h
 |x::xs,b::ys,ps,qs,r,h1,h2,h=>by
  obtain ⟨p,ps,rfl,a1,a2⟩:=h1.cons_inv;obtain ⟨q,qs,rfl,b1,b2⟩:=h2.cons_inv;simp only [eqS] at h;split at h
  · rename_i ka m kb n
    have a1':p= .int ka m:=a1;have b1':q= .int kb n:=b1;subst a1' b1';cases hk:eG ka kb with
    |false=>rw [hk] at h;cases h
    |true=>
     rw [hk] at h;have hc:pE (.int ka m) (.int kb n)=agy (m==n):=by simp only [pE,hk,if_true]
     simp only [cU,hc];cases xs with
     |nil=>
      cases ys with
      |nil=>simp only [lw,EQ] at h;subst h;rw [show ps=[] from a2,show qs=[] from b2];cases m==n<;>rfl
      |cons _ _=>cases h
     |cons x2 xs2=>
      simp only [lw] at h;split at h
      · rename_i r' hr
        injection h with h;subst h;rw [Qo a2 b2 hr];cases m==n<;>rfl
      cases h
  cases h
 | [],_::_,ps,qs,r,h1,h2,h=>by cases h
 |_::_,[],ps,qs,r,h1,h2,h=>by cases h
theorem Ts (hE:dw s e pe) (hS:bX s ps) {n:Nat} {neg:Bool} {a b:eL} (h:kX e s z (.Xc n neg a b) k ρ w=agy y):fU s ps (bq pe ps z (.Xc n neg a b)) k ρ w y:=by
 simp only [kX] at h;generalize ha:bE e a=va at h;cases va with
 |agg xs=>
  generalize hb:bE e b=vb at h;cases vb with
  |agg ys=>obtain ⟨hl,h⟩:=cb h;obtain ⟨r,hr,h⟩:=bB h;obtain ⟨p,hp,h1⟩:=N5 hE ha;obtain ⟨q,hq,h2⟩:=N5 hE hb;refine fU.val hS h ?_ rfl;simp only [bq,hp,hq,h1.lG,h2.lG];rw [rc hl,Qo h1 h2 hr];cases neg<;>rfl
  |_=>cases h
 |_=>cases h
theorem YX (hE:dw s e pe) (hS:bX s ps) {op:UnOp} {a:eL} (h:kX e s z (.un op a) k ρ w=agy y):fU s ps (bq pe ps z (.un op a)) k ρ w y:=by
 simp only [kX] at h;cases op with
 |neg=>
  dsimp only at h;generalize ha:bE e a=va at h;cases va with
  |int ka n=>exact fU.val hS h (by simp only [bq,lJ hE ha];rfl) rfl
  |_=>cases h
 |not=>
  dsimp only at h;generalize ha:bE e a=va at h;cases va with
  |bool b=>exact fU.val hS h (by simp only [bq,z7 hE ha];rfl) rfl
  |_=>cases h
 |_=>cases h
theorem Qp (hE:dw s e pe) (hS:bX s ps) {a:IntKind} {x:eL} (h:kX e s z (.conv a x) k ρ w=agy y):fU s ps (bq pe ps z (.conv a x)) k ρ w y:=by
 simp only [kX] at h;generalize ha:bE e x=va at h;cases va with
 |int ka n=>exact fU.val hS h (by simp only [bq,lJ hE ha]) rfl
 |_=>cases h
theorem Tt (hE:dw s e pe) (hS:bX s ps) {x:eL} (h:kX e s z (.len x) k ρ w=agy y):fU s ps (bq pe ps z (.len x)) k ρ w y:=by
 simp only [kX] at h;have hx:=dd hE x;generalize bE e x=v at h hx;cases v with
 |nil e' c=>exact fU.val hS h (by simp only [bq,show x.ev pe= .sl e' c [] from hx];rfl) rfl
 |pre t len cap ex=>obtain ⟨e',hx,_⟩:=hx;exact fU.val hS h (by simp only [bq,hx]) rfl
 |part t off len cap ex=>obtain ⟨e',hx,_⟩:=hx;exact fU.val hS h (by simp only [bq,hx]) rfl
 |sl q m=>exact fU.val hS h (by simp only [bq,show x.ev pe=_ from hx,ad5]) rfl
 |own t ex=>
  obtain ⟨c,hc,h⟩:=bB h;simp only [yg,bM] at hc;split at hc
  · rename_i q m bK
    injection hc with hc;subst hc;obtain ⟨e',n,hx,cC⟩:=hx;rcases cC with ⟨q',m',h1,rfl,rfl⟩|h1
    · rw [bK] at h1;injection h1 with h1;cases h1
      exact fU.val hS h (by simp only [bq,hx]) rfl
    rw [bK] at h1;cases h1
  cases hc
 |_=>obtain ⟨c,hc,h⟩:=bB h;cases hc
theorem z8: ∀{l:List (Nat×Nat×SV)} {pl:List (Nat×Nat×PV)} {cs:List SV} {pc:List PV} {r:List SV},
 (ags pl=ags l/\ ∀(j:Nat) (a:Nat×Nat×SV),l[j]? =agy a-> ∃b,pl[j]? =agy (a.1,a.2.1,b)/\R s a.2.2 b)->RL s cs pc->ug l cs=agy r-> ∃q,lS pl pc=agy q/\RL s r q
 | [],pl,cs,pc,r,hl,hc,h=>by have:pl=[]:=aeb.1 hl.1;subst this;injection h with h;subst h;exact ⟨pc,rfl,hc⟩
 |(off,sz,v)::l,pl,cs,pc,r,hl,hc,h=>by
  cases pl with
  |nil=>simp at hl
  |cons p pl=>
   obtain ⟨b,h1,h2⟩:=hl.2 0 _ rfl;simp at h1;subst h1;simp only [ug] at h;split at h
   · rename_i w hw
     obtain ⟨q,hq,XP⟩:=h2.stored hw;cases Tu:(PP (ags w) sz&&NE (off+sz) (ags cs)) with
     |false=>rw [Tu] at h;cases h
     |true=>rw [Tu] at h;simp only [lw] at h;obtain ⟨q2,h3,h4⟩:=z8 (pl:=pl) ⟨by simpa using hl.1,fun j a ha=>hl.2 (j+1) a (by simpa using ha)⟩ (xw XP hc) h;refine ⟨q2,?_,h4⟩;simp only [lS,hq,XP.lG,hc.lG];rw [rc Tu];exact h3
   cases h
theorem IU (hE:dw s e pe): ∀(l:List (Nat×Nat×eL)),((l.map fun p=>(p.1,p.2.1,p.2.2.ev pe)).length=(wg e l).length/\ ∀(j:Nat) (a:Nat×Nat×SV),(wg e l)[j]? =agy a-> ∃b,(l.map fun p=>(p.1,p.2.1,p.2.2.ev pe))[j]? =agy (a.1,a.2.1,b)/\R s a.2.2 b)
 | []=>⟨rfl,fun j a h=>by simp [wg] at h⟩
 |p::l=>by
  obtain ⟨h1,h2⟩:=IU hE l;refine ⟨by simp [wg] at h1 ⊢;omega,fun j a h=>?_⟩;cases j with
  |zero=>simp [wg] at h;subst h;exact ⟨_,rfl,dd hE _⟩
  |succ j=>simp only [wg,adD] at h;obtain ⟨b,h3,h4⟩:=h2 j a h;exact ⟨b,by simpa using h3,h4⟩
theorem N6 (hE:dw s e pe) (hS:bX s ps) {zero:List PV} {parts:List (Nat×Nat×eL)} (h:kX e s z (.build zero parts) k ρ w=agy y):fU s ps (bq pe ps z (.build zero parts)) k ρ w y:=by simp only [kX] at h;obtain ⟨cs,hc,h⟩:=bB h;obtain ⟨q,hq,hr⟩:=z8 (IU hE parts) (ui s zero) hc;exact fU.val hS h (by simp only [bq,hq];rfl) ⟨q,rfl,hr⟩
theorem Tv (hE:dw s e pe) (hS:bX s ps) {x:eL} (h:kX e s z (.box x) k ρ w=agy y):fU s ps (bq pe ps z (.box x)) k ρ w y:=by simp only [kX] at h;obtain ⟨cs,hc,h⟩:=bB h;obtain ⟨q,hq,hr⟩:=(dd hE x).stored hc;refine ⟨_,_,?_,Good.new hS (b:= .box cs) (q:= .box q) (v:= .bp (ags s) (ags cs) 0) (p:= .ptr (ags s) (ags cs) 0 0) (rd:=[]) ⟨q,rfl,hr.ext (Fr.app _ _ _)⟩ rfl,h⟩;simp only [bq,hq,hS.len,hr.lG]
theorem N7 (hS:bX s ps) {cells:List PV} (h:kX e s z (.alloc cells) k ρ w=agy y):fU s ps (bq pe ps z (.alloc cells)) k ρ w y:=by simp only [kX] at h;refine ⟨_,_,?_,Good.new hS (b:= .box (zS cells)) (q:= .box cells) (v:= .bp (ags s) (ags cells) 0) (p:= .ptr (ags s) (ags cells) 0 0) (rd:=[]) ⟨cells,rfl,ui _ _⟩ rfl,h⟩;simp only [bq,hS.len]
theorem Qq (hE:dw s e pe) (hS:bX s ps) {x:eL} (h:kX e s z (.HQ x) k ρ w=agy y):fU s ps (bq pe ps z (.HQ x)) k ρ w y:=by
 simp only [kX] at h;have hx:=dd hE x;generalize bE e x=v at h hx;cases v with
 |pa t r i a o=>exact fU.val hS h (by simp only [bq,hx.1]) ⟨rfl,hx.2⟩
 |pb t i o=>obtain ⟨e',h1,h2⟩:=hx;exact fU.val hS h (by simp only [bq,h1]) ⟨e',rfl,h2⟩
 |bp t n o=>exact fU.val hS h (by simp only [bq,show x.ev pe=_ from hx]) rfl
 |bw c o=>obtain ⟨q,h1,h2⟩:=hx;exact fU.val hS h (by simp only [bq,h1]) ⟨q,rfl,h2⟩
 |ed f a b=>obtain ⟨pa,pb,h1,h2⟩:=hx;exact fU.val hS h (by simp only [bq,h1]) ⟨pa,pb,rfl,h2⟩
 |_=>cases h
theorem Qr (hE:dw s e pe) (hS:bX s ps) {off:Nat} {x:eL} (h:kX e s z (.HR off x) k ρ w=agy y):fU s ps (bq pe ps z (.HR off x)) k ρ w y:=by
 simp only [kX] at h;have hx:=dd hE x;generalize bE e x=v at h hx;cases v with
 |pa t r i a o=>exact fU.val hS h (by simp only [bq,hx.1]) ⟨rfl,hx.2⟩
 |pb t i o=>obtain ⟨e',h1,h2⟩:=hx;exact fU.val hS h (by simp only [bq,h1]) ⟨e',rfl,h2⟩
 |bp t n o=>exact fU.val hS h (by simp only [bq,show x.ev pe=_ from hx]) rfl
 |bw c o=>obtain ⟨q,h1,h2⟩:=hx;exact fU.val hS h (by simp only [bq,h1]) ⟨q,rfl,h2⟩
 |_=>cases h
theorem Tw (hE:dw s e pe) (hS:bX s ps) {agg:Option Nat} {off:Nat} {x:eL} (h:kX e s z (.iq agg off x) k ρ w=agy y):fU s ps (bq pe ps z (.iq agg off x)) k ρ w y:=by
 simp only [kX] at h;generalize hv:bE e x=v at h;cases v with
 |agg cs=>obtain ⟨v,h1,h⟩:=bB h;obtain ⟨q,h2,h3⟩:=N5 hE hv;obtain ⟨p,h4,h5⟩:=rP h3 h1;exact fU.val hS h (by simp only [bq,h2,h4];rfl) h5
 |_=>cases h
theorem Tx (hE:dw s e pe) (hS:bX s ps) {i:Nat} {x:eL} (h:kX e s z (.ext i x) k ρ w=agy y):fU s ps (bq pe ps z (.ext i x)) k ρ w y:=by
 simp only [kX] at h;generalize hv:bE e x=v at h;cases v with
 |bT cs=>obtain ⟨v,h1,h⟩:=bB h;obtain ⟨q,h2,h3⟩:=N5 hE hv;obtain ⟨p,h4,h5⟩:=h3.nth h1;exact fU.val hS h (by simp only [bq,h2,h4];rfl) h5
 |_=>cases h
theorem Ty (hE:dw s e pe) (hS:bX s ps) {f:FuncId} {a b:List eL} (h:kX e s z (.Xe f a b) k ρ w=agy y):fU s ps (bq pe ps z (.Xe f a b)) k ρ w y:=by simp only [kX] at h;exact fU.val hS h rfl ⟨_,_,rfl,xt hE a,xt hE b⟩
theorem Tz (hS:bX s ps) {m:Option PV} (h:kX e s z (.Xf m) k ρ w=agy y):fU s ps (bq pe ps z (.Xf m)) k ρ w y:=by
 simp only [kX] at h;cases m with
 |none=>refine ⟨_,_,?_,Good.new hS (b:= .set []) (q:= .map []) (v:= .mp (ags s)) (p:= .mp (ags s)) (rd:=[]) rfl rfl,h⟩;simp only [bq,hS.len]
 |some m=>obtain ⟨p,_,h⟩:=bB h;refine ⟨_,_,?_,Good.new hS (b:= .bF p []) (q:= .map []) (v:= .mp (ags s)) (p:= .mp (ags s)) (rd:=[]) rfl rfl,h⟩;simp only [bq,hS.len]
theorem XQ: ∀{l:List SV} {q:List PV} {m:Bool} {a:IntKind} {n:Int} {v:SV},RL s l q->mmS m a n l=agy v-> ∃p,Yb m a n q=agy p/\R s v p
 | [],q,m,a,n,v,hl,h=>by rw [show q=[] from hl];injection h with h;subst h;exact ⟨_,rfl,rfl⟩
 |x::l,q,m,a,n,v,hl,h=>by
  obtain ⟨p,q,rfl,h1,h2⟩:=hl.cons_inv;simp only [mmS] at h;split at h
  · rename_i b c
    have O3:p= .int b c:=h1;subst O3;cases hk:eG a b with
    |true=>rw [hk] at h;obtain ⟨p,h3,h4⟩:=XQ h2 h;refine ⟨p,?_,h4⟩;simp only [Yb,hk,if_true];rw [<- h3];cases m<;>rfl
    |false=>rw [hk] at h;cases h
  cases h
theorem YY (hE:dw s e pe) (hS:bX s ps) {m:Bool} {x:eL} {xs:List eL} (h:kX e s z (.mm m x xs) k ρ w=agy y):fU s ps (bq pe ps z (.mm m x xs)) k ρ w y:=by
 simp only [kX] at h;generalize hv:bE e x=v at h;cases v with
 |int a n=>obtain ⟨v,h1,h⟩:=bB h;obtain ⟨p,h2,h3⟩:=XQ (xt hE xs) h1;exact fU.val hS h (by simp only [bq,lJ hE hv,h2];rfl) h3
 |_=>cases h
theorem Qs (hE:dw s e pe) (hS:bX s ps) {c a b:eL} (h:kX e s z (.pick c a b) k ρ w=agy y):fU s ps (bq pe ps z (.pick c a b)) k ρ w y:=by
 simp only [kX] at h;generalize hv:bE e c=v at h;cases v with
 |bool x=>
  rcases ew h with ⟨rfl,h⟩|⟨rfl,h⟩
  · exact fU.val hS h (by simp only [bq,z7 hE hv]) (dd hE a)
  exact fU.val hS h (by simp only [bq,z7 hE hv]) (dd hE b)
 |_=>cases h
end
end Go.Vm
/- Operation by operation, second part: elements, blocks, slices, sets. -/
namespace Go.Vm
section
variable {R' ρ : Type} {w : R' -> ρ} {y : ρ} {s : List SB} {ps : bS} {e : SE} {pe : Env} {z : List Nat} {k : fh -> fE R'}
theorem bX.arr (hS:bX s ps) {t:Nat} {r:List PT} {l:List (RT r)} (h:s[t]? =agy (.arr r l)):ps[t]? =agy (.arr (ags r) (l.map (RT.pv r))):=by obtain ⟨q,h1,h2⟩:=hS.at_ t _ h;rw [show q=_ from h2] at h1;exact h1
theorem bX.box (hS:bX s ps) {t:Nat} {cs:List SV} (h:s[t]? =agy (.box cs)): ∃q,ps[t]? =agy (.box q)/\RL s cs q:=by obtain ⟨q,h1,q',rfl,h2⟩:=hS.at_ t _ h;exact ⟨q',h1,h2⟩
theorem bX.afo (hS:bX s ps) {t:Nat} {l:List (List Int)} (h:s[t]? =agy (.set l)):ps[t]? =agy (.map (l.map zZ)):=by obtain ⟨q,h1,h2⟩:=hS.at_ t _ h;rw [show q=_ from h2] at h1;exact h1
theorem bX.TA (hS:bX s ps) {t:Nat} {p:PT} {l:List (RT [.i .i64,p])} (h:s[t]? =agy (.bF p l)):ps[t]? =agy (.map (l.map (Cu p))):=by obtain ⟨q,h1,h2⟩:=hS.at_ t _ h;rw [show q=_ from h2] at h1;exact h1
theorem OwnAt.inv {t e n:Nat} {r:List PT} {l:List (RT r)} (h:OwnAt s t e n) (hs:s[t]? =agy (.arr r l)):e=ags r/\n=(ags l):=by
 rcases h with ⟨q,m,h1,rfl,rfl⟩|h1
 · rw [hs] at h1;injection h1 with h1;cases h1;exact ⟨rfl,rfl⟩
 rw [hs] at h1;cases h1
theorem yi.inv {t e:Nat} {r:List PT} {l:List (RT r)} (h:yi s t e) (hs:s[t]? =agy (.arr r l)):e=(ags r):=by
 rcases h with ⟨q,m,h1,rfl⟩|h1|⟨cs,h1,_⟩
 · rw [hs] at h1;injection h1 with h1;cases h1;rfl
 · rw [hs] at h1;cases h1
 rw [hs] at h1;cases h1
theorem Ql.inv {t:Nat} {q r:List PT} {i:Int} {a:RT q} {l:List (RT r)} (h:Ql s t q i a) (hs:s[t]? =agy (.arr r l)): ∃e:q=r,aC l i=agy (e▸a):=by
 rcases h with ⟨m,h1,h2⟩|h1
 · rw [hs] at h1;injection h1 with h1;cases h1;exact ⟨rfl,h2⟩
 rw [hs] at h1;cases h1
theorem YV.inv {t:Nat} {r:List PT} {i:Int} {l:List (RT r)} (h:YV s t i) (hs:s[t]? =agy (.arr r l)):(aC l i).isSome=agK:=by
 rcases h with ⟨q,m,h1,h2⟩|h1
 · rw [hs] at h1;injection h1 with h1;cases h1;exact h2
 rw [hs] at h1;cases h1
theorem eY {α:Type} {l:List α} {n:Nat} {i:Int} {a:α} (h:aC (l.take n) i=agy a): ∃m:Nat,i=adV m/\m<n/\l[m]? =agy a:=by
 obtain ⟨m,rfl,hm⟩:=lY h;have cY:=(ww.1 hm).1;rw [ads] at cY;have hmn:m<n:=by omega
 rw [IR hmn] at hm;exact ⟨m,rfl,hmn,hm⟩
theorem Qt (hE:dw s e pe) (hS:bX s ps) {esz:Nat} {x i:eL} (h:kX e s z (.HS esz x i) k ρ w=agy y):fU s ps (bq pe ps z (.HS esz x i)) k ρ w y:=by
 simp only [kX] at h;generalize hi:bE e i=vi at h;cases vi with
 |int ki n=>
  have hi:=lJ hE hi;have hx:=dd hE x;dsimp only at h;unfold XI at h;generalize bE e x=v at h hx;cases v with
  |sl r l=>
   obtain ⟨he,h⟩:=cb h;obtain ⟨a,ha,hk⟩:=b7 h;obtain ⟨m,rfl,hm⟩:=lY ha;refine fU.val hS (p:= .bw (RT.pv r a) 0) hk ?_ ⟨_,rfl,FT r a⟩;have hr:(l.map (RT.pv r))[m]? =agy (RT.pv r a):=by simp [hm]
   simp only [bq,hi,jd,show x.ev pe=_ from hx,hr,he,if_true]
  |own t ex=>
   simp only [bM] at h;generalize bK:s[t]? =b at h;cases b with
   |none=>cases h
   |some b=>
    cases b with
    |arr r l=>
     obtain ⟨he,h⟩:=cb h;obtain ⟨a,ha,hk⟩:=b7 h;obtain ⟨m,rfl,hm⟩:=lY ha;obtain ⟨e',n',hx,cC⟩:=hx;obtain ⟨rfl,rfl⟩:=cC.inv bK;have cY:=(ww.1 hm).1;have h1:aeC m (ags l)=agK:=by simpa using cY
     refine fU.val hS (p:= .ptr t (ags r) m 0) hk ?_ ⟨rfl,.inl ⟨l,bK,ha⟩⟩;simp only [bq,hi,jd,hx,h1,he,ad7,if_true,aec]
    |_=>cases h
  |pre t len cap ex=>
   simp only [bM] at h;generalize bK:s[t]? =b at h;cases b with
   |none=>cases h
   |some b=>
    cases b with
    |arr r l=>
     obtain ⟨he,h⟩:=cb h;obtain ⟨a,ha,hk⟩:=b7 h;obtain ⟨m,rfl,cY,hm⟩:=eY ha;obtain ⟨e',hx,cC⟩:=hx;have:=cC.inv bK;subst this;have h1:aeC m len=agK:=by simpa using cY
     refine fU.val hS (p:= .ptr t (ags r) m 0) hk ?_ ⟨rfl,.inl ⟨l,bK,hm⟩⟩;simp only [bq,hi,jd,hx,h1,he,ad7,if_true,aec]
    |_=>cases h
  |part t off len cap ex=>
   simp only [bM] at h;generalize bK:s[t]? =b at h;cases b with
   |none=>cases h
   |some b=>
    cases b with
    |arr r l=>
     obtain ⟨he,h⟩:=cb h;obtain ⟨a,ha,hk⟩:=b7 h;obtain ⟨m,rfl,cY,hm⟩:=eY ha;rw [List.getElem?_drop] at hm;obtain ⟨e',hx,cC⟩:=hx;have:=cC.inv bK;subst this;have h1:aeC m len=agK:=by simpa using cY
     refine fU.val hS (p:= .ptr t (ags r) (off+m) 0) hk ?_ ⟨rfl,.inl ⟨l,bK,hm⟩⟩;simp only [bq,hi,jd,hx,h1,he,ad7,if_true]
    |_=>cases h
  |_=>cases h
 |_=>cases h
theorem yT {n:Nat} {i:Int} {j:Nat} {f:Nat->fE R'}:IJ n i j f ρ w=agy y-> ∃m,i=adV m/\j<=m/\m<j+n/\f m ρ w=agy y:=by
 induction n generalizing j with
 |zero=>intro h;cases h
 |succ n ih=>
  intro h;rcases ew h with ⟨h1,h2⟩|⟨_,h2⟩
  · exact ⟨j,by simpa using h1,aeB _,by omega,h2⟩
  obtain ⟨m,h3,h4,h5,h6⟩:=ih h2
  exact ⟨m,h3,by omega,by omega,h6⟩
theorem N8 (hE:dw s e pe) (hS:bX s ps) {n esz:Nat} {p i:eL} (h:kX e s z (.BN n esz p i) k ρ w=agy y):fU s ps (bq pe ps z (.BN n esz p i)) k ρ w y:=by
 simp only [kX] at h;generalize hi:bE e i=vi at h;cases vi with
 |int ki j=>
  have hi:=lJ hE hi;have hx:=dd hE p;generalize bE e p=v at h hx;cases v with
  |bp t m o=>
   obtain ⟨j',rfl,_,h2,h⟩:=yT h;have h1:aeC j' n=agK:=by simp;omega
   exact fU.val hS h (by simp only [bq,hi,jd,h1,if_true,show p.ev pe=_ from hx]) rfl
  |bw c o=>
   obtain ⟨j',rfl,_,h2,h⟩:=yT h;have h1:aeC j' n=agK:=by simp;omega
   obtain ⟨q,hq,hr⟩:=hx;exact fU.val hS h (by simp only [bq,hi,jd,h1,if_true,hq]) ⟨q,rfl,hr⟩
  |_=>cases h
 |_=>cases h
theorem TB (hE:dw s e pe) (hS:bX s ps) {n esz:Nat} {agg:Option Nat} {x i:eL} (h:kX e s z (.idx n esz agg x i) k ρ w=agy y):fU s ps (bq pe ps z (.idx n esz agg x i)) k ρ w y:=by
 simp only [kX] at h;generalize hi:bE e i=vi at h;cases vi with
 |int ki j=>
  have hi:=lJ hE hi;generalize hx:bE e x=v at h;cases v with
  |agg cs=>
   obtain ⟨j',rfl,_,h2,h⟩:=yT h;have h1:aeC j' n=agK:=by simp;omega
   obtain ⟨v,hv,h⟩:=bB h;obtain ⟨q,hq,hr⟩:=N5 hE hx;obtain ⟨p,hp,hpr⟩:=rP hr hv;exact fU.val hS h (by simp only [bq,hi,jd,h1,if_true,hq,hp];rfl) hpr
  |_=>cases h
 |_=>cases h
theorem Qu (hE:dw s e pe) (hS:bX s ps) {x i:eL} (h:kX e s z (.HT x i) k ρ w=agy y):fU s ps (bq pe ps z (.HT x i)) k ρ w y:=by
 simp only [kX] at h;generalize hi:bE e i=vi at h;cases vi with
 |int ki j=>
  have hi:=lJ hE hi;generalize hx:bE e x=v at h;cases v with
  |str t=>
   obtain ⟨b,hb,h⟩:=b7 h;have hx:=N5 hE hx;cases j with
   |negSucc _=>cases hb
   |ofNat m=>simp only [XH,ad9] at hb;obtain ⟨c,hc,rfl⟩:=hb;exact fU.val hS h (by simp only [bq,hi,jd,show x.ev pe=_ from hx,hc]) rfl
  |_=>cases h
 |_=>cases h
theorem Qv (hE:dw s e pe) (hS:bX s ps) {agg:Option Nat} {p:eL} (h:kX e s z (.load agg p) k ρ w=agy y):fU s ps (bq pe ps z (.load agg p)) k ρ w y:=by
 simp only [kX] at h;have hx:=dd hE p;unfold XJ at h;generalize bE e p=v at h hx;cases v with
 |bp t n off=>
  simp only [bM] at h;generalize bK:s[t]? =b at h;cases b with
  |none=>cases h
  |some b=>
   cases b with
   |box cs=>obtain ⟨v,hv,h⟩:=bB h;obtain ⟨q,h1,h2⟩:=hS.box bK;obtain ⟨u,h3,h4⟩:=rP h2 hv;refine fU.rd hS h ?_ h4;show nH ps agg (p.ev pe)=_;rw [show p.ev pe=_ from hx];simp only [nH,h1,ad8,if_true,h3];rfl
   |_=>cases h
 |pa t r i a off=>
  simp only [bM] at h;generalize bK:s[t]? =b at h;cases b with
  |none=>cases h
  |some b=>
   cases b with
   |arr q l=>
    obtain ⟨v,hv,hk⟩:=bB h;obtain ⟨hx,cC⟩:=hx;obtain ⟨rfl,hg⟩:=cC.inv bK;obtain ⟨u,h3,h4⟩:=rP (FT r a) hv;obtain ⟨m,rfl,hm⟩:=lY hg;refine fU.rd hS hk ?_ h4;show nH ps agg (p.ev pe)=_;rw [hx];have zq:(l.map (RT.pv r))[m]? =agy (RT.pv r a):=by simp [hm]
    have e1:(adV m).toNat=m:=rfl;simp only [nH,hS.arr bK,e1,zq,h3];rfl
   |_=>cases h
 |pb t i off=>
  simp only [bM] at h;generalize bK:s[t]? =b at h;cases b with
  |none=>cases h
  |some b=>
   cases b with
   |arr r l=>
    obtain ⟨a,ha,h⟩:=b7 h;obtain ⟨v,hv,hk⟩:=bB h;obtain ⟨e',hx,cC⟩:=hx;obtain ⟨u,h3,h4⟩:=rP (FT r a) hv;obtain ⟨m,rfl,hm⟩:=lY ha;refine fU.rd hS hk ?_ h4;show nH ps agg (p.ev pe)=_;rw [hx];have zq:(l.map (RT.pv r))[m]? =agy (RT.pv r a):=by simp [hm]
    have e1:(adV m).toNat=m:=rfl;simp only [nH,hS.arr bK,e1,zq,h3];rfl
   |_=>cases h
 |bw cs off=>obtain ⟨v,hv,h⟩:=bB h;obtain ⟨q,hq,hr⟩:=hx;obtain ⟨u,h3,h4⟩:=rP hr hv;refine fU.val hS h ?_ h4;show nH ps agg (p.ev pe)=_;rw [hq];simp only [nH,h3];rfl
 |_=>cases h
theorem G3 (hS:bX s ps) {t:Nat} {r:List PT} {l:List (RT r)} (bK:s[t]? =agy (.arr r l)) {i:Int} {b:RT r} {rd:List Nat}:
 Good s ps {v:= .undef,wr:=[(t,.arr r (bP l i b))],rd} {v:= .undef,wr:=[(t,.arr (ags r) ((l.map (RT.pv r)).set i.toNat (RT.pv r b)))],rd}:=
 Good.Qm hS bK (.inl ⟨_,rfl,by simp⟩) (by show _=_;simp [bP,aeK])
theorem N9 (hE:dw s e pe) (hS:bX s ps) {sz:Nat} {p x:eL} (h:kX e s z (.store sz p x) k ρ w=agy y):fU s ps (bq pe ps z (.store sz p x)) k ρ w y:=by
 simp only [kX] at h;have hx:=dd hE p;have hv:=dd hE x;unfold P7 at h;generalize bE e p=v at h hx;generalize bE e x=u at h hv;cases v with
 |bp t n off=>
  simp only [bM] at h;generalize bK:s[t]? =b at h;cases b with
  |none=>cases h
  |some b=>
   cases b with
   |box cs=>
    obtain ⟨w',hw,h⟩:=bB h;obtain ⟨hc,h⟩:=cb h;obtain ⟨q,h1,h2⟩:=hv.stored hw;obtain ⟨b,h3,h4⟩:=hS.box bK;have pG:=Fr.dg (ts:=[t]) (Fr.set (b:= .box (oy off w' cs)) bK (.inl ⟨_,rfl⟩));refine ⟨_,_,?_,Good.Qm hS (b:= .box (oy off w' cs)) (q:= .box (mB off q b)) (rd:=[]) bK (.inl ⟨_,rfl⟩) ⟨_,rfl,RL.fr pG (xw h2 h4)⟩,h⟩
    show qB ps z sz (x.ev pe) (p.ev pe)=_
    rw [show p.ev pe=_ from hx];simp only [qB,h3,h1,h2.lG,h4.lG];rw [rc (by simpa using hc)]
   |_=>cases h
 |pa t r i a off=>
  simp only [bM] at h;generalize bK:s[t]? =b at h;cases b with
  |none=>cases h
  |some b=>
   cases b with
   |arr q l=>
    obtain ⟨hc,h⟩:=cb h;obtain ⟨a',HO,hk⟩:=bB h;obtain ⟨hx,cC⟩:=hx;obtain ⟨rfl,hg⟩:=cC.inv bK;obtain ⟨m,rfl,hm⟩:=lY hg;refine ⟨_,_,?_,G3 hS bK (rd:=[]),hk⟩;show qB ps z sz (x.ev pe) (p.ev pe)=_;rw [hx];have zq:(l.map (RT.pv r))[m]? =agy (RT.pv r a):=by simp [hm]
    have e1:(adV m).toNat=m:=rfl;simp only [v6,ad1] at hc;obtain ⟨⟨c1,c2⟩,c3⟩:=hc;have hj:u≠ .ga:=by
     intro e;subst e;have:=RT.oB HO;have hq:=congrArg (fun l=>l[off]?) this;have jZ:=ac6 c2;have nJ:sz=1:=by have:=ut c1;simpa [SV.cells] using this.symm
     have cY:off<(ags r):=by omega
     have L6:off<(RT.sv r a).length:=by rw [RT.G1];exact cY
     simp only [oy,SV.cells] at hq;rw [AC (by simp;omega),Do (by simp;omega)] at hq;simp only [ads,aez (aeR L6),afK,aes] at hq;have: ∀(r:List PT) (b:RT r) (n:Nat),(RT.sv r b)[n]?≠agy .ga:=by
      intro r
      induction r with
      |nil=>intro b n h;simp [RT.sv] at h
      |cons p rest ih=>
       intro b n;cases rest with
       |nil=>cases n<;>cases p<;>simp [RT.sv,PT.sv]
       |cons p2 afp=>cases n with
        |zero=>cases p<;>simp [RT.sv,PT.sv]
        |succ n=>simpa [RT.sv] using ih b.2 n
     exact this r a' off hq.symm
    have DQ:=hv.cells hj;have k8:=RT.oB HO;have h5:RL s (RT.sv r a') (mB off (x.ev pe).cells (RT.pv r a)):=by rw [<- k8];exact xw DQ (FT r a)
    have h6:=xu r a' h5;have K6:(x.ev pe).bW=agy (x.ev pe).cells:=by unfold PV.bW;rw [rc ?_];have p4:=RT.plain r a';rw [<- h6] at p4;unfold mB at p4;simp only [aft,v6] at p4;exact p4.1.2
    simp only [qB,hS.arr bK,e1,zq,K6,DQ.lG,RT.uh];rw [rc (by simp [c1,c2,c3])];simp only [h6]
   |_=>cases h
 |pb t i off=>
  simp only [bM] at h;generalize bK:s[t]? =b at h;cases b with
  |none=>cases h
  |some b=>
   cases b with
   |arr r l=>
    obtain ⟨hc,h⟩:=cb h;obtain ⟨e',hx,cC⟩:=hx;have vw:=cC.inv bK;rw [aeo] at vw;obtain ⟨a0,hg⟩:=vw;obtain ⟨m,rfl,hm⟩:=lY hg;have zq:(l.map (RT.pv r))[m]? =agy (RT.pv r a0):=by simp [hm]
    have e1:(adV m).toNat=m:=rfl;simp only [v6,ad1] at hc;obtain ⟨⟨c1,c2⟩,c3⟩:=hc;cases nJ:PP sz (ags r) with
    |true=>
     rw [nJ] at h;obtain ⟨a',HO,hk⟩:=bB h;obtain ⟨hp,hl⟩:=hv.ofRow HO;have Ky:=ut nJ;have Cn:off=0:=by have:=ac6 c2;omega
     subst Cn;refine ⟨_,_,?_,G3 hS bK (rd:=[]),hk⟩;show qB ps z sz (x.ev pe) (p.ev pe)=_;rw [hx];simp only [qB,hS.arr bK,e1,zq,hp,RT.uh];rw [rc (by rw [aec,Ky];simp [c3])];have:mB 0 (RT.pv r a') (RT.pv r a0)=RT.pv r a':=by unfold mB;rw [RT.uh,List.drop_of_length_le (by rw [RT.uh];omega)];simp
     rw [this]
    |false=>
     rw [nJ] at h;obtain ⟨a,ha,h⟩:=b7 h;obtain ⟨a',HO,hk⟩:=bB h;rw [hg] at ha;injection ha with ha;subst ha;refine ⟨_,_,?_,G3 hS bK (rd:=[]),hk⟩;show qB ps z sz (x.ev pe) (p.ev pe)=_;rw [hx];have hj:u≠ .ga:=by
      intro e;subst e;have:=RT.oB HO;have hq:=congrArg (fun l=>l[off]?) this;have jZ:=ac6 c2;have nJ:sz=1:=by have:=ut c1;simpa [SV.cells] using this.symm
      have cY:off<(ags r):=by omega
      have L6:off<(RT.sv r a0).length:=by rw [RT.G1];exact cY
      simp only [oy,SV.cells] at hq;rw [AC (by simp;omega),Do (by simp;omega)] at hq;simp only [ads,aez (aeR L6),afK,aes] at hq;have: ∀(r:List PT) (b:RT r) (n:Nat),(RT.sv r b)[n]?≠agy .ga:=by
       intro r
       induction r with
       |nil=>intro b n h;simp [RT.sv] at h
       |cons p rest ih=>
        intro b n;cases rest with
        |nil=>cases n<;>cases p<;>simp [RT.sv,PT.sv]
        |cons p2 afp=>cases n with
         |zero=>cases p<;>simp [RT.sv,PT.sv]
         |succ n=>simpa [RT.sv] using ih b.2 n
      exact this r a' off hq.symm
     have DQ:=hv.cells hj;have k8:=RT.oB HO;have h5:RL s (RT.sv r a') (mB off (x.ev pe).cells (RT.pv r a0)):=by rw [<- k8];exact xw DQ (FT r a0)
     have h6:=xu r a' h5;have K6:(x.ev pe).bW=agy (x.ev pe).cells:=by unfold PV.bW;rw [rc ?_];have p4:=RT.plain r a';rw [<- h6] at p4;unfold mB at p4;simp only [aft,v6] at p4;exact p4.1.2
     simp only [qB,hS.arr bK,e1,zq,K6,DQ.lG,RT.uh];rw [rc (by simp [c1,c2,c3])];simp only [h6]
   |_=>cases h
 |_=>cases h
end
end Go.Vm
/- Operation by operation, third part: slices, new blocks, append, sets; all of them together. -/
namespace Go.Vm
section
variable {R' ρ : Type} {w : R' -> ρ} {y : ρ} {s : List SB} {ps : bS} {e : SE} {pe : Env} {z : List Nat} {k : fh -> fE R'}
def DR (pe:Env) (o:Option eL):Option (Option Nat):=match o with|none=>agy agB|some a=>(jd (a.ev pe)).map agy
theorem tj (hE:dw s e pe) {o:Option eL} {d a:Int} {n:Nat} (h:Bc e d o=agy a) (hd:d=adV n) (h0:0<=a): ∃b,DR pe o=agy b/\b.getD n=a.toNat:=by
 cases o with
 |none=>injection h with h;subst h hd;exact ⟨agB,rfl,rfl⟩
 |some x=>
  simp only [Bc] at h;split at h
  · rename_i ka m hx
    injection h with h;subst h;obtain ⟨b,rfl⟩:=acl h0;refine ⟨agy b,?_,rfl⟩;simp only [DR,lJ hE hx];rfl
  cases h
theorem yU {esz:Nat} {x:eL} {lo hi mx:Option eL} {l h m:Option Nat} {v:PV} (he:sX esz (x.ev pe)=agK) (h1:DR pe lo=agy l) (h2:DR pe hi=agy h) (h3:DR pe mx=agy m) (hv:pF (x.ev pe) l h m=agy v):
 bq pe ps z (.Nk esz x lo hi mx)=agy {v:=v}:=by
 have e:bq pe ps z (.Nk esz x lo hi mx)=(match DR pe lo,DR pe hi,DR pe mx with|some l,agy h,agy m=>(pF (x.ev pe) l h m).map fun v=>({v}:mC)|_,_,_=>agB):=by simp only [bq,he,aeG,UV,if_false];rfl
 rw [e,h1,h2,h3];simp only [hv];rfl
theorem DS {α:Type} {l r:List α} {lo hi:Int} (h:gD l lo hi=agy r): ∃a b:Nat,lo=adV a/\hi=adV b/\a<=b/\b<=ags l/\r=(l.drop a).take (b-a):=by
 unfold gD at h;split at h
 · rename_i hc
   obtain ⟨a,rfl⟩:=acl hc.1;obtain ⟨b,rfl⟩:=acl (ael hc.1 hc.2.1);injection h with h;exact ⟨a,b,rfl,rfl,by omega,by omega,by rw [<- h];simp⟩
 cases h
theorem G4 (hE:dw s e pe) (hS:bX s ps) {esz t off len cap:Nat} {ex:Bool} {x:eL} {lo hi mx:Option eL} (hx:x.ev pe= .own t esz off len cap ex) (cC:yi s t esz) (h:KT e t off len cap ex lo hi mx k ρ w=agy y):
 fU s ps (bq pe ps z (.Nk esz x lo hi mx)) k ρ w y:=by
 unfold KT at h;obtain ⟨a,ha,h⟩:=bB h;obtain ⟨b,hb,h⟩:=bB h;have he:sX esz (x.ev pe)=agK:=by rw [hx];simp [sX]
 cases mx with
 |none=>
  obtain ⟨hc,h⟩:=gE h;simp only [v6,decide_eq_true_eq] at hc;obtain ⟨⟨c1,c2⟩,c3⟩:=hc;obtain ⟨l,h1,h2⟩:=tj hE (n:=0) ha rfl c1;obtain ⟨u,h3,h4⟩:=tj hE (n:=len) hb rfl (ael c1 c2);refine fU.val hS h (yU he h1 h3 (m:=agB) rfl ?_) ⟨esz,rfl,cC⟩;rw [hx];have c4:(NE a.toNat b.toNat&&NE b.toNat cap)=agK:=by have c3':b<=(cap:Int):=c3;simp;omega
  simp only [pF,h2,h4,c4,if_true]
 |some mo=>
  dsimp only at h;generalize hm:bE e mo=vm at h;cases vm with
  |int km c=>
   obtain ⟨hc,h⟩:=gE h;simp only [v6,decide_eq_true_eq] at hc;obtain ⟨⟨⟨c1,c2⟩,c3⟩,c4⟩:=hc;obtain ⟨l,h1,h2⟩:=tj hE (n:=0) ha rfl c1;obtain ⟨u,h3,h4⟩:=tj hE (n:=len) hb rfl (ael c1 c2);have E8:0<=c:=ael (ael c1 c2) c3;obtain ⟨c,rfl⟩:=acl E8;refine fU.val hS h (yU he h1 h3 (m:=agy c) (by simp only [DR,lJ hE hm];rfl) ?_) ⟨esz,rfl,cC⟩;rw [hx];have c5:(NE a.toNat b.toNat&&NE b.toNat c&&NE c cap)=agK:=by have c4':(c:Int)<=(cap:Int):=c4;simp;omega
   simp only [pF,h2,h4,c5,if_true];rfl
  |_=>cases h
theorem TC (hE:dw s e pe) (hS:bX s ps) {esz:Nat} {x:eL} {lo hi mx:Option eL} (h:kX e s z (.Nk esz x lo hi mx) k ρ w=agy y):fU s ps (bq pe ps z (.Nk esz x lo hi mx)) k ρ w y:=by
 simp only [kX] at h;have hx:=dd hE x;unfold afk at h;generalize bE e x=v at h hx;cases v with
 |sl r l=>
  cases mx with
  |some _=>cases h
  |none=>
   dsimp only at h;obtain ⟨he,h⟩:=cb h;have he:=ut he;obtain ⟨a,ha,h⟩:=bB h;obtain ⟨b,hb,h⟩:=bB h;obtain ⟨m,hm,hk⟩:=b7 h;obtain ⟨n1,n2,rfl,rfl,c1,c2,rfl⟩:=DS hm;obtain ⟨u1,h1,h2⟩:=tj hE (n:=0) ha rfl (by simp);obtain ⟨u2,h3,h4⟩:=tj hE (n:=ags l) hb rfl (by simp);have hx':x.ev pe= .sl (ags r) agO (l.map (RT.pv r)):=hx;subst he;refine fU.val hS (p:= .sl (ags r) agO ((((l.drop n1).take (n2-n1))).map (RT.pv r))) hk (yU (m:=agB) (by rw [hx'];simp [sX]) h1 h3 rfl ?_) rfl;rw [hx'];have YW:u1.getD 0=n1:=by rw [h2];rfl
   have h4':u2.getD (l.map (RT.pv r)).length=n2:=by rw [ad5,h4];rfl
   have c3:(NE n1 n2&&NE n2 (l.map (RT.pv r)).length)=agK:=by simp [c1,c2]
   simp only [pF,YW,h4',c3,if_true,Bool.false_and,adu,ae6]
 |own t ex=>
  simp only [bM] at h;generalize bK:s[t]? =b at h;cases b with
  |none=>cases h
  |some b=>
   cases b with
   |arr r l=>
    dsimp only at h;obtain ⟨he,hk⟩:=cb h;have he:=ut he;obtain ⟨e',n',hx,cC⟩:=hx;obtain ⟨rfl,rfl⟩:=cC.inv bK;subst he;have Co:yi s t (ags r):= .inl ⟨r,l,bK,rfl⟩;have gen:KT e t 0 (ags l) (ags l) ex lo hi mx k ρ w=agy y->fU s ps (bq pe ps z (.Nk (ags r) x lo hi mx)) k ρ w y:=fun h=>G4 hE hS hx Co h
    have he:sX (ags r) (x.ev pe)=agK:=by rw [hx];simp [sX]
    cases mx with
    |some m=>cases lo<;>cases hi<;>exact gen hk
    |none=>
     cases lo with
     |some _=>cases hi<;>exact gen hk
     |none=>
      cases hi with
      |none=>refine fU.val hS hk (yU (l:=agB) (h:=agB) (m:=agB) he rfl rfl rfl ?_) ⟨ags r,ags l,rfl,cC⟩;rw [hx];simp [pF]
      |some ho=>
       dsimp only at hk;generalize hh:bE e ho=vh at hk;cases vh with
       |int kh b=>
        obtain ⟨m,hm,hk⟩:=b7 hk;obtain ⟨n1,n2,h0,rfl,c1,c2,rfl⟩:=DS hm;refine fU.val hS hk (yU (l:=agB) (h:=agy n2) (m:=agB) he rfl (by simp only [DR,lJ hE hh];rfl) rfl ?_) ⟨ags r,rfl,Co⟩;rw [hx];have c3:(NE 0 n2&&NE n2 (ags l))=agK:=by simp [c2]
        simp only [pF,aev,afa,c3,if_true];rfl
       |_=>cases hk
   |_=>cases h
 |pre t len cap ex=>
  simp only [bM] at h;generalize bK:s[t]? =b at h;cases b with
  |none=>cases h
  |some b=>
   cases b with
   |arr r l=>
    dsimp only at h;obtain ⟨he,hk⟩:=cb h;have he:=ut he;obtain ⟨e',hx,cC⟩:=hx;have:=cC.inv bK;subst this;subst he;have gen:KT e t 0 len cap ex lo hi mx k ρ w=agy y->fU s ps (bq pe ps z (.Nk (ags r) x lo hi mx)) k ρ w y:=fun h=>G4 hE hS hx cC h
    have he:sX (ags r) (x.ev pe)=agK:=by rw [hx];simp [sX]
    cases mx with
    |some m=>cases lo<;>cases hi<;>exact gen hk
    |none=>
     cases lo with
     |some _=>cases hi<;>exact gen hk
     |none=>
      cases hi with
      |none=>
       obtain ⟨hlc,hk⟩:=gE hk;refine fU.val hS hk (yU (l:=agB) (h:=agB) (m:=agB) he rfl rfl rfl ?_) ⟨ags r,rfl,cC⟩;rw [hx];have c3:(NE 0 len&&NE len cap)=agK:=by simp [hlc]
       simp only [pF,aev,c3,if_true];simp
      |some ho=>
       dsimp only at hk;generalize hh:bE e ho=vh at hk;cases vh with
       |int kh b=>
        obtain ⟨hc,hk⟩:=gE hk;simp only [v6,decide_eq_true_eq] at hc;obtain ⟨c1,c2⟩:=hc;obtain ⟨b,rfl⟩:=acl c1;refine fU.val hS hk (yU (l:=agB) (h:=agy b) (m:=agB) he rfl (by simp only [DR,lJ hE hh];rfl) rfl ?_) ⟨ags r,rfl,cC⟩;rw [hx];have c3:(NE 0 b&&NE b cap)=agK:=by have c2':(b:Int)<=(cap:Int):=c2;simp;omega
        simp only [pF,aev,afa,c3,if_true];rfl
       |_=>cases hk
   |_=>cases h
 |part t off len cap ex=>
  simp only [bM] at h;generalize bK:s[t]? =b at h;cases b with
  |none=>cases h
  |some b=>
   cases b with
   |arr r l=>dsimp only at h;obtain ⟨he,hk⟩:=cb h;have he:=ut he;obtain ⟨e',hx,cC⟩:=hx;have:=cC.inv bK;subst this;subst he;exact G4 hE hS hx cC hk
   |_=>cases h
 |_=>cases h
theorem k9 {b:SB}:(s++[b])[ags s]? =agy b:=by simp
theorem dz: ∀{v:PV} {p:PT},bJ v=agy p->p.pv p.zero=v
 | .int k n,p,h=>by
  simp only [bJ] at h;split at h
  · injection h with h;subst h;rfl
  cases h
 | .bool b,p,h=>by
  simp only [bJ] at h;split at h
  · injection h with h;subst h;rfl
  cases h
 | .undef,_,h| .iI,_,h| .str _,_,h| .agg _,_,h| .bT _,_,h| .sl _ _ _,_,h| .own _ _ _ _ _ _,_,h| .ptr _ _ _ _,_,h| .bw _ _,_,h| .mp _,_,h| .ed _ _ _,_,h| .dv,_,h=>by cases h
theorem Aa : ∀ {l : List PV} {r : List PT}, DG l = agy r -> RT.pv r (RT.zero r) = l
  | [], r, h => by injection h with h; subst h; rfl
  | v :: vs, r, h => by
    simp only [DG] at h
    split at h
    · rename_i p q h1 h2
      injection h with h; subst h
      have e1 := dz h1
      have e2 := Aa h2
      cases q with
      | nil =>
        have : vs = [] := by
          cases vs with
          | nil => rfl
          | cons a b => simp only [RT.pv] at e2; cases e2
        subst this
        show [p.pv p.zero] = _
        rw [e1]
      | cons p2 q2 =>
        show p.pv p.zero :: RT.pv (p2 :: q2) (RT.zero (p2 :: q2)) = _
        rw [e1, e2]
    cases h
theorem TD (hE:dw s e pe) (hS:bX s ps) {esz:Nat} {zero:Row} {l c:eL} (h:kX e s z (.Xd esz zero l c) k ρ w=agy y):fU s ps (bq pe ps z (.Xd esz zero l c)) k ρ w y:=by
 simp only [kX] at h;generalize hl:bE e l=vl at h;cases vl with
 |int kl n=>
  generalize hc:bE e c=vc at h;cases vc with
  |int kc m=>
   obtain ⟨hnm,h1⟩:=gE h;obtain ⟨r,hr,h2⟩:=bB h1;obtain ⟨he,h3⟩:=cb h2;obtain ⟨x,hx,hk⟩:=b7 h3;have hnm:n=m:=by simpa using hnm
   subst hnm;have he:=ut he;subst he;unfold zQ at hx;split at hx
   · rename_i E5
     injection hx with hx;subst hx;obtain ⟨a,rfl⟩:=acl E5.1;have h1:(NE a a&&NE a kI)=agK:=by simp [kI];omega
     refine ⟨_,_,?_,Good.new hS (b:= .arr r (adc (adV a).toNat (RT.zero r))) (q:= .arr (ags r) (adc a zero)) (v:= .own (ags s) agK) (p:= .own (ags s) (ags r) 0 a a agK) (rd:=[]) ?_ ?_,hk⟩
     · have e1:jd (.int kl (a:Int))=agy a:=rfl
       have e2:jd (.int kc (a:Int))=agy a:=rfl;simp only [bq,lJ hE hl,lJ hE hc,e1,e2];rw [rc h1,hS.len]
     · show _=_
       simp [Aa hr]
     exact ⟨ags r,a,rfl,.inl ⟨r,_,k9,rfl,by simp⟩⟩
   cases hx
  |_=>cases h
 |_=>cases h
def uq {α:Type}:List α->List (Nat×α)->List α
 |l,[]=>l
 |l,(i,a)::r=>uq (l.set i a) r
theorem DT {α : Type} : ∀ (q : List (Nat × α)) (l : List α) (i : Nat), (uq l q)[i]? = (l[i]?).map fun z => rowAt i z q
  | [], l, i => by simp [uq, rowAt]
  | (j, a) :: q, l, i => by
    simp only [uq, rowAt]
    rw [DT q (l.set j a) i, M2]
    by_cases S3 : j = i
    · subst S3
      cases hl : l[j]? with
      | none =>
        have : ¬ j < (ags l) := by intro h; rw [If h] at hl; cases hl
        simp [this]
      | some z =>
        have : j < (ags l) := (ww.1 hl).1
        simp [this]
    have : PP j i = agO := by
      cases hb : PP j i with
      | false => rfl
      | true => exact absurd (ut hb) S3
    simp [S3, this]
theorem IV {α:Type} (f:Nat->α): ∀(n i j:Nat),(GX f i n)[j]? =if j<n then agy (f (i+j)) else agB
 |0,i,j=>by simp [GX]
 |n+1,i,0=>by simp [GX]
 |n+1,i,j+1=>by
  simp only [GX,adD];rw [IV f n (i+1) j,show i+1+j=i+(j+1) by omega]
  by_cases h:j<n
  · simp [h]
  simp [h]
theorem DU {α:Type} (z:α) (n:Nat) (q:List (Nat×α)):uq (adc n z) q=GX (fun i=>rowAt i z q) 0 n:=by
 apply aeS;intro i;rw [DT,IV]
 by_cases h:i<n
 · simp [h]
 simp [h]
theorem DV (hE:dw s e pe) {r:List PT} {n:Nat}: ∀{parts:List (Nat×eL)} {q:List (Nat×RT r)} {l:List (RT r)},Mp r e n parts=agy q->ags l=n->
 oQ (parts.map fun p=>(p.1,p.2.ev pe)) (l.map (RT.pv r)) (ags r)=agy ((uq l q).map (RT.pv r))
 | [],q,l,h,hl=>by injection h with h;subst h;rfl
 |p::parts,q,l,h,hl=>by
  simp only [Mp] at h;split at h
  · rename_i a q' h1 h2
    cases hb:aeC p.1 n with
    |false=>rw [hb] at h;cases h
    |true=>rw [hb] at h;injection h with h;subst h;have hp:=((dd hE p.2).ofRow h1).1;simp only [ad6,oQ,hp,RT.uh,ad5,hl,hb,ad8,ad7,if_true,uq];rw [<- aeK];exact DV hE h2 (by simp [hl])
  cases h
theorem Oa (hE:dw s e pe) (hS:bX s ps) {esz n:Nat} {zero:Row} {parts:List (Nat×eL)} (h:kX e s z (.zt esz n zero parts) k ρ w=agy y):fU s ps (bq pe ps z (.zt esz n zero parts)) k ρ w y:=by
 simp only [kX] at h;obtain ⟨r,hr,h1⟩:=bB h;obtain ⟨he,h2⟩:=cb h1;obtain ⟨q,hq,hk⟩:=bB h2;have he:=ut he;subst he;have hf:=DV hE (l:=adc n (RT.zero r)) hq (by simp);rw [DU] at hf;have hz:(adc n (RT.zero r)).map (RT.pv r)=adc n zero:=by simp [Aa hr]
 rw [hz] at hf;refine ⟨_,_,?_,Good.new hS (b:= .arr r (GX (fun i=>rowAt i (RT.zero r) q) 0 n)) (q:= .arr (ags r) ((GX (fun i=>rowAt i (RT.zero r) q) 0 n).map (RT.pv r))) (v:= .own (ags s) agK) (p:= .own (ags s) (ags r) 0 n n agK) (rd:=[]) rfl ?_,hk⟩
 · simp only [bq,hf,hS.len]
   rfl
 refine ⟨ags r,n,rfl,.inl ⟨r,_,k9,rfl,?_⟩⟩
 rw [<- DU];have: ∀(q:List (Nat×RT r)) (l:List (RT r)),(uq l q).length=(ags l):=by
  intro q
  induction q with
  |nil=>intro l;rfl
  |cons p q ih=>intro l;simp [uq,ih]
 rw [this];simp
theorem MD: ∀{cs:List SV} {q:List PV} {l:List Int},RL s cs q->Mq cs=agy l->q=l.map (.int .i64)
 | [],q,l,h,hi=>by injection hi with hi;subst hi;exact h
 |x::xs,q,l,h,hi=>by
  obtain ⟨p,q,rfl,h1,h2⟩:=h.cons_inv;simp only [Mq] at hi;split at hi
  · rename_i n l' hx
    injection hi with hi;subst hi;rw [show p= .int .i64 n from h1,MD h2 hx];rfl
  cases hi
theorem Qw {v:SV} {p:PV} {n:Option Nat} {l:List Int} (h:R s v p) (hk:Th n v=agy l):p=ry l/\iP n (ry l)=agK/\(ry l).bW=agy (ry l).cells/\(ry l).cells=l.map (.int .i64)/\(n=agB->ags l=1)/\(∀m,n=agy m->ags l=m/\m≠1):=by
 cases n with
 |none=>
  cases v with
  |int kk a=>
   cases kk with
   |i64=>injection hk with hk;subst hk;exact ⟨h,rfl,rfl,rfl,fun _=>rfl,fun m hm=>by cases hm⟩
   |_=>cases hk
  |_=>cases hk
 |some m=>
  cases v with
  |agg cs=>
   simp only [Th] at hk;cases hc:(PP (ags cs) m&&!Nat.beq m 1) with
   |false=>rw [hc] at hk;cases hk
   |true=>
    rw [hc] at hk;simp only [lw] at hk;simp only [v6,aem,ad1] at hc;obtain ⟨c1,c2⟩:=hc;obtain ⟨q,rfl,hq⟩:=h;have OW:=MD hq hk;have bU:(ags l)=m:=by have:=hq.lG;rw [OW] at this;simp at this;omega
    have XS:m≠1:=by intro e;subst e;cases c2
    have O0:ry l= .agg (l.map (.int .i64)):=by
     unfold ry;split
     · simp at bU;omega
     rfl
    refine ⟨by rw [O0,OW],by rw [O0];simp [iP,bU],?_,by rw [O0];rfl,(fun h=>by cases h),fun m' hm=>by injection hm with hm;subst hm;exact ⟨bU,XS⟩⟩;rw [O0];unfold PV.bW;rw [rc];simp [PV.cells,PV.plain]
  |_=>cases hk
theorem ur: ∀(a b:List Int),ags a=ags b->cU (a.map (.int .i64)) (b.map (.int .i64))=agy (a==b)
 | [],[],_=>rfl
 |x::a,y::b,h=>by
  have ih:=ur a b (by simpa using h);simp only [ad6,cU,pE,IT,if_true];cases SQ:x==y with
  |true=>simp only [ih];simp [aeH,SQ]
  |false=>simp [aeH,SQ]
 | [],_::_,h=>by simp at h
 |_::_,[],h=>by simp at h
theorem Bi {n : Option Nat} {a : List Int} (ha : (ry a).cells = a.map (.int .i64)) (hn : (n = agB -> (ags a) = 1) /\ (∀ m, n = agy m -> (ags a) = m /\ m ≠ 1)) : ∀ (l : List (List Int)) (i : Nat), (∀ r, eE n (ry a) (l.map zZ) i = agy r -> (match r with | none => Ct l a = agO | some j => i <= j /\ Ct l a = agK /\ l[j - i]? = agy a))
  | [], i, r, h => by
    simp only [aeT, eE, EQ] at h
    subst h; rfl
  | b :: l, i, r, h => by
    simp only [ad6, zZ, eE] at h
    split at h
    · rename_i hk
      have hb : (ry b).cells = b.map (.int .i64) /\ (ags a) = (ags b) := by
        cases n with
        | none =>
          have hl := hn.1 rfl
          unfold ry at hk ⊢
          split at hk
          · exact ⟨rfl, by simpa using hl⟩
          cases hk
        | some m =>
          obtain ⟨hl, hm⟩ := hn.2 m rfl
          unfold ry at hk ⊢
          split at hk
          · cases hk
          simp only [iP, ad5, aem] at hk
          exact ⟨rfl, by omega⟩
      rw [ha, hb.1, ur a b hb.2] at h
      cases Ny : a == b with
      | true =>
        rw [Ny] at h
        injection h with h; subst h
        have : a = b := by simpa using Ny
        subst this
        exact ⟨aeB _, by simp [Ct], by simp⟩
      | false =>
        rw [Ny] at h
        have := Bi ha hn l (i + 1) r h
        cases r with
        | none => simpa [Ct, Ny] using this
        | some j =>
          obtain ⟨h1, h2, h3⟩ := this
          refine ⟨by omega, by simp only [Ct] at h2; simp [Ct, h2], ?_⟩
          rw [show j - i = (j - (i + 1)) + 1 by omega]; simpa using h3
    cases h
theorem Ab {n:Option Nat} {a:List Int} (ha:(ry a).cells=a.map (.int .i64)) (hn:(n=agB->ags a=1)/\(∀m,n=agy m->ags a=m/\m≠1)) {l:List (List Int)} (hl:l.all (fun b=>iP n (ry b))=agK): ∀i,∃r,eE n (ry a) (l.map zZ) i=agy r:=by
 induction l with
 |nil=>intro i;exact ⟨agB,rfl⟩
 |cons b l ih=>
  intro i;simp only [aeE,v6] at hl;obtain ⟨r,hr⟩:=ih hl.2 (i+1);simp only [ad6,zZ,eE,hl.1,if_true];have hb:(ry b).cells=b.map (.int .i64)/\ags a=(ags b):=by
   have hk:=hl.1;cases n with
   |none=>
    have jU:=hn.1 rfl;unfold ry at hk ⊢;split at hk
    · exact ⟨rfl,by simpa using jU⟩
    cases hk
   |some m=>
    obtain ⟨jU,hm⟩:=hn.2 m rfl;unfold ry at hk ⊢;split at hk
    · cases hk
    simp only [iP,ad5,aem] at hk
    exact ⟨rfl,by omega⟩
  rw [ha,hb.1,ur a b hb.2];cases Ny:a==b with
  |true=>exact ⟨agy i,rfl⟩
  |false=>exact ⟨r,hr⟩
theorem B5 {n:Option Nat} {a:List Int} (hn:(n=agB->ags a=1)/\(∀m,n=agy m->ags a=m/\m≠1)) {l:List (List Int)} (hl: ∀b∈l,ags b=ags a):l.all (fun b=>iP n (ry b))=agK:=by
 rw [adA];intro b hb;have bU:=hl b hb;cases n with
 |none=>
  have h1:=hn.1 rfl;rw [h1] at bU
  match b,bU with
  | [x],_=>rfl
 |some m=>
  obtain ⟨h1,h2⟩:=hn.2 m rfl;unfold ry;split
  · rename_i x;simp at bU;omega
  simp [iP];omega
theorem Ac {a:List Int} {l:List (List Int)} (h:mL a l=agK): ∀b∈l,ags b=(ags a):=by intro b hb;exact ut (adA.1 h b hb)
theorem PT.afr {s:List SB} {p:PT} {v:SV} {q:PV} {a:p.T} (h:R s v q) (ho:p.of v=agy a):q=p.pv a:=by
 cases p with
 |i k=>
  cases v with
  |int l n=>
   simp only [PT.of] at ho;cases hk:eG l k with
   |false=>rw [hk] at ho;cases ho
   |true=>rw [hk] at ho;obtain rfl:=eu.1 hk;injection ho with ho;subst ho;exact h
  |_=>cases ho
 |b=>
  cases v with
  |bool x=>injection ho with ho;subst ho;exact h
  |_=>cases ho
theorem DW {β:Type} (g:Int×β->PV×PV) (hg: ∀x,(g x).1= .int .i64 x.1) (k:Int): ∀(l:List (Int×β)) (i:Nat),
 (∃j x,eE agB (.int .i64 k) (l.map g) i=agy (agy (i+j))/\l[j]? =agy x/\(∀z,BX z l k=x.2)/\ ∀a,BY l k a=l.set j (k,a))\/
 (eE agB (.int .i64 k) (l.map g) i=agy agB/\(∀z,BX z l k=z)/\ ∀a,BY l k a=l++[(k,a)])
 | [],i=> .inr ⟨rfl,fun _=>rfl,fun _=>rfl⟩
 |x::l,i=>by
  have hk:iP agB (g x).1=agK:=by rw [hg];rfl
  have he:cU (PV.int .i64 k).cells (g x).1.cells=agy (k==x.1):=by rw [hg];show cU [.int .i64 k] [.int .i64 x.1]=_;simp only [cU,pE,eG,if_true];cases k==x.1<;>rfl
  have hf:eE agB (.int .i64 k) ((x::l).map g) i=(match agy (k==x.1) with
   |some agK=>agy (agy i)
   |some agO=>eE agB (.int .i64 k) (l.map g) (i+1)
   |none=>agB):=by
   rw [ad6];show (if iP agB (g x).1 then _ else agB)=_;rw [rc hk,he];cases k==x.1<;>rfl
  cases hb:k==x.1 with
  |true=>rw [hb] at hf;exact .inl ⟨0,x,hf,rfl,fun z=>by simp only [BX,hb,lw],fun a=>by simp only [BY,hb,lw,List.set_cons_zero]⟩
  |false=>
   rw [hb] at hf;rcases DW g hg k l (i+1) with ⟨j,y,h1,h2,h3,h4⟩|⟨h1,h2,h3⟩
   · refine .inl ⟨j+1,y,?_,by simpa using h2,fun z=>?_,fun a=>?_⟩
     · rw [hf];show eE agB (.int .i64 k) (l.map g) (i+1)=_
       rw [h1,show i+1+j=i+(j+1) by omega]
     · simp only [BX,hb,pp,h3]
     simp only [BY,hb,pp,h4,List.set_cons_succ]
   exact .inr ⟨hf.trans h1,fun z=>by simp only [BX,hb,pp,h2],fun a=>by simp only [BY,hb,pp,h3,aew]⟩
theorem DX (p:PT) (k:Int) (l:List (RT [.i .i64,p])):
 (∃(j:Nat) (x:RT [.i .i64,p]),eE agB (.int .i64 k) (l.map (Cu p)) 0=agy (agy j)/\l[j]? =agy x/\(∀z,p.get z l k=x.2)/\ ∀a,p.put l k a=l.set j (k,a))\/
 (eE agB (.int .i64 k) (l.map (Cu p)) 0=agy agB/\(∀z,p.get z l k=z)/\ ∀a,p.put l k a=l++[(k,a)]):=by
 cases p with
 |i d=>
  rcases DW (β:=Int) (Cu (.i d)) (fun _=>rfl) k l 0 with ⟨j,x,h1,h2,h3,h4⟩|h
  · exact .inl ⟨j,x,by rw [h1,aec],h2,h3,h4⟩
  exact .inr h
 |b=>
  rcases DW (β:=Bool) (Cu .b) (fun _=>rfl) k l 0 with ⟨j,x,h1,h2,h3,h4⟩|h
  · exact .inl ⟨j,x,by rw [h1,aec],h2,h3,h4⟩
  exact .inr h
theorem PT.aja {s:List SB} (p:PT) (a:p.T):R s (p.sv a) (p.pv a):=by cases p<;>rfl
theorem PT.IW (p:PT) (a:p.T):(p.pv a).bW=agy [p.pv a]:=by cases p<;>rfl
theorem K7 (hE:dw s e pe) (hS:bX s ps) {n:Option Nat} {zero:PV} {ok:Bool} {m q:eL} (h:kX e s z (.lookup n zero ok m q) k ρ w=agy y):fU s ps (bq pe ps z (.lookup n zero ok m q)) k ρ w y:=by
 simp only [kX] at h;have hx:=dd hE m;generalize bE e m=v at h hx;cases v with
 |mp t=>
  simp only [bM] at h;generalize bK:s[t]? =b at h;cases b with
  |none=>cases h
  |some b=>
   cases b with
   |set l=>
    dsimp only at h;unfold Ms at h;cases zero with
    |bool b=>
     cases b with
     |true=>cases h
     |false=>
      cases ok with
      |true=>cases h
      |false=>
       obtain ⟨a,ha,h1⟩:=bB h;obtain ⟨b,hb,hk⟩:=b7 h1;obtain ⟨k1,k2,k3,k4,k5⟩:=Qw (dd hE q) ha;unfold IH at hb;cases sC:mL a l with
       |false=>rw [sC] at hb;cases hb
       |true=>
        rw [sC] at hb;injection hb with hb;subst hb;obtain ⟨r,hr⟩:=Ab k4 k5 (B5 k5 (Ac sC)) 0;have hf:=Bi k4 k5 l 0 r hr;refine fU.rd hS hk ?_ rfl;show rB ps n (.bool agO) agO (m.ev pe) (q.ev pe)=_;rw [show m.ev pe=_ from hx,k1];simp only [rB,hS.afo bK,k2,if_true,hr];cases r with
        |none=>simp only at hf;simp [hf]
        |some j=>
         obtain ⟨_,h2,h3⟩:=hf;have:(l.map zZ)[j]? =agy (zZ a):=by simp at h3;simp [h3]
         simp [this,h2,zZ]
    |_=>cases h
   |bF p l=>
    dsimp only at h;unfold Mt at h;cases n with
    |some _=>cases h
    |none=>
     cases ok with
     |true=>cases h
     |false=>
      have hq:=dd hE q;generalize bE e q=u at h hq;cases u with
      |int d a=>
       cases d with
       |i64=>
        obtain ⟨zv,hz,hk⟩:=bB h;have afs:=PT.afr (K4 s zero) hz;refine fU.rd hS hk ?_ (PT.aja p _);show rB ps agB zero agO (m.ev pe) (q.ev pe)=_;rw [show m.ev pe=_ from hx,show q.ev pe=_ from hq];rcases DX p a l with ⟨j,x,h1,h2,h3,_⟩|⟨h1,h2,_⟩
        · have h5:(l.map (Cu p))[j]? =agy (Cu p x):=by simp [h2]
          simp only [rB,hS.TA bK,iP,if_true,h1,h5,h3,Cu,UV,if_false]
        simp only [rB,hS.TA bK,iP,if_true,h1,h2,afs,UV,if_false]
       |_=>cases h
      |_=>cases h
   |_=>cases h
 |_=>cases h
theorem Qx (hE:dw s e pe) (hS:bX s ps) {n:Option Nat} {m q x:eL} (h:kX e s z (.Gt n m q x) k ρ w=agy y):fU s ps (bq pe ps z (.Gt n m q x)) k ρ w y:=by
 simp only [kX] at h;have hx:=dd hE m;generalize bE e m=v at h hx;cases v with
 |mp t=>
  simp only [bM] at h;generalize bK:s[t]? =b at h;cases b with
  |none=>cases h
  |some b=>
   cases b with
   |set l=>
    obtain ⟨hz,h0⟩:=qu h;unfold P9 at h0;have hv:=dd hE x;generalize bE e x=u at h0 hv;cases u with
    |bool b=>
     cases b with
     |false=>cases h0
     |true=>
      obtain ⟨a,ha,h1⟩:=bB h0;obtain ⟨b,hb,hk⟩:=b7 h1;obtain ⟨k1,k2,k3,k4,k5⟩:=Qw (dd hE q) ha;unfold II at hb;cases sC:mL a l with
      |false=>rw [sC] at hb;cases hb
      |true=>
       rw [sC] at hb;injection hb with hb;subst hb;obtain ⟨r,hr⟩:=Ab k4 k5 (B5 k5 (Ac sC)) 0;have hf:=Bi k4 k5 l 0 r hr;refine ⟨_,_,?_,Good.Qm hS (b:= .set (KR l a)) (q:= .map ((KR l a).map zZ)) (rd:=[]) bK trivial rfl,hk⟩;show BP ps z n (m.ev pe) (q.ev pe) (x.ev pe)=_;rw [show m.ev pe=_ from hx,k1,show x.ev pe= .bool agK from hv];have p2:(PV.bool agK).bW=agy [.bool agK]:=rfl;simp only [BP,hS.afo bK,k2,hz,adW,ad7,if_true,k3,p2,hr];cases r with
       |none=>simp only at hf;simp [KR,hf,zZ]
       |some j=>
        obtain ⟨_,h2,h3⟩:=hf;have h5:l[j]? =agy a:=by simpa using h3
        have:(l.map zZ).set j (ry a,.bool agK)=l.map zZ:=by
         apply aeS;intro i;rw [M2];split
         · rename_i kH
           subst kH;have cY:=(ww.1 h5).1;have h6:l[j]=a:=(ww.1 h5).2;simp [cY,h6,zZ]
         rfl
        simp [KR,h2,this]
    |_=>cases h0
   |bF p l=>
    obtain ⟨hz,h0⟩:=qu h;unfold P' at h0;cases n with
    |some _=>cases h0
    |none=>
     have hq:=dd hE q;generalize bE e q=u at h0 hq;cases u with
     |int d a=>
      cases d with
      |i64=>
       obtain ⟨xv,hxv,hk⟩:=bB h0;have Qy:=PT.afr (dd hE x) hxv;refine ⟨_,_,?_,Good.Qm hS (b:= .bF p (p.put l a xv)) (q:= .map ((p.put l a xv).map (Cu p))) (rd:=[]) bK trivial rfl,hk⟩;show BP ps z agB (m.ev pe) (q.ev pe) (x.ev pe)=_;rw [show m.ev pe=_ from hx,show q.ev pe=_ from hq,Qy];have p1:(PV.int .i64 a).bW=agy [.int .i64 a]:=rfl;rcases DX p a l with ⟨j,x,h1,_,_,h3⟩|⟨h1,_,h3⟩
       · simp only [BP,hS.TA bK,iP,hz,adW,ad7,if_true,p1,PT.IW,h1,h3,aeK,Cu]
       simp only [BP,hS.TA bK,iP,hz,adW,ad7,if_true,p1,PT.IW,h1,h3,adG,ad6,aeT,Cu]
      |_=>cases h0
     |_=>cases h0
   |_=>cases h
 |_=>cases h
theorem yi.fr' {s s':List SB} {bad:List Nat} {t e:Nat} (h:yi s t e) (hf:Fr bad s s'):yi s' t e:=by
 rcases h with ⟨r,l,h1,h2⟩|h1|⟨cs,h1,h2⟩
 · rcases hf t _ h1 with ⟨l',k1,_,_⟩|k1
   · exact .inl ⟨r,l',k1,h2⟩
   exact .inr (.inl k1)
 · exact .inr (.inl (hf t _ h1))
 rcases hf t _ h1 with ⟨c2,k1⟩|k1
 · exact .inr (.inr ⟨c2,k1,h2⟩)
 exact .inr (.inl k1)
theorem yV {α:Type} {l r:List α} (h:cz l=agy r):r=l/\ags l<=1048576:=by
 unfold cz at h;split at h
 · injection h with h;exact ⟨h.symm,by assumption⟩
 cases h
theorem wB {α:Type} {l m r:List α} (h:bL l m=agy r):r=l++m/\ags l+ags m<=1048576:=by
 unfold bL at h;split at h
 · injection h with h;exact ⟨h.symm,by assumption⟩
 cases h
theorem rQ: ∀(m l:List Row) (n:Nat),n+ags m<=ags l->jS n m l=fV l n m
 | [],l,n,h=>by simp [jS,fV]
 |a::m,l,n,h=>by
  simp only [ad2] at h;rw [jS,rQ m (l.set n a) (n+1) (by simp;omega)];unfold fV;rw [List.take_set,List.drop_set];have hn:n<(ags l):=by omega
  have h1: ¬(n+1+ags m<=n):=by omega
  rw [rc (by omega)];have:(l.take (n+1)).set n a=l.take n++[a]:=by rw [List.take_succ_eq_append_getElem hn,List.set_append_right _ _ (by simp;omega)];simp [aez (aeR hn)]
  rw [this];simp only [ad3,aew,List.nil_append,ad2];rw [show n+1+ags m=n+(ags m+1) by omega]
theorem DY {α β:Type} (f:α->β) (l m:List α) (n:Nat):(fV l n m).map f=fV (l.map f) n (m.map f):=by simp [fV,adu,ae6]
theorem Ad {α:Type} (l m:List α) (n:Nat) (h:n+ags m<=ags l):(fV l n m).length=(ags l):=by simp [fV];omega
theorem K8 (hE:dw s e pe) (hS:bX s ps) {esz:Nat} {x yy:eL} (h:kX e s z (.append esz x yy) k ρ w=agy y):fU s ps (bq pe ps z (.append esz x yy)) k ρ w y:=by
 simp only [kX] at h;have hx:=dd hE x;have PN:=dd hE yy;unfold Mr at h;generalize bE e yy=vy at h PN;cases hc:yg s vy with
 |none=>rw [hc] at h;cases h
 |some cc=>
  obtain ⟨q,m⟩:=cc;rw [hc] at h;dsimp only at h;obtain ⟨he,h⟩:=cb h;have he:=ut he;obtain ⟨xY,zp⟩:=MB hS PN hc;rw [he] at xY;have uu:bq pe ps z (.append esz x yy)=hJ ps z esz (x.ev pe) (yy.ev pe):=rfl;generalize bE e x=v at h hx;cases v with
  |nil e' c=>
   dsimp only at h;obtain ⟨Fx,h⟩:=cb h;obtain ⟨m',zq,hk⟩:=b7 h;obtain ⟨rfl,jZ⟩:=yV zq;refine ⟨_,_,?_,Good.new hS (b:= .arr q m') (q:= .arr esz (m'.map (RT.pv q))) (v:= .own (ags s) agO) (p:= .own (ags s) esz 0 (ags m') (ags m') agO) (rd:=ud vy) (by rw [<- he];rfl) ⟨esz,ags m',rfl,.inl ⟨q,m',k9,he.symm,rfl⟩⟩,hk⟩;rw [uu];have ajb:c=agK:=Fx;subst ajb;rw [show x.ev pe= .sl e' agK [] from hx];unfold hJ;rw [xY];cases m' with
   |nil=>simp [hS.len,zp]
   |cons a m'=>
    have h2:NE ((a::m').length) kI=agK:=by simp [kI] at jZ ⊢;omega
    simp only [ad2] at h2;simp [hS.len,zp,h2]
  |own t ex=>
   dsimp only at h;simp only [bM] at h;generalize bK:s[t]? =b at h;cases b with
   |none=>cases h
   |some b=>
    cases b with
    |arr r l=>
     dsimp only at h;cases Qz:qH q r m with
     |none=>rw [Qz] at h;cases h
     |some m2=>
      rw [Qz] at h;dsimp only at h;obtain ⟨rfl,hmp,xS⟩:=zY Qz;obtain ⟨e',n',hx,cC⟩:=hx;obtain ⟨rfl,rfl⟩:=cC.inv bK;rw [<- hmp] at xY;have Fi:=hS.arr bK;cases ex with
      |true=>
       dsimp only at h;rcases ew h with ⟨hl,h⟩|⟨hl,h⟩
       · obtain ⟨m',zq,hk⟩:=b7 h
         obtain ⟨rfl,jZ⟩:=yV zq;have hl:l=[]:=by simpa using hl
         subst hl;refine ⟨_,_,?_,Good.new hS (b:= .arr q m') (q:= .arr (ags q) (m'.map (RT.pv q))) (v:= .own (ags s) agO) (p:= .own (ags s) (ags q) 0 (ags m') (ags m') agO) (rd:=t::ud vy) rfl ⟨ags q,ags m',rfl,.inl ⟨q,m',k9,rfl,rfl⟩⟩,hk⟩;rw [uu,hx];unfold hJ;rw [xY];subst he;cases m' with
         |nil=>simp [hS.len,zp]
         |cons a m'=>
          have h2:NE ((a::m').length) kI=agK:=by simp [kI] at jZ ⊢;omega
          simp only [ad2] at h2;simp [hS.len,zp,h2,Fi]
       have hl:l≠[]:=by intro e;subst e;cases hl
       have HM:(ags l)≠0:=by intro e;exact hl (aeb.1 e)
       have hb0:PP (ags l) 0=agO:=by
        cases hb:PP (ags l) 0 with
        |false=>rfl
        |true=>exact absurd (ut hb) HM
       rcases ew h with ⟨hm,h⟩|⟨hm,h⟩
       · have hm:m2=[]:=by simpa using hm
         subst hm;refine fU.rd hS h ?_ ⟨_,_,rfl,cC⟩;rw [uu,hx];unfold hJ;rw [xY];simp [hb0,zp]
       obtain ⟨l',jU,hk⟩:=b7 h
       obtain ⟨rfl,jZ⟩:=wB jU;refine ⟨_,_,?_,Good.new hS (b:= .arr q (l++m2)) (q:= .arr (ags q) ((l++m2).map (RT.pv q))) (v:= .own (ags s) agO) (p:= .own (ags s) (ags q) 0 (l++m2).length (l++m2).length agO) (rd:=t::ud vy) rfl ⟨ags q,(l++m2).length,rfl,.inl ⟨q,l++m2,k9,rfl,rfl⟩⟩,hk⟩;rw [uu,hx];unfold hJ;rw [xY];subst he;cases m2 with
       |nil=>cases hm
       |cons a m2=>
        have h2:NE (ags l+(a::m2).length) kI=agK:=by simp [kI] at jZ ⊢;omega
        have h3:NE (ags l+(ags m2+1)) (ags l)=agO:=by
         cases hb:NE (ags l+(ags m2+1)) (ags l) with
         |false=>rfl
         |true=>have:=ac6 hb;omega
        simp only [ad2] at h2;simp [hS.len,zp,h2,h3,Fi,adz]
      |false=>
       dsimp only at h;rcases ew h with ⟨hm,h⟩|⟨hm,h⟩
       · have hm:m2=[]:=by simpa using hm
         subst hm;refine fU.rd hS h ?_ ⟨_,_,rfl,cC⟩;rw [uu,hx];unfold hJ;rw [xY];simp [zp]
       obtain ⟨hz,h⟩:=qu h
       obtain ⟨l',jU,hk⟩:=b7 h;obtain ⟨rfl,jZ⟩:=wB jU;have bU:(AO [t] (s.set t .dead)).length=(ags s):=by rw [uj];simp
       refine ⟨_,_,?_,Good.put hS (b:= .dead) (q:= .dead) (l:=[.arr q (l++m2)]) (ql:=[.arr (ags q) ((l++m2).map (RT.pv q))]) (v:= .own (ags s) agO) (p:= .own (ags s) (ags q) 0 (l++m2).length (l++m2).length agO) (rd:=ud vy) bK (.inr rfl) rfl rfl
        (fun j b hj=>by
         cases j with
         |zero=>simp at hj;subst hj;exact ⟨_,rfl,rfl⟩
         |succ j=>simp at hj)
        ⟨ags q,(l++m2).length,rfl,.inl ⟨q,l++m2,by rw [<- bU];exact k9,rfl,rfl⟩⟩,hk⟩
       rw [uu,hx];unfold hJ;rw [xY];subst he;cases m2 with
       |nil=>cases hm
       |cons a m2=>
        have h2:NE (ags l+(a::m2).length) kI=agK:=by simp [kI] at jZ ⊢;omega
        have h3:NE (ags l+(ags m2+1)) (ags l)=agO:=by
         cases hb:NE (ags l+(ags m2+1)) (ags l) with
         |false=>rfl
         |true=>have:=ac6 hb;omega
        simp only [ad2] at h2;simp [hS.len,zp,h2,h3,Fi,hz,adz]
    |_=>cases h
  |pre t len cap ex=>
   dsimp only at h;simp only [bM] at h;generalize bK:s[t]? =b at h;cases b with
   |none=>cases h
   |some b=>
    cases b with
    |arr r l=>
     dsimp only at h;cases Qz:qH q r m with
     |none=>rw [Qz] at h;cases h
     |some m2=>
      rw [Qz] at h;dsimp only at h;obtain ⟨rfl,hmp,xS⟩:=zY Qz;obtain ⟨e',hx,cC⟩:=hx;have:=cC.inv bK;subst this;rw [<- hmp] at xY;have Fi:=hS.arr bK;obtain ⟨hex,h⟩:=qu h;subst hex;rcases ew h with ⟨hm,h⟩|⟨hm,h⟩
      · have hm:m2=[]:=by simpa using hm
        subst hm;refine fU.rd hS h ?_ ⟨_,rfl,cC⟩;rw [uu,hx];unfold hJ;rw [xY];simp [zp]
      rcases ew h with ⟨c1,h⟩|⟨c1,h⟩
      · obtain ⟨E5,hk⟩:=gE h
        simp only [v6,ad1] at E5;obtain ⟨c2,c3⟩:=E5;have c2':=ac6 c2;refine ⟨_,_,?_,Good.put hS (b:= .arr q (fV l len m2)) (q:= .arr (ags q) ((fV l len m2).map (RT.pv q))) (l:=[]) (ql:=[]) (v:= .pre t (len+ags m2) cap agO) (p:= .own t (ags q) 0 (len+ags m2) cap agO) (rd:=ud vy) bK (.inl ⟨_,rfl,Ad _ _ _ c2'⟩) rfl rfl
         (fun j b hj=>by simp at hj) ⟨ags q,rfl,?_⟩,hk⟩
        · rw [uu,hx]
          unfold hJ;rw [xY];subst he;have jt:jS (0+len) (m2.map (RT.pv q)) (l.map (RT.pv q))=(fV l len m2).map (RT.pv q):=by rw [rQ _ _ _ (by simp;omega),DY,aec]
          cases m2 with
          |nil=>cases hm
          |cons a m2=>simp only [ad2] at c1;simp only [ad6] at jt ⊢;simp only [Fi,ad8,aeG,UV,if_false,ad2,ad5,c1,if_true,c3,jt,zp]
        have:=yi.fr' (s:=s) (s':=AO [t] (s.set t (.arr q (fV l len m2)))++[]) cC ((Fr.dg (ts:=[t]) (Fr.set bK (.inl ⟨_,rfl,Ad _ _ _ c2'⟩))).trans (Fr.app [t] _ []))
        exact this
      obtain ⟨hz0,h⟩:=qu h
      have hz:has z t=agO:=by
       cases hh:has z t with
       |false=>rfl
       |true=>rw [hh] at hz0;cases hz0
      obtain ⟨l',jU,h⟩:=b7 h;obtain ⟨yD,hk⟩:=gE h;obtain ⟨ajc,jZ⟩:=wB jU;subst ajc;have aoB:=ac6 yD;have NO:(l.take len).length=len:=by rw [ads];omega
      rw [NO] at jZ;have bU:(AO [t] (s.set t .dead)).length=(ags s):=by rw [uj];simp
      have hal:(l.take len++m2).length=len+(ags m2):=by rw [aen,NO]
      refine ⟨_,_,?_,Good.put hS (b:= .dead) (q:= .dead) (l:=[.arr q (l.take len++m2)]) (ql:=[.arr (ags q) ((l.take len++m2).map (RT.pv q))]) (v:= .own (ags s) agO) (p:= .own (ags s) (ags q) 0 (l.take len++m2).length (l.take len++m2).length agO) (rd:=ud vy) bK (.inr rfl) rfl rfl
       (fun j b hj=>by
        cases j with
        |zero=>simp at hj;subst hj;exact ⟨_,rfl,rfl⟩
        |succ j=>simp at hj)
       ⟨ags q,(l.take len++m2).length,rfl,.inl ⟨q,l.take len++m2,by rw [<- bU];exact k9,rfl,rfl⟩⟩,hk⟩
      rw [uu,hx];unfold hJ;rw [xY];subst he;cases m2 with
      |nil=>cases hm
      |cons a m2=>
       have h2:NE (len+(ags m2+1)) kI=agK:=by simp [kI] at jZ ⊢;omega
       simp only [ad2] at c1 hal;simp only [ad6,ad2,ad5,Fi,ad8,aeG,UV,if_false,c1,h2,hz,hS.len,zp,hal,adB,adG,adu]
    |_=>cases h
  |_=>cases h
end
end Go.Vm
/- Operation by operation: all of them. -/
namespace Go.Vm
section
variable {R' ρ : Type} {w : R' -> ρ} {y : ρ} {s : List SB} {ps : bS} {e : SE} {pe : Env} {z : List Nat} {k : fh -> fE R'}
theorem Ob (hE:dw s e pe) (hS:bX s ps) {esz:Nat} {zero:Row} {x:eL} (h:kX e s z (.clear esz zero x) k ρ w=agy y):fU s ps (bq pe ps z (.clear esz zero x)) k ρ w y:=by
 simp only [kX] at h;have hx:=dd hE x;unfold P8 at h;generalize bE e x=v at h hx;cases v with
 |part t off len cap ex=>
  simp only [bM] at h;generalize bK:s[t]? =b at h;cases b with
  |none=>cases h
  |some b=>
   cases b with
   |arr r l=>
    dsimp only at h;cases hq:DG zero with
    |none=>rw [hq] at h;cases h
    |some q=>
     rw [hq] at h;dsimp only at h;obtain ⟨hc,h1⟩:=cb h;simp only [v6] at hc;obtain ⟨XP,he⟩:=hc;have XP:=th XP;have he:=ut he;obtain ⟨e',hx,cC⟩:=hx;have:=cC.inv bK;subst this;subst XP;subst he;rcases ew h1 with ⟨hl,hk⟩|⟨hl,hk⟩
     · have hl:=ut hl
       subst hl;exact fU.val hS hk (by simp only [bq,hx]) rfl
     obtain ⟨E5,hk⟩:=gE hk
     simp only [v6,ad1] at E5;obtain ⟨c1,c2⟩:=E5;have c1':=ac6 c1;have bU:=Ad l (adc len (RT.zero q)) off (by simpa using c1');refine ⟨_,_,?_,Good.Qm hS (b:= .arr q (fV l off (adc len (RT.zero q)))) (q:= .arr (ags q) ((fV l off (adc len (RT.zero q))).map (RT.pv q))) (rd:=[]) bK (.inl ⟨_,rfl,bU⟩) rfl,hk⟩;cases len with
     |zero=>cases hl
     |succ len=>
      have jt:jS off (adc (len+1) zero) (l.map (RT.pv q))=(fV l off (adc (len+1) (RT.zero q))).map (RT.pv q):=by rw [DY,rQ _ _ _ (by simpa using c1')];simp [Aa hq]
      simp only [bq,hx,hS.arr bK,ad8,c2,adW,ad7,if_true,jt]
   |_=>cases h
 |_=>cases h
theorem yW (hS:bX s ps) {t off len cap:Nat} {ex:Bool} {r:List PT} {l:List (RT r)} {x yy:eL} {vy:SV} (bK:s[t]? =agy (.arr r l)) (hx:x.ev pe= .own t (ags r) off len cap ex) (PN:R s vy (yy.ev pe))
 (h:DH s z t r l off len vy k ρ w=agy y):fU s ps (bq pe ps z (.copy (ags r) x yy)) k ρ w y:=by
 unfold DH at h;cases hc:yg s vy with
 |none=>rw [hc] at h;cases h
 |some cc=>
  obtain ⟨q,m⟩:=cc;rw [hc] at h;dsimp only at h;cases Qz:qH q r m with
  |none=>rw [Qz] at h;cases h
  |some m2=>
   rw [Qz] at h;dsimp only at h;obtain ⟨XP,hmp,xS⟩:=zY Qz;subst XP;obtain ⟨xY,zp⟩:=MB hS PN hc;rw [<- hmp] at xY;have DZ:(m2.map (RT.pv q)).take len=(m2.take len).map (RT.pv q):=by rw [adu]
   generalize m2.take len=mm at h DZ;rcases ew h with ⟨hm,hk⟩|⟨hm,hk⟩
   · have hm:mm=[]:=by simpa using hm
     subst hm;refine fU.rd hS hk ?_ rfl;simp only [bq,xY,hx,DZ,aeT,zp]
   obtain ⟨E5,hk⟩:=gE hk
   simp only [v6,ad1] at E5;obtain ⟨c1,c2⟩:=E5;have c1':=ac6 c1;have bU:=Ad l mm off c1';refine ⟨_,_,?_,Good.put hS (b:= .arr q (fV l off mm)) (q:= .arr (ags q) ((fV l off mm).map (RT.pv q))) (l:=[]) (ql:=[]) (v:= .int .i64 (.ofNat (ags mm))) (p:= .int .i64 (.ofNat (ags mm))) (rd:=ud vy) bK (.inl ⟨_,rfl,bU⟩) rfl rfl (fun j b hj=>by simp at hj) rfl,hk⟩;have jt:jS off (mm.map (RT.pv q)) (l.map (RT.pv q))=(fV l off mm).map (RT.pv q):=by rw [DY,rQ _ _ _ (by simpa using c1')]
   cases mm with
   |nil=>cases hm
   |cons a mm=>simp only [ad6] at jt DZ;simp only [bq,xY,hx,DZ,hS.arr bK,ad8,c2,adW,ad7,if_true,jt,zp,ad5,ad2]
theorem QA (hE:dw s e pe) (hS:bX s ps) {esz:Nat} {x yy:eL} (h:kX e s z (.copy esz x yy) k ρ w=agy y):fU s ps (bq pe ps z (.copy esz x yy)) k ρ w y:=by
 simp only [kX] at h;have hx:=dd hE x;have PN:=dd hE yy;unfold XK at h;generalize bE e yy=vy at h PN;generalize bE e x=v at h hx;cases v with
 |own t ex=>
  simp only [bM] at h;generalize bK:s[t]? =b at h;cases b with
  |none=>cases h
  |some b=>
   cases b with
   |arr r l=>obtain ⟨he,hk⟩:=cb h;have he:=ut he;subst he;obtain ⟨e',n',hx,cC⟩:=hx;obtain ⟨rfl,rfl⟩:=cC.inv bK;exact yW hS bK hx PN hk
   |_=>cases h
 |pre t len cap ex=>
  simp only [bM] at h;generalize bK:s[t]? =b at h;cases b with
  |none=>cases h
  |some b=>
   cases b with
   |arr r l=>obtain ⟨he,hk⟩:=cb h;have he:=ut he;subst he;obtain ⟨e',hx,cC⟩:=hx;have:=cC.inv bK;subst this;exact yW hS bK hx PN hk
   |_=>cases h
 |part t off len cap ex=>
  simp only [bM] at h;generalize bK:s[t]? =b at h;cases b with
  |none=>cases h
  |some b=>
   cases b with
   |arr r l=>obtain ⟨he,hk⟩:=cb h;have he:=ut he;subst he;obtain ⟨e',hx,cC⟩:=hx;have:=cC.inv bK;subst this;exact yW hS bK hx PN hk
   |_=>cases h
 |_=>cases h
theorem Oc (hE:dw s e pe) (hS:bX s ps) {x1 x2:eL} (h:kX e s z (.BM x1 x2) k ρ w=agy y):fU s ps (bq pe ps z (.BM x1 x2)) k ρ w y:=by
 simp only [kX] at h;have hx:=dd hE x1;have hy:=dd hE x2;generalize bE e x1=v at h hx;generalize bE e x2=u at h hy;cases v with
 |sl r l=>
  cases u with
  |sl q m=>have hx:x1.ev pe= .sl (ags r) agO (l.map (RT.pv r)):=hx;have hy:x2.ev pe= .sl (ags q) agO (m.map (RT.pv q)):=hy;refine ⟨_,_,?_,Good.new hS (b:= .box [.sl r l,.sl q m]) (q:= .box [.sl (ags r) agO (l.map (RT.pv r)),.sl (ags q) agO (m.map (RT.pv q))]) (v:= .part (ags s) 0 2 2 agK) (p:= .own (ags s) 1 0 2 2 agK) (rd:=[]) ⟨_,rfl,_,_,rfl,rfl,_,_,rfl,rfl,rfl⟩ ⟨1,rfl,.inr (.inr ⟨_,k9,rfl⟩)⟩,h⟩;simp only [bq,hx,hy,hS.len];rfl
  |_=>cases h
 |_=>cases h
theorem TE (hE:dw s e pe) (hS:bX s ps) {op:jL} (h:kX e s z op k ρ w=agy y):fU s ps (bq pe ps z op) k ρ w y:=by
 cases op with
 |OV x=>exact fU.val hS h rfl (dd hE x)
 |pick c a b=>exact Qs hE hS h
 |bin op a b=>exact Tq hE hS h
 |HP n a b=>exact Qn hE hS h
 |Xc n g a b=>exact Ts hE hS h
 |un op a=>exact YX hE hS h
 |conv a x=>exact Qp hE hS h
 |len x=>exact Tt hE hS h
 |Kn n=>exact fU.val hS h rfl rfl
 |box x=>exact Tv hE hS h
 |alloc c=>exact N7 hS h
 |build z p=>exact N6 hE hS h
 |zt a b c d=>exact Oa hE hS h
 |BM a b=>exact Oc hE hS h
 |load a p=>exact Qv hE hS h
 |store a p x=>exact N9 hE hS h
 |HQ x=>exact Qq hE hS h
 |HR o x=>exact Qr hE hS h
 |iq a o x=>exact Tw hE hS h
 |HS a x i=>exact Qt hE hS h
 |BN n a x i=>exact N8 hE hS h
 |idx n a g x i=>exact TB hE hS h
 |HT x i=>exact Qu hE hS h
 |Nk a x l h' m=>exact TC hE hS h
 |Xd a z l c=>exact TD hE hS h
 |Xe f a b=>exact Ty hE hS h
 |Xf m=>exact Tz hS h
 |lookup n z o m q=>exact K7 hE hS h
 |Gt n m q x=>exact Qx hE hS h
 |ext i x=>exact Tx hE hS h
 |append a x b=>exact K8 hE hS h
 |copy a x b=>exact QA hE hS h
 |clear a z x=>exact Ob hE hS h
 |mm m x xs=>exact YY hE hS h
 |call m f a=>cases h
 |u4 x a=>cases h
 |bad=>cases h
mutual
theorem afu {bx:Nat->Option (List SV)} {QB:Nat->Option (List PV)} (hS:bX s ps) (hb: ∀t l,bx t=agy l-> ∃q,QB t=agy q/\oz l=agy q): ∀{v u:SV} {p:PV},R s v p->FL s bx v=agy u-> ∃q,AR ps QB p=agy q/\qc u=agy q
 | .int k n,u,p,h,hx=>by injection hx with hx;subst hx;rw [show p=_ from h];exact ⟨_,rfl,rfl⟩
 | .bool b,u,p,h,hx=>by injection hx with hx;subst hx;rw [show p=_ from h];exact ⟨_,rfl,rfl⟩
 | .str x,u,p,h,hx=>by injection hx with hx;subst hx;rw [show p=_ from h];exact ⟨_,rfl,rfl⟩
 | .dv,u,p,h,hx=>by injection hx with hx;subst hx;rw [show p=_ from h];exact ⟨_,rfl,rfl⟩
 | .agg cs,u,p,h,hx=>by
  obtain ⟨q,rfl,h⟩:=h;simp only [FL] at hx;split at hx
  · rename_i l hl
    injection hx with hx;subst hx;obtain ⟨q',h1,h2⟩:=sF hS hb h hl;exact ⟨.agg q',by simp only [AR,h1];rfl,by simp only [qc,h2]⟩
  cases hx
 | .bT cs,u,p,h,hx=>by
  obtain ⟨q,rfl,h⟩:=h;simp only [FL] at hx;split at hx
  · rename_i l hl
    injection hx with hx;subst hx;obtain ⟨q',h1,h2⟩:=sF hS hb h hl;exact ⟨.bT q',by simp only [AR,h1];rfl,by simp only [qc,h2]⟩
  cases hx
 | .sl r l,u,p,h,hx=>by injection hx with hx;subst hx;rw [show p=_ from h];exact ⟨_,rfl,rfl⟩
 | .nil e c,u,p,h,hx=>by injection hx with hx;subst hx;rw [show p=_ from h];exact ⟨_,rfl,rfl⟩
 | .own t ex,u,p,h,hx=>by
  simp only [FL,bM] at hx;split at hx
  · rename_i r l bK
    injection hx with hx;subst hx;obtain ⟨e,n,rfl,cC⟩:=h;obtain ⟨rfl,rfl⟩:=cC.inv bK;refine ⟨.sl (ags r) agO (l.map (RT.pv r)),?_,rfl⟩;simp only [AR,hS.arr bK,adB];rw [adz (by simp)]
  cases hx
 | .pre t len cap ex,u,p,h,hx=>by
  simp only [FL,bM] at hx;split at hx
  · rename_i r l bK
    injection hx with hx;subst hx;obtain ⟨e,rfl,cC⟩:=h;have:=cC.inv bK;subst this;refine ⟨.sl (ags r) agO ((l.take len).map (RT.pv r)),?_,rfl⟩;simp only [AR,hS.arr bK,adB,adu]
  cases hx
 | .part t off len cap ex,u,p,h,hx=>by
  simp only [FL,bM] at hx;split at hx
  · rename_i r l bK
    injection hx with hx;subst hx;obtain ⟨e,rfl,cC⟩:=h;have:=cC.inv bK;subst this;refine ⟨.sl (ags r) agO (((l.drop off).take len).map (RT.pv r)),?_,rfl⟩;simp only [AR,hS.arr bK,adu,ae6]
  cases hx
 | .pa t r i a off,u,p,h,hx=>by
  simp only [FL,bM] at hx;split at hx
  · rename_i q l bK
    injection hx with hx;subst hx;obtain ⟨rfl,cC⟩:=h;obtain ⟨rfl,hg⟩:=cC.inv bK;obtain ⟨m,rfl,hm⟩:=lY hg;refine ⟨.bw (RT.pv r a) off,?_,by simp only [qc,RT.FO]⟩;have zq:(l.map (RT.pv r))[m]? =agy (RT.pv r a):=by simp [hm]
    have e1:(adV m).toNat=m:=rfl;simp only [AR,hS.arr bK,e1,zq];rfl
  cases hx
 | .bp t n off,u,p,h,hx=>by
  simp only [FL,bM] at hx;split at hx
  · rename_i cs bK
    split at hx
    · rename_i l hl
      injection hx with hx;subst hx;rw [show p=_ from h];obtain ⟨q,h1,h2⟩:=hb t l hl;obtain ⟨c,h3,_⟩:=hS.box bK;refine ⟨.bw q off,?_,by simp only [qc,h2]⟩;simp only [AR,h3,ad8,if_true,h1];rfl
    cases hx
  cases hx
 | .bw cs off,u,p,h,hx=>by
  obtain ⟨q,rfl,h⟩:=h;simp only [FL] at hx;split at hx
  · rename_i l hl
    injection hx with hx;subst hx;obtain ⟨q',h1,h2⟩:=sF hS hb h hl;exact ⟨.bw q' off,by simp only [AR,h1];rfl,by simp only [qc,h2]⟩
  cases hx
 | .ed f a b,u,p,h,hx=>by
  obtain ⟨pa,pb,rfl,h1,h2⟩:=h;simp only [FL] at hx;split at hx
  · rename_i x y' h3 h4
    injection hx with hx;subst hx;obtain ⟨qa,h5,h6⟩:=sF hS hb h1 h3;obtain ⟨qb,h7,h8⟩:=sF hS hb h2 h4;exact ⟨.ed f qa qb,by simp only [AR,h5,h7],by simp only [qc,h6,h8]⟩
  cases hx
 | .ga,_,_,_,hx| .undef,_,_,_,hx| .iI,_,_,_,hx| .pb _ _ _,_,_,_,hx| .mp _,_,_,_,hx=>by cases hx
theorem sF {bx:Nat->Option (List SV)} {QB:Nat->Option (List PV)} (hS:bX s ps) (hb: ∀t l,bx t=agy l-> ∃q,QB t=agy q/\oz l=agy q): ∀{v u:List SV} {p:List PV},RL s v p->qI s bx v=agy u-> ∃q,AL ps QB p=agy q/\oz u=agy q
 | [],u,p,h,hx=>by injection hx with hx;subst hx;rw [show p=_ from h];exact ⟨_,rfl,rfl⟩
 |x::xs,u,p,h,hx=>by
  obtain ⟨q,qs,rfl,h1,h2⟩:=h.cons_inv;simp only [qI] at hx;split at hx
  · rename_i y' ys h3 h4
    injection hx with hx;subst hx;obtain ⟨a,h5,h6⟩:=afu hS hb h1 h3;obtain ⟨as,h7,h8⟩:=sF hS hb h2 h4;exact ⟨a::as,by simp only [AL,h5,h7],dR.2 ⟨a,as,rfl,h6,h8⟩⟩
  cases hx
end
theorem CP (hS:bX s ps): ∀(n t:Nat) (l:List SV),jA s n t=agy l-> ∃q,vt ps n t=agy q/\oz l=agy q
 |0,t,l,h=>by cases h
 |n+1,t,l,h=>by
  simp only [jA,bM] at h;split at h
  · rename_i cs bK
    obtain ⟨q,h1,h2⟩:=hS.box bK;obtain ⟨u,h3,h4⟩:=sF hS (CP hS n) h2 h;exact ⟨u,by simp only [vt,h1,h3],h4⟩
  cases h
mutual
theorem QC {bx QB:Nat->List Nat} (hb: ∀t,bx t=QB t): ∀{v:SV} {p:PV},R s v p->v.sure=agK->KV bx v=iu QB p
 | .ga,_,_,h=>by cases h
 | .undef,p,h,_| .iI,p,h,_| .dv,p,h,_| .int _ _,p,h,_| .bool _,p,h,_| .str _,p,h,_| .sl _ _,p,h,_| .nil _ _,p,h,_=>by rw [show p=_ from h];rfl
 | .agg cs,p,h,hs=>by obtain ⟨q,rfl,h⟩:=h;exact yX hb h hs
 | .bT cs,p,h,hs=>by obtain ⟨q,rfl,h⟩:=h;exact yX hb h hs
 | .own t ex,p,h,_=>by obtain ⟨e,n,rfl,_⟩:=h;rfl
 | .pre t a b c,p,h,_=>by obtain ⟨e,rfl,_⟩:=h;rfl
 | .part t o a b c,p,h,_=>by obtain ⟨e,rfl,_⟩:=h;rfl
 | .pa t r i a o,p,h,_=>by obtain ⟨rfl,_⟩:=h;simp only [KV,iu,hb]
 | .pb t i o,p,h,_=>by obtain ⟨e,rfl,_⟩:=h;simp only [KV,iu,hb]
 | .bp t n o,p,h,_=>by rw [show p=_ from h];simp only [KV,iu,hb]
 | .bw cs o,p,h,hs=>by obtain ⟨q,rfl,h⟩:=h;exact yX hb h hs
 | .mp t,p,h,_=>by rw [show p=_ from h];rfl
 | .ed f a b,p,h,hs=>by obtain ⟨pa,pb,rfl,h1,h2⟩:=h;simp only [SV.sure,v6] at hs;simp only [KV,iu,yX hb h1 hs.1,yX hb h2 hs.2]
theorem yX {bx QB:Nat->List Nat} (hb: ∀t,bx t=QB t): ∀{v:List SV} {p:List PV},RL s v p->kU v=agK->p7 bx v=cQ QB p
 | [],p,h,_=>by rw [show p=_ from h];rfl
 |x::xs,p,h,hs=>by obtain ⟨q,qs,rfl,h1,h2⟩:=h.cons_inv;simp only [kU,v6] at hs;simp only [p7,cQ,QC hb h1 hs.1,yX hb h2 hs.2]
end
end
end Go.Vm
/- The head of a loop: what the typed machine keeps there, the logical machine keeps there. -/
namespace Go.Vm
section
variable {s : List SB} {ps : bS}
mutual
theorem afv {n:Nat} (hS:bX s ps) (hB: ∀t l,jA s n t=agy l->vz s n t=cD ps n t): ∀{v u:SV} {p:PV},R s v p->FL s (jA s n) v=agy u->KV (vz s n) v=iu (cD ps n) p
 | .int _ _,_,p,h,_| .bool _,_,p,h,_| .str _,_,p,h,_| .dv,_,p,h,_| .sl _ _,_,p,h,_| .nil _ _,_,p,h,_=>by rw [show p=_ from h];rfl
 | .agg cs,u,p,h,hx=>by
  obtain ⟨q,rfl,h⟩:=h;simp only [FL] at hx;split at hx
  · rename_i l hl;exact yj hS hB h hl
  cases hx
 | .bT cs,u,p,h,hx=>by
  obtain ⟨q,rfl,h⟩:=h;simp only [FL] at hx;split at hx
  · rename_i l hl;exact yj hS hB h hl
  cases hx
 | .own t ex,_,p,h,_=>by obtain ⟨e,n,rfl,_⟩:=h;rfl
 | .pre t a b c,_,p,h,_=>by obtain ⟨e,rfl,_⟩:=h;rfl
 | .part t o a b c,_,p,h,_=>by obtain ⟨e,rfl,_⟩:=h;rfl
 | .pa t r i a o,_,p,h,hx=>by
  obtain ⟨rfl,cC⟩:=h;simp only [FL,bM] at hx;split at hx
  · rename_i q l bK
    simp only [KV,iu];cases n with
    |zero=>rfl
    |succ n=>simp only [vz,cD,bM,bK,hS.arr bK]
  cases hx
 | .bp t m o,u,p,h,hx=>by
  rw [show p=_ from h];simp only [FL,bM] at hx;split at hx
  · split at hx
    · rename_i l hl
      simp only [KV,iu,hB t l hl]
    cases hx
  cases hx
 | .bw cs o,u,p,h,hx=>by
  obtain ⟨q,rfl,h⟩:=h;simp only [FL] at hx;split at hx
  · rename_i l hl;exact yj hS hB h hl
  cases hx
 | .ed f a b,u,p,h,hx=>by
  obtain ⟨pa,pb,rfl,h1,h2⟩:=h;simp only [FL] at hx;split at hx
  · rename_i x y h3 h4
    simp only [KV,iu,yj hS hB h1 h3,yj hS hB h2 h4]
  cases hx
 | .ga,_,_,_,hx| .undef,_,_,_,hx| .iI,_,_,_,hx| .pb _ _ _,_,_,_,hx| .mp _,_,_,_,hx=>by cases hx
theorem yj {n:Nat} (hS:bX s ps) (hB: ∀t l,jA s n t=agy l->vz s n t=cD ps n t): ∀{v u:List SV} {p:List PV},RL s v p->qI s (jA s n) v=agy u->p7 (vz s n) v=cQ (cD ps n) p
 | [],_,p,h,_=>by rw [show p=_ from h];rfl
 |x::xs,u,p,h,hx=>by
  obtain ⟨q,qs,rfl,h1,h2⟩:=h.cons_inv;simp only [qI] at hx;split at hx
  · rename_i a b h3 h4
    simp only [p7,cQ,afv hS hB h1 h3,yj hS hB h2 h4]
  cases hx
end
theorem QD {n:Nat} (hS:bX s ps) (hB: ∀t l,jA s n t=agy l->vz s n t=cD ps n t): ∀{v:List SV} {p:List PV},RL s v p->KU s (jA s n) v=agK->p7 (vz s n) v=cQ (cD ps n) p
 | [],p,h,_=>by rw [show p=[] from h];rfl
 |x::xs,p,h,hx=>by
  obtain ⟨a,as,rfl,h1,h2⟩:=h.cons_inv;have other: ∀u,FL s (jA s n) x=agy u->KU s (jA s n) xs=agK->p7 (vz s n) (x::xs)=cQ (cD ps n) (a::as):=fun u h3 h4=>by simp only [p7,cQ,afv hS hB h1 h3,QD hS hB h2 h4]
  unfold KU at hx;split at hx
  · rename_i t
    rw [show a= .mp t from h1];simp only [p7,cQ,KV,iu,QD hS hB h2 hx]
  split at hx
  · rename_i u h3
    exact other u h3 hx
  cases hx
theorem D0 (hS:bX s ps): ∀(n t:Nat) (l:List SV),jA s n t=agy l->vz s n t=cD ps n t
 |0,t,l,h=>rfl
 |n+1,t,l,h=>by
  simp only [jA,bM] at h;split at h
  · rename_i cs bK
    obtain ⟨q,h1,h2⟩:=hS.box bK;simp only [vz,cD,bM,bK,h1];exact yj hS (D0 hS n) h2 h
  cases h
theorem G5 {b:SB} {q:jc} (h:RB s b q) (hs:xo b=agK):DI b=pU q:=by
 cases b with
 |box cs=>obtain ⟨c,rfl,h⟩:=h;exact yX (fun _=>rfl) h hs
 |arr r l=>rw [show q=_ from h];rfl
 |set l=>rw [show q=_ from h];rfl
 |bF p l=>rw [show q=_ from h];rfl
 |dead=>rw [show q=_ from h];rfl
theorem D1 (hS:bX s ps): ∀(n:Nat) (ts seen m:List Nat),Bd s n ts seen=agy m->reach ps n ts seen=agy m
 |n,[],seen,m,h=>by cases n<;>(simp only [Bd] at h;exact h)
 |0,_::_,_,_,h=>by cases h
 |n+1,t::ts,seen,m,h=>by
  simp only [Bd,bM] at h;simp only [reach];cases hh:has seen t with
  |true=>rw [hh] at h;simp only [lw] at h;simp only [if_true];exact D1 hS n ts seen m h
  |false=>
   rw [hh] at h;simp only [pp] at h;simp only [UV,if_false];split at h
   · rename_i b bK
     obtain ⟨q,h1,h2⟩:=hS.at_ t b bK;cases hb:xo b with
     |false=>rw [hb] at h;cases h
     |true=>rw [hb] at h;simp only [lw] at h;rw [h1,G5 h2 hb] at*;exact D1 hS n _ _ m h
   cases h
theorem D2: ∀{t u:Nat} {m:List Nat},idxOf t m=agy u->m[u]? =agy t
 |t,u,[],h=>by cases h
 |t,u,x::m,h=>by
  simp only [idxOf] at h;cases hb:PP x t with
  |true=>rw [hb] at h;simp at h;subst h;simp [ut hb]
  |false=>rw [hb] at h;simp only [UV,if_false,ad9] at h;obtain ⟨v,hv,rfl⟩:=h;simpa using D2 hv
def D3 (m:List Nat) (s s':List SB):Prop:= ∀(t u:Nat) (b:SB),idxOf t m=agy u->s[t]? =agy b->match b with
 | .arr r l=>s'[u]? =agy (.arr r l)
 | .dead=>s'[u]? =agy .dead
 | .box _=> ∃cs,s'[u]? =agy (.box cs)
 |_=>True
mutual
theorem QE {m:List Nat} {s':List SB} (hr:D3 m s s'): ∀{v u:SV} {p:PV},R s v p->oW m v=agy u-> ∃q,zu m p=agy q/\R s' u q
 | .ga,_,_,_,hx=>by cases hx
 | .undef,u,p,h,hx| .iI,u,p,h,hx| .dv,u,p,h,hx| .int _ _,u,p,h,hx| .bool _,u,p,h,hx| .str _,u,p,h,hx| .sl _ _,u,p,h,hx| .nil _ _,u,p,h,hx=>by injection hx with hx;subst hx;rw [show p=_ from h];exact ⟨_,rfl,rfl⟩
 | .agg cs,u,p,h,hx=>by
  obtain ⟨q,rfl,h⟩:=h;simp only [oW] at hx;split at hx
  · rename_i l hl
    injection hx with hx;subst hx;obtain ⟨q',h1,h2⟩:=rR hr h hl;exact ⟨.agg q',by simp only [zu,h1];rfl,q',rfl,h2⟩
  cases hx
 | .bT cs,u,p,h,hx=>by
  obtain ⟨q,rfl,h⟩:=h;simp only [oW] at hx;split at hx
  · rename_i l hl
    injection hx with hx;subst hx;obtain ⟨q',h1,h2⟩:=rR hr h hl;exact ⟨.bT q',by simp only [zu,h1];rfl,q',rfl,h2⟩
  cases hx
 | .own t ex,u,p,h,hx=>by
  obtain ⟨e,n,rfl,cC⟩:=h;simp only [oW] at hx;split at hx
  · rename_i v hv
    injection hx with hx;subst hx;refine ⟨.own v e 0 n n ex,by simp only [zu,hv];rfl,e,n,rfl,?_⟩;rcases cC with ⟨r,l,h1,h2,h3⟩|h1
    · exact .inl ⟨r,l,hr t v _ hv h1,h2,h3⟩
    exact .inr (hr t v _ hv h1)
  cases hx
 | .pre t len cap ex,u,p,h,hx=>by
  obtain ⟨e,rfl,cC⟩:=h;simp only [oW] at hx;split at hx
  · rename_i v hv
    injection hx with hx;subst hx;refine ⟨.own v e 0 len cap ex,by simp only [zu,hv];rfl,e,rfl,?_⟩;rcases cC with ⟨r,l,h1,h2⟩|h1|⟨cs,h1,h2⟩
    · exact .inl ⟨r,l,hr t v _ hv h1,h2⟩
    · exact .inr (.inl (hr t v _ hv h1))
    obtain ⟨c2,h3⟩:=hr t v _ hv h1
    exact .inr (.inr ⟨c2,h3,h2⟩)
  cases hx
 | .part t off len cap ex,u,p,h,hx=>by
  obtain ⟨e,rfl,cC⟩:=h;simp only [oW] at hx;split at hx
  · rename_i v hv
    injection hx with hx;subst hx;refine ⟨.own v e off len cap ex,by simp only [zu,hv];rfl,e,rfl,?_⟩;rcases cC with ⟨r,l,h1,h2⟩|h1|⟨cs,h1,h2⟩
    · exact .inl ⟨r,l,hr t v _ hv h1,h2⟩
    · exact .inr (.inl (hr t v _ hv h1))
    obtain ⟨c2,h3⟩:=hr t v _ hv h1
    exact .inr (.inr ⟨c2,h3,h2⟩)
  cases hx
 | .pa t r i a off,u,p,h,hx=>by
  obtain ⟨rfl,cC⟩:=h;simp only [oW] at hx;split at hx
  · rename_i v hv
    injection hx with hx;subst hx;refine ⟨.ptr v (ags r) i.toNat off,by simp only [zu,hv];rfl,ags r,rfl,?_⟩;rcases cC with ⟨l,h1,h2⟩|h1
    · exact .inl ⟨r,l,hr t v _ hv h1,by rw [h2];rfl⟩
    exact .inr (hr t v _ hv h1)
  cases hx
 | .pb t i off,u,p,h,hx=>by
  obtain ⟨e,rfl,cC⟩:=h;simp only [oW] at hx;split at hx
  · rename_i v hv
    injection hx with hx;subst hx;refine ⟨.ptr v e i.toNat off,by simp only [zu,hv];rfl,e,rfl,?_⟩;rcases cC with ⟨r,l,h1,h2⟩|h1
    · exact .inl ⟨r,l,hr t v _ hv h1,h2⟩
    exact .inr (hr t v _ hv h1)
  cases hx
 | .bp t n off,u,p,h,hx=>by
  rw [show p=_ from h];simp only [oW] at hx;split at hx
  · rename_i v hv
    injection hx with hx;subst hx;exact ⟨.ptr v n 0 off,by simp only [zu,hv];rfl,rfl⟩
  cases hx
 | .bw cs off,u,p,h,hx=>by
  obtain ⟨q,rfl,h⟩:=h;simp only [oW] at hx;split at hx
  · rename_i l hl
    injection hx with hx;subst hx;obtain ⟨q',h1,h2⟩:=rR hr h hl;exact ⟨.bw q' off,by simp only [zu,h1];rfl,q',rfl,h2⟩
  cases hx
 | .mp t,u,p,h,hx=>by
  rw [show p=_ from h];simp only [oW] at hx;split at hx
  · rename_i v hv
    injection hx with hx;subst hx;exact ⟨.mp v,by simp only [zu,hv];rfl,rfl⟩
  cases hx
 | .ed f a b,u,p,h,hx=>by
  obtain ⟨pa,pb,rfl,h1,h2⟩:=h;simp only [oW] at hx;split at hx
  · rename_i x y h3 h4
    injection hx with hx;subst hx;obtain ⟨qa,h5,h6⟩:=rR hr h1 h3;obtain ⟨qb,h7,h8⟩:=rR hr h2 h4;exact ⟨.ed f qa qb,by simp only [zu,h5,h7],qa,qb,rfl,h6,h8⟩
  cases hx
theorem rR {m:List Nat} {s':List SB} (hr:D3 m s s'): ∀{v u:List SV} {p:List PV},RL s v p->rN m v=agy u-> ∃q,xP m p=agy q/\RL s' u q
 | [],u,p,h,hx=>by injection hx with hx;subst hx;rw [show p=_ from h];exact ⟨_,rfl,rfl⟩
 |x::xs,u,p,h,hx=>by
  obtain ⟨q,qs,rfl,h1,h2⟩:=h.cons_inv;simp only [rN] at hx;split at hx
  · rename_i a b h3 h4
    injection hx with hx;subst hx;obtain ⟨a',h5,h6⟩:=QE hr h1 h3;obtain ⟨b',h7,h8⟩:=rR hr h2 h4;exact ⟨a'::b',by simp only [xP,h5,h7],RL.cons h6 h8⟩
  cases hx
end
theorem YZ {m:List Nat} {s':List SB} (hr:D3 m s s') {b c:SB} {q:jc} (h:RB s b q) (hx:KX m b=agy c): ∃q',mD m q=agy q'/\RB s' c q':=by
 cases b with
 |box cs=>
  obtain ⟨p,rfl,h⟩:=h;simp only [KX] at hx;split at hx
  · rename_i l hl
    injection hx with hx;subst hx;obtain ⟨q',h1,h2⟩:=rR hr h hl;exact ⟨.box q',by simp only [mD,h1];rfl,q',rfl,h2⟩
  cases hx
 |arr r l=>injection hx with hx;subst hx;rw [show q=_ from h];exact ⟨_,rfl,rfl⟩
 |set l=>injection hx with hx;subst hx;rw [show q=_ from h];exact ⟨_,rfl,rfl⟩
 |bF p l=>injection hx with hx;subst hx;rw [show q=_ from h];exact ⟨_,rfl,rfl⟩
 |dead=>injection hx with hx;subst hx;rw [show q=_ from h];exact ⟨_,rfl,rfl⟩
theorem wC {m:List Nat}: ∀{ts:List Nat} {s1:List SB},Fk s m ts=agy s1->ags s1=ags ts/\ ∀(j t:Nat),ts[j]? =agy t-> ∃b c,s[t]? =agy b/\KX m b=agy c/\s1[j]? =agy c
 | [],s1,h=>by injection h with h;subst h;exact ⟨rfl,fun j t h=>by simp at h⟩
 |t::ts,s1,h=>by
  simp only [Fk,bM] at h;split at h
  · rename_i b hb
    split at h
    · rename_i c r hc hr
      injection h with h;subst h;obtain ⟨h1,h2⟩:=wC hr;refine ⟨by simp [h1],fun j u hj=>?_⟩;cases j with
      |zero=>simp at hj;subst hj;exact ⟨b,c,hb,hc,rfl⟩
      |succ j=>simpa using h2 j u (by simpa using hj)
    cases h
  cases h
theorem Bj (hS:bX s ps) {m:List Nat} {s':List SB} (hr:D3 m s s'): ∀{ts:List Nat} {s1:List SB},Fk s m ts=agy s1-> ∃p1,vH ps m ts=agy p1/\ags p1=ags s1/\ ∀(j:Nat) (b:SB),s1[j]? =agy b-> ∃q,p1[j]? =agy q/\RB s' b q
 | [],s1,h=>by injection h with h;subst h;exact ⟨[],rfl,rfl,fun j b h=>by simp at h⟩
 |t::ts,s1,h=>by
  simp only [Fk,bM] at h;split at h
  · rename_i b hb
    split at h
    · rename_i c r hc Y0
      injection h with h;subst h;obtain ⟨q,h1,h2⟩:=hS.at_ t b hb;obtain ⟨q',h3,h4⟩:=YZ hr h2 hc;obtain ⟨p1,h5,h6,h7⟩:=Bj hS hr Y0;refine ⟨q'::p1,by simp only [vH,h1,h3,h5],by simp [h6],fun j x hj=>?_⟩;cases j with
      |zero=>simp at hj;subst hj;exact ⟨q',rfl,h4⟩
      |succ j=>simpa using h7 j x (by simpa using hj)
    cases h
  cases h
theorem D3.of {m:List Nat} {s1 l:List SB} (h:Fk s m m=agy s1):D3 m s (s1++l):=fun t u b hu hb=>by
 have hm:=D2 hu;obtain ⟨h1,h2⟩:=wC h;obtain ⟨b',c,h3,h4,h5⟩:=h2 u t hm;rw [hb] at h3;injection h3 with h3;subst h3;have cY:=(ww.1 h5).1;cases b with
 |arr r l'=>injection h4 with h4;subst h4;rw [AC cY];exact h5
 |dead=>injection h4 with h4;subst h4;rw [AC cY];exact h5
 |box cs=>
  simp only [KX] at h4;split at h4
  · injection h4 with h4;subst h4;exact ⟨_,by rw [AC cY];exact h5⟩
  cases h4
 |_=>trivial
theorem tn: ∀(rk:List (Nat×List PT)) (n:Nat),(rowOf rk n).length=n
 | [],n=>by simp [rowOf]
 |(m,r)::q,n=>by
  simp only [rowOf];cases hc:(PP m n&&PP (ags r) n) with
  |true=>simp only [v6] at hc;exact ut hc.2
  |false=>exact tn q n
theorem Bk {rk:List (Nat×List PT)} {e:SE} {m:List Nat}: ∀{live:List (Nat×Option Nat)} {nx:Nat} {e1:SE} {s2:List SB},vg rk e m nx live=agy (e1,s2)-> ∀(j:Nat) (b:SB),s2[j]? =agy b-> ∃r,b= .arr r []
 | [],nx,e1,s2,h,j,b,hj=>by simp only [vg,EQ,ad0] at h;rw [<- h.2] at hj;simp at hj
 |(t,k)::live,nx,e1,s2,h,j,b,hj=>by
  simp only [vg] at h;split at h
  · split at h
    · rename_i p hp
      simp only [EQ,ad0] at h;obtain ⟨rfl,rfl⟩:=h;cases j with
      |zero=>simp at hj;exact ⟨_,hj.symm⟩
      |succ j=>exact Bk (e1:=p.1) (s2:=p.2) hp j b (by simpa using hj)
    cases h
  split at h
  · rename_i v' p hv hp
    simp only [EQ,ad0] at h;obtain ⟨rfl,rfl⟩:=h;exact Bk (e1:=p.1) (s2:=p.2) hp j b hj
  cases h
mutual
theorem Bl {m:List Nat}: ∀{v u:SV},oW m v=agy u->u.sure=agK
 | .ga,_,h=>by cases h
 | .undef,u,h| .iI,u,h| .dv,u,h| .int _ _,u,h| .bool _,u,h| .str _,u,h| .sl _ _,u,h| .nil _ _,u,h=>by injection h with h;subst h;rfl
 | .agg cs,u,h=>by
  simp only [oW] at h;split at h
  · rename_i l hl;injection h with h;subst h;exact lK hl
  cases h
 | .bT cs,u,h=>by
  simp only [oW] at h;split at h
  · rename_i l hl;injection h with h;subst h;exact lK hl
  cases h
 | .bw cs _,u,h=>by
  simp only [oW] at h;split at h
  · rename_i l hl;injection h with h;subst h;exact lK hl
  cases h
 | .own _ _,u,h=>by simp only [oW] at h;split at h<;>first|(injection h with h;subst h;rfl)|cases h
 | .pre _ _ _ _,u,h=>by simp only [oW] at h;split at h<;>first|(injection h with h;subst h;rfl)|cases h
 | .part _ _ _ _ _,u,h=>by simp only [oW] at h;split at h<;>first|(injection h with h;subst h;rfl)|cases h
 | .pa _ _ _ _ _,u,h=>by simp only [oW] at h;split at h<;>first|(injection h with h;subst h;rfl)|cases h
 | .pb _ _ _,u,h=>by simp only [oW] at h;split at h<;>first|(injection h with h;subst h;rfl)|cases h
 | .bp _ _ _,u,h=>by simp only [oW] at h;split at h<;>first|(injection h with h;subst h;rfl)|cases h
 | .mp _,u,h=>by simp only [oW] at h;split at h<;>first|(injection h with h;subst h;rfl)|cases h
 | .ed f a b,u,h=>by
  simp only [oW] at h;split at h
  · rename_i x y h1 h2
    injection h with h;subst h;simp only [SV.sure,lK h1,lK h2,ad7]
  cases h
theorem lK {m:List Nat}: ∀{v u:List SV},rN m v=agy u->kU u=agK
 | [],u,h=>by injection h with h;subst h;rfl
 |x::xs,u,h=>by
  simp only [rN] at h;split at h
  · rename_i a b h1 h2
    injection h with h;subst h;simp only [kU,Bl h1,lK h2,ad7]
  cases h
end
theorem TF {s:List SB} {v:SV} {p:PV} (h:R s v p): ∀k:Option Nat,v.sure=agK->R s (GY k v) (Fs k p)
 |none,_=>h
 |some _,hs=>by
  cases v with
  |own t ex=>obtain ⟨e,n,rfl,h⟩:=h;exact ⟨e,n,rfl,h⟩
  |pre t l c ex=>obtain ⟨e,rfl,h⟩:=h;exact ⟨e,rfl,h⟩
  |part t o l c ex=>obtain ⟨e,rfl,h⟩:=h;exact ⟨e,rfl,h⟩
  |ga=>cases hs
  |undef|iI|dv|int _ _|bool _|str _|bp _ _ _|mp _|sl _ _|nil _ _=>rw [show p=_ from h];rfl
  |agg _|bT _|bw _ _=>obtain ⟨q,rfl,h⟩:=h;exact ⟨q,rfl,h⟩
  |ed _ _ _=>obtain ⟨q,q2,rfl,h⟩:=h;exact ⟨q,q2,rfl,h⟩
  |pa _ _ _ _ _=>obtain ⟨rfl,h⟩:=h;exact ⟨rfl,h⟩
  |pb _ _ _=>obtain ⟨q,rfl,h⟩:=h;exact ⟨q,rfl,h⟩
theorem K9 {v:SV} (h:v.sure=agK) (k:Option Nat):(GY k v).sure=agK:=by unfold GY;split<;>first|rfl|exact h
theorem G6 {rk:List (Nat×List PT)} {e:SE} {pe:Env} (hE:dw s e pe) {m:List Nat} {s':List SB} (hr:D3 m s s'): ∀{live:List (Nat×Option Nat)} {nx:Nat} {e1:SE} {s2:List SB},vg rk e m nx live=agy (e1,s2)->(∀(j:Nat) (b:SB),s2[j]? =agy b->s'[nx+j]? =agy b)->
 ∃p1 q2,pV pe m nx live=agy (p1,q2)/\dw s' e1 p1/\ags q2=ags s2/\ ∀(j:Nat) (b:SB),s2[j]? =agy b-> ∃q,q2[j]? =agy q/\RB s' b q
 | [],nx,e1,s2,h,_=>by simp only [vg,EQ,ad0] at h;obtain ⟨rfl,rfl⟩:=h;exact ⟨[],[],rfl,rfl,rfl,fun j b h=>by simp at h⟩
 |(t,k)::live,nx,e1,s2,h,hs=>by
  have sC:=hE.lk t;simp only [vg] at h;split at h
  · rename_i kk esz en hv
    split at h
    · rename_i p hp
      simp only [EQ,ad0] at h;obtain ⟨rfl,rfl⟩:=h;rw [hv] at sC;obtain ⟨p1,q2,h1,h2,h3,h4⟩:=G6 (live:=live) (nx:=nx+1) (e1:=p.1) (s2:=p.2) hE hr hp (fun j b hj=>by have:=hs (j+1) b (by simpa using hj);rw [show nx+1+j=nx+(j+1) by omega];exact this);refine ⟨(t,.own nx esz 0 0 0 agO)::p1,.arr esz []::q2,?_,⟨_,_,rfl,⟨esz,0,rfl,.inl ⟨rowOf rk esz,[],by simpa using hs 0 _ rfl,(tn rk esz).symm,rfl⟩⟩,h2⟩,by simp [h3],fun j b hj=>?_⟩
      · have Y1:lk t pe= .sl en agK []:=sC
        simp only [pV,Y1,h1];rfl
      cases j with
      |zero=>simp at hj;subst hj;exact ⟨_,rfl,by show _=_;rw [tn];rfl⟩
      |succ j=>simpa using h4 j b (by simpa using hj)
    cases h
  rename_i dC
  split at h
  · rename_i v' p hv hp
    simp only [EQ,ad0] at h;obtain ⟨rfl,rfl⟩:=h;obtain ⟨q',h5,h6⟩:=QE hr sC hv;obtain ⟨p1,q2,h1,h2,h3,h4⟩:=G6 (live:=live) (e1:=p.1) (s2:=p.2) hE hr hp hs;refine ⟨(t,Fs _ q')::p1,q2,?_,⟨_,_,rfl,TF h6 _ (Bl hv),h2⟩,h3,h4⟩;simp only [pV];split
    · rename_i esz x hx
      exfalso;rw [hx] at sC;generalize BZ t e=v0 at sC hv dC;cases v0 with
      |ga=>cases hv
      |nil e' c=>have Y1:PV.sl x agK []= .sl e' c []:=sC;injection Y1 with h1 h2;subst h2;exact dC _ _ rfl rfl
      |undef|iI|dv|int _ _|bool _|str _|bp _ _ _|mp _=>cases (show PV.sl x agK []=_ from sC)
      |sl r l=>cases (show PV.sl x agK []=_ from sC)
      |agg _|bT _|bw _ _=>obtain ⟨q,hq,_⟩:=sC;cases hq
      |ed _ _ _=>obtain ⟨q,q2,hq,_⟩:=sC;cases hq
      |own _ _=>obtain ⟨q,q2,hq,_⟩:=sC;cases hq
      |pre _ _ _ _=>obtain ⟨q,hq,_⟩:=sC;cases hq
      |part _ _ _ _ _=>obtain ⟨q,hq,_⟩:=sC;cases hq
      |pa _ _ _ _ _=>obtain ⟨hq,_⟩:=sC;cases hq
      |pb _ _ _=>obtain ⟨q,hq,_⟩:=sC;cases hq
    simp only [h5,h1]
  cases h
def XT (s:List SB):Prop:= ∀(t:Nat) (cs:List SV),s[t]? =agy (.box cs)->kU cs=agK
def FU:SE->Prop
 | []=>True
 |(_,v)::r=>v.sure=agK/\FU r
theorem FU.lk: ∀{e:SE},FU e-> ∀t,(BZ t e).sure=agK
 | [],_,t=>rfl
 |(u,v)::r,h,t=>by
  simp only [BZ];cases hb:PP u t with
  |true=>exact h.1
  |false=>exact FU.lk h.2 t
theorem yY {rk:List (Nat×List PT)} {e:SE} {m:List Nat}: ∀{live:List (Nat×Option Nat)} {nx:Nat} {e1:SE} {s2:List SB},vg rk e m nx live=agy (e1,s2)->FU e1
 | [],nx,e1,s2,h=>by simp only [vg,EQ,ad0] at h;rw [<- h.1];trivial
 |(t,k)::live,nx,e1,s2,h=>by
  simp only [vg] at h;split at h
  · split at h
    · rename_i p hp
      simp only [EQ,ad0] at h;obtain ⟨rfl,rfl⟩:=h;exact ⟨rfl,yY (e1:=p.1) (s2:=p.2) hp⟩
    cases h
  split at h
  · rename_i v' p hv hp
    simp only [EQ,ad0] at h;obtain ⟨rfl,rfl⟩:=h;exact ⟨K9 (Bl hv) _,yY (e1:=p.1) (s2:=p.2) hp⟩
  cases h
theorem FV: ∀{l:List SV},kU l=agK-> ∀{n:Nat} {v:SV},nth l n=agy v->v.sure=agK
 | [],_,_,_,h=>by cases h
 |x::xs,hs,0,v,h=>by injection h with h;subst h;simp only [kU,v6] at hs;exact hs.1
 |x::xs,hs,n+1,v,h=>by simp only [kU,v6] at hs;exact FV hs.2 (n:=n) h
theorem FW: ∀{l:List SV},kU l=agK-> ∀(n:Nat) {v:SV},v.sure=agK->kU (l.set n v)=agK
 | [],_,n,v,_=>rfl
 |x::xs,hs,0,v,h=>by simp only [kU,v6] at hs;simp [kU,h,hs.2]
 |x::xs,hs,n+1,v,h=>by simp only [kU,v6] at hs;simp [kU,hs.1,FW hs.2 n h]
theorem RL.set {s:List SB}: ∀{xs:List SV} {ps:List PV},RL s xs ps-> ∀(n:Nat) {v:SV} {p:PV},R s v p->RL s (xs.set n v) (ps.set n p)
 | [],ps,h,n,v,p,_=>by rw [show ps=[] from h];exact RL.nil
 |x::xs,ps,h,0,v,p,hv=>by obtain ⟨a,q,rfl,h1,h2⟩:=h.cons_inv;exact RL.cons hv h2
 |x::xs,ps,h,n+1,v,p,hv=>by obtain ⟨a,q,rfl,h1,h2⟩:=h.cons_inv;exact RL.cons h1 (RL.set h2 n hv)
structure TG (st:nO) (p:St):Prop where
 r:xq st p
 s:XT st.az
 e:FU st.env
theorem La {rk:List (Nat×List PT)} {st:nO} {p:St} (h:TG st p) (t c esz:Nat):TG (DJ rk st t c esz) (pW p t c esz):=by
 unfold DJ pW;rw [bM];cases bK:st.az[t]? with
 |none=>
  have:p.az[t]? =agB:=by rw [adZ] at bK ⊢;rw [h.r.az.len];exact bK
  rw [this];exact h
 |some b=>
  obtain ⟨q,h1,h2⟩:=h.r.az.at_ t b bK;rw [h1];cases b with
  |arr r l=>rw [show q=_ from h2];exact h
  |set l=>rw [show q=_ from h2];exact h
  |bF p l=>rw [show q=_ from h2];exact h
  |dead=>rw [show q=_ from h2];exact h
  |box cs=>
   obtain ⟨pc,rfl,h3⟩:=h2;dsimp only;cases hc:nth cs c with
   |none=>
    have:pc[c]? =agB:=by rw [bM,adZ] at hc;rw [adZ,h3.lG];exact hc
    rw [this];exact h
   |some v=>
    obtain ⟨pv,h4,h5⟩:=h3.nth hc;rw [h4];have afw:=FV (h.s t cs bK) hc;have pO:=h.s t cs bK;have other:(∀e,pv≠ .sl e agK [])->(∀e,v≠ .nil e agK)->TG (match agy v with
     |some (.nil _ agK)=>{st with az:=st.az.set t (.box (cs.set c (.own (ags st.az) agO)))++[.arr (rowOf rk esz) []]}
     |_=>st) (match agy pv with
     |some (.sl _ agK [])=>{p with az:=p.az.set t (.box (pc.set c (.own (ags p.az) esz 0 0 0 agO)))++[.arr esz []]}
     |_=>p):=by
     intro n1 n2;split
     · rename_i e he;injection he with he;exact absurd he (n2 e)
     split
     · rename_i e he;injection he with he;exact absurd he (n1 e)
     exact h
    cases v with
    |ga=>cases afw
    |nil e' cl=>
     have h5':pv= .sl e' cl []:=h5;subst h5';cases cl with
     |false=>exact other (fun e he=>by cases he) (fun e he=>by cases he)
     |true=>
      dsimp only;have cY:=(ww.1 bK).1;have pG:Fr [] st.az (st.az.set t (.box (cs.set c (.own (ags st.az) agO)))++[.arr (rowOf rk esz) []]):=fun u x hu=>by
       by_cases Kk:t=u
       · subst Kk;rw [bK] at hu;injection hu with hu;subst hu;exact .inl ⟨_,by rw [AC (by simpa using cY),M2];simp [cY];rfl⟩
       have ME:=(ww.1 hu).1
       have:(st.az.set t (.box (cs.set c (.own (ags st.az) agO)))++[.arr (rowOf rk esz) []])[u]? =agy x:=by rw [AC (by simpa using ME),M2];simp [Kk,hu]
       cases x with
       |arr r l=>exact .inl ⟨l,this,rfl,fun _=>rfl⟩
       |dead=>exact this
       |box c2=>exact .inl ⟨c2,this⟩
       |_=>trivial
      have bU:(st.az.set t (.box (cs.set c (.own (ags st.az) agO)))).length=(ags st.az):=by simp
      have Y2:R (st.az.set t (.box (cs.set c (.own (ags st.az) agO)))++[.arr (rowOf rk esz) []]) (.own (ags st.az) agO) (.own (ags p.az) esz 0 0 0 agO):=by refine ⟨esz,0,by rw [h.r.az.len],.inl ⟨rowOf rk esz,[],?_,(tn rk esz).symm,rfl⟩⟩;rw [Do (by simp)];simp
      refine ⟨⟨dw.ext pG h.r.env,⟨by simp [h.r.az.len],fun u x hu=>?_⟩,h.r.fz,h.r.kn⟩,fun u x hu=>?_,h.e⟩
      · rcases adY u (ags st.az) with ME|ME
        · rw [AC (by simpa using ME),M2] at hu
          by_cases Kk:t=u
          · subst Kk
            simp [cY] at hu;subst hu;refine ⟨.box (pc.set c (.own (ags p.az) esz 0 0 0 agO)),?_,_,rfl,RL.set (RL.ext pG h3) c Y2⟩;rw [AC (by simp [h.r.az.len,ME]),M2];simp [h.r.az.len,ME]
          simp [Kk] at hu
          obtain ⟨q,h6,h7⟩:=h.r.az.at_ u x hu;refine ⟨q,?_,h7.ext pG⟩;rw [AC (by simp [h.r.az.len,ME]),M2];simp [Kk,h6]
        rw [Do (by simpa using ME)] at hu
        simp only [bU] at hu;have S1:u-(ags st.az)=0:=by
         rcases aeI (u-(ags st.az)) with h|h
         · exact h
         rw [List.getElem?_eq_none (by simp;omega)] at hu;cases hu
        rw [S1] at hu;simp at hu;subst hu;refine ⟨.arr esz [],?_,by show _=_;rw [tn];rfl⟩;rw [Do (by simp [h.r.az.len];omega)];simp [h.r.az.len,S1]
      rcases adY u (ags st.az) with ME|ME
      · rw [AC (by simpa using ME),M2] at hu
        by_cases Kk:t=u
        · subst Kk
          simp [cY] at hu;subst hu;exact FW pO c rfl
        simp [Kk] at hu;exact h.s u x hu
      rw [Do (by simpa using ME)] at hu
      cases hj:u- (st.az.set t (.box (cs.set c (.own (ags st.az) agO)))).length with
      |zero=>rw [hj] at hu;simp at hu
      |succ j=>rw [hj] at hu;simp at hu
    |undef|iI|dv|int _ _|bool _|str _|bp _ _ _|mp _=>exact other (fun e he=>by rw [show pv=_ from h5] at he;cases he) (fun e he=>by cases he)
    |sl r l=>exact other (fun e he=>by rw [show pv=_ from h5] at he;cases he) (fun e he=>by cases he)
    |agg _|bT _|bw _ _=>exact other (fun e he=>by obtain ⟨q,hq,_⟩:=h5;rw [hq] at he;cases he) (fun e he=>by cases he)
    |ed _ _ _=>exact other (fun e he=>by obtain ⟨q,q2,hq,_⟩:=h5;rw [hq] at he;cases he) (fun e he=>by cases he)
    |own _ _=>exact other (fun e he=>by obtain ⟨q,q2,hq,_⟩:=h5;rw [hq] at he;cases he) (fun e he=>by cases he)
    |pre _ _ _ _|part _ _ _ _ _|pb _ _ _=>exact other (fun e he=>by obtain ⟨q,hq,_⟩:=h5;rw [hq] at he;cases he) (fun e he=>by cases he)
    |pa _ _ _ _ _=>exact other (fun e he=>by obtain ⟨hq,_⟩:=h5;rw [hq] at he;cases he) (fun e he=>by cases he)
theorem G7 {p:St} {t c esz:Nat} (h: ∀cs,p.az[t]?≠agy (.box cs)):pW p t c esz=p:=by
 unfold pW;split
 · rename_i cs pO;exact absurd pO (h cs)
 rfl
theorem QF {st:nO} {p:St} (h:TG st p) {v:SV} {q:PV} (hv:R st.az v q) (hs:v≠ .ga):(∃t,Qb v=agy t/\C5 q=agy t)\/(Qb v=agB/\ ∀t,C5 q=agy t-> ∀cs,p.az[t]?≠agy (.box cs)):=by
 cases v with
 |ga=>exact absurd rfl hs
 |bp u m off=>
  have hq:q= .ptr u m 0 off:=hv;subst hq;cases off with
  |zero=>exact .inl ⟨u,rfl,rfl⟩
  |succ off=>exact .inr ⟨rfl,fun t ht=>by cases ht⟩
 |pb u i off=>
  obtain ⟨e',hq,cC⟩:=hv;subst hq;refine .inr ⟨rfl,fun t ht cs pO=>?_⟩;have:t=u:=by
   unfold C5 at ht;split at ht
   · rename_i Yi;injection Yi with e1;injection ht with ht;rw [<- ht,e1]
   cases ht
  subst this;rcases cC with ⟨r,l,h1,_⟩|h1
  · rw [h.r.az.arr h1] at pO;cases pO
  obtain ⟨q,h2,h3⟩:=h.r.az.at_ t _ h1
  rw [pO] at h2;injection h2 with h2;subst h2;cases (show jc.box cs= .dead from h3)
 |pa u r i a off=>
  obtain ⟨hq,cC⟩:=hv;subst hq;refine .inr ⟨rfl,fun t ht cs pO=>?_⟩;have:t=u:=by
   unfold C5 at ht;split at ht
   · rename_i Yi;injection Yi with e1;injection ht with ht;rw [<- ht,e1]
   cases ht
  subst this;rcases cC with ⟨l,h1,_⟩|h1
  · rw [h.r.az.arr h1] at pO;cases pO
  obtain ⟨q,h2,h3⟩:=h.r.az.at_ t _ h1
  rw [pO] at h2;injection h2 with h2;subst h2;cases (show jc.box cs= .dead from h3)
 |undef|iI|dv|int _ _|bool _|str _|mp _|sl _ _|nil _ _=>exact .inr ⟨rfl,fun t ht=>by rw [show q=_ from hv] at ht;cases ht⟩
 |agg _|bT _|bw _ _=>exact .inr ⟨rfl,fun t ht=>by obtain ⟨_,rfl,_⟩:=hv;cases ht⟩
 |ed _ _ _=>exact .inr ⟨rfl,fun t ht=>by obtain ⟨_,_,rfl,_⟩:=hv;cases ht⟩
 |own _ _=>exact .inr ⟨rfl,fun t ht=>by obtain ⟨_,_,rfl,_⟩:=hv;cases ht⟩
 |pre _ _ _ _|part _ _ _ _ _=>exact .inr ⟨rfl,fun t ht=>by obtain ⟨_,rfl,_⟩:=hv;cases ht⟩
theorem Y3 {st:nO} {p:St} (h:TG st p) {v:SV} {q:PV} (hv:R st.az v q) (hs:v.sure=agK):(∃t,Ti v=agy t/\HU q=agy t)\/(Ti v=agB/\ ∀t,HU q=agy t-> ∀cs,p.az[t]?≠agy (.box cs)):=by
 have hj:v≠ .ga:=fun e=>by subst e;cases hs
 by_cases hc: ∃f a b,v= .ed f a b
 · obtain ⟨f,a,b,rfl⟩:=hc
   obtain ⟨pa,pb,rfl,h1,h2⟩:=hv;cases b with
   |nil=>have:pb=[]:=h2;subst this;exact .inr ⟨rfl,fun t ht=>by cases ht⟩
   |cons y ys=>obtain ⟨z,zs,rfl,g1,g2⟩:=h2;exact QF h g1 (fun e=>by subst e;simp [SV.sure,kU] at hs)
 have e1:Ti v=Qb v:=by
  cases v with
  |ed f a b=>exact absurd ⟨f,a,b,rfl⟩ hc
  |_=>rfl
 have e2:HU q=C5 q:=by
  cases q with
  |ed f a b=>
   exfalso;cases v with
   |ga=>exact hj rfl
   |ed f a b=>exact hc ⟨f,a,b,rfl⟩
   |bp _ _ _|undef|iI|dv|int _ _|bool _|str _|mp _|sl _ _|nil _ _=>cases (show PV.ed f a b=_ from hv)
   |agg _|bT _|bw _ _|pre _ _ _ _|part _ _ _ _ _|pb _ _ _=>obtain ⟨_,hq,_⟩:=hv;cases hq
   |own _ _=>obtain ⟨_,_,hq,_⟩:=hv;cases hq
   |pa _ _ _ _ _=>obtain ⟨hq,_⟩:=hv;cases hq
  |_=>rfl
 rw [e1,e2];exact QF h hv hj
theorem l9 {rk:List (Nat×List PT)}: ∀(live:List (Nat×Option Nat)) {st:nO} {p:St},TG st p->TG (kK rk live st) (ju live p)
 | [],st,p,h=>h
 |(t,k)::live,st,p,h=>by
  cases k with
  |none=>simp only [kK,ju];exact l9 live h
  |some n=>
   simp only [kK,ju];cases hn:NE 1000 n with
   |false=>simp only [pp,UV,if_false];exact l9 live h
   |true=>
    simp only [lw,if_true];have sC:=h.r.env.lk t;have hsu:=h.e.lk t;rcases Y3 h sC hsu with ⟨u,e1,e2⟩|⟨e1,e2⟩
    · rw [e1,e2]
      exact l9 live (La h u _ _)
    rw [e1]
    cases hb:HU (lk t p.env) with
    |none=>exact l9 live h
    |some u=>show TG (kK rk live st) (ju live (pW p u (n / 1000-1) (n%1000)));rw [G7 (e2 u hb)];exact l9 live h
theorem IX {e:SE} {pe:Env} (hE:dw s e pe): ∀{live:List (Nat×Option Nat)},zU e live=agK->DK e live=live.flatMap fun p=>iu rh (lk p.1 pe)
 | [],_=>rfl
 |(t,k)::live,h=>by simp only [zU,v6] at h;simp only [DK,aeU,IX hE h.2];rw [QC (fun _=>rfl) (hE.lk t) h.1]
theorem QG: ∀{s':List SB} {s:List SB} {ps:bS} (n:Nat),(ags ps=ags s/\ ∀(t:Nat) (b:SB),s[t]? =agy b-> ∃q,ps[t]? =agy q/\RB s' b q)->DL s n=agK->KY s n=(ps.take n).flatMap pU
 |s',[],ps,n,h,_=>by have:ps=[]:=aeb.1 (by simpa using h.1);subst this;cases n<;>simp [KY]
 |s',b::s,ps,0,h,_=>by simp [KY]
 |s',b::s,ps,n+1,h,hk=>by
  cases ps with
  |nil=>have:=h.1;simp at this
  |cons q ps=>simp only [DL,v6] at hk;obtain ⟨q',h1,h2⟩:=h.2 0 b rfl;simp at h1;subst h1;simp only [KY,aeD,aeU,G5 h2 hk.1];rw [QG (s':=s') (ps:=ps) n ⟨by simpa using h.1,fun t x hx=>by simpa using h.2 (t+1) x (by simpa using hx)⟩ hk.2]
theorem MF {s:List SB} {v:SV} {p:PV} (h:R s v p):R s (FM s v) p:=by
 unfold FM;split
 · rename_i t ex
   rw [bM];split
   · rename_i r l bK
     obtain ⟨e,n,rfl,cC⟩:=h;obtain ⟨rfl,rfl⟩:=cC.inv bK;exact ⟨ags r,rfl,.inl ⟨r,l,bK,rfl⟩⟩
   exact h
 exact h
theorem MG {s:List SB} (c:Nat): ∀{e:SE} {p:Env},dw s e p->dw s (Mu s c e) p
 | [],_,h=>h
 |(t,v)::r,_,h=>by
  obtain ⟨q,qs,rfl,h1,h2⟩:=h;simp only [Mu];cases hb:PP t c with
  |true=>exact ⟨q,qs,rfl,MF h1,h2⟩
  |false=>exact ⟨q,qs,rfl,h1,MG c h2⟩
theorem Bm: ∀(live:List (Nat×Option Nat)) {st:nO} {p:St},xq st p->xq (zT live st) p
 | [],st,p,h=>h
 |(t,k)::r,st,p,h=>by
  simp only [zT];cases hn:NE 1000000 t with
  |true=>exact Bm r ⟨MG _ h.env,h.az,h.fz,h.kn⟩
  |false=>exact Bm r h
theorem IY {rk:List (Nat×List PT)} {live:List (Nat×Option Nat)} {st st1:nO} {p:St} (h:xq st p) (hn:DM rk live st=agy st1): ∃p1,C6 live p=agy p1/\xq st1 p1:=by
 unfold DM at hn;cases hc:(zU st.env live&&DL st.az st.kn) with
 |false=>rw [hc] at hn;cases hn
 |true=>
  rw [hc] at hn;simp only [lw] at hn;simp only [v6] at hc;split at hn
  · cases hn
  rename_i m hm
  split at hn
  · rename_i s1 e1 s2 h1 h2
    injection hn with hn;subst hn;have ht:KY st.az st.kn++DK st.env live=(p.az.take p.kn).flatMap pU++live.flatMap fun q=>iu rh (lk q.1 p.env):=by rw [IX h.env hc.1,QG (s':=st.az) st.kn ⟨h.az.len,h.az.at_⟩ hc.2,h.kn]
    rw [ht] at hm;have zq:=D1 h.az _ _ _ _ hm;have hr:D3 m st.az (s1++s2):=D3.of h1;obtain ⟨p1,a1,a2,a3⟩:=Bj h.az hr h1;have bU:(ags s1)=(ags m):=(wC h1).1;obtain ⟨pe1,q2,b1,b2,b3,b4⟩:=G6 h.env hr h2 (fun j b hj=>by rw [<- bU,Do (by omega)];simpa using hj);have oU:bX (s1++s2) (p1++q2):=⟨by simp [a2,b3],fun t b ht=>by
     rcases adY t (ags s1) with hl|hl
     · rw [AC hl] at ht
       obtain ⟨q,c1,c2⟩:=a3 t b ht;exact ⟨q,by rw [AC (by omega)];exact c1,c2⟩
     rw [Do hl] at ht
     obtain ⟨q,c1,c2⟩:=b4 _ b ht;exact ⟨q,by rw [Do (by omega),a2];exact c1,c2⟩⟩
    have hs:XT (s1++s2):=fun t cs ht=>by
     rcases adY t (ags s1) with hl|hl
     · rw [AC hl] at ht
       obtain ⟨b,c,d1,d2,d3⟩:=(wC h1).2 t (m[t]'(by omega)) (If (by omega));rw [ht] at d3;injection d3 with d3;subst d3;cases b with
       |box x=>
        simp only [KX] at d2;split at d2
        · rename_i l jU;injection d2 with d2;injection d2 with d2;subst d2;exact lK jU
        cases d2
       |arr _ _=>injection d2 with d2;cases d2
       |set _=>injection d2 with d2;cases d2
       |bF _ _=>injection d2 with d2;cases d2
       |dead=>injection d2 with d2;cases d2
     rw [Do hl] at ht
     obtain ⟨r,Y0⟩:=Bk h2 _ _ ht;cases Y0
    have hR:TG {env:=e1,az:=s1++s2,fz:=vI st.fz 0 m,kn:=st.kn} {env:=pe1,az:=p1++q2,fz:=vI p.fz 0 m,kn:=p.kn}:=
     ⟨⟨b2,oU,by rw [h.fz],h.kn⟩,hs,yY h2⟩
    refine ⟨_,?_,Bm live (l9 live hR).r⟩;unfold C6;rw [h.kn] at zq;rw [h.kn];rw [zq];dsimp only;rw [a1,b1]
  cases hn
theorem MH {rk:List (Nat×List PT)} {live:List (Nat×Option Nat)} {st st1:nO} {p:St} (h:xq st p) (hn:DN rk live st=agy st1): ∃p1,norm live p=agy p1/\xq st1 p1:=by
 unfold DN at hn;cases h1:DM rk live st with
 |none=>rw [h1] at hn;cases hn
 |some s=>
  rw [h1] at hn;dsimp only at hn;obtain ⟨p1,h2,h3⟩:=IY h h1;unfold norm;rw [h2];dsimp only;cases ha:(live.any fun p=>p.2.isSome) with
  |true=>rw [ha] at hn;simp only [lw] at hn;rw [rc rfl];exact IY h3 hn
  |false=>rw [ha] at hn;injection hn with hn;subst hn;exact ⟨p1,by rw [sp (by simp)],h3⟩
mutual
theorem CQ: ∀{a b:SV} (q:List vD),vj a b=agK->ru a (Be b++q)=(b,q)
 | .undef,.undef,q,_=>rfl
 | .iI,.iI,q,_=>rfl
 | .dv,.dv,q,_=>rfl
 | .int k _,.int l n,q,h=>by rw [eu.1 h];rfl
 | .bool _,.bool _,q,_=>rfl
 | .agg a,.agg b,q,h=>by simp only [ru,Be,mN q h]
 | .bT a,.bT b,q,h=>by simp only [ru,Be,mN q h]
 | .sl r _,.sl r' l,q,h=>rfl
 | .nil e c,.nil f d,q,h=>by simp only [vj,v6,beq_iff_eq] at h;rw [ut h.1,h.2];rfl
 | .own t x,.own u y,q,h=>by simp only [vj,v6,beq_iff_eq] at h;rw [ut h.1,h.2];rfl
 | .pre t _ _ x,.pre u _ _ y,q,h=>by simp only [vj,v6,beq_iff_eq] at h;rw [ut h.1,h.2];rfl
 | .part t _ _ _ x,.part u _ _ _ y,q,h=>by simp only [vj,v6,beq_iff_eq] at h;rw [ut h.1,h.2];rfl
 | .pb t _ o,.pb u _ p,q,h=>by simp only [vj,v6] at h;rw [ut h.1,ut h.2];rfl
 | .bp t n o,.bp u m p,q,h=>by simp only [vj,v6] at h;rw [ut h.1.1,ut h.1.2,ut h.2];rfl
 | .bw a o,.bw b p,q,h=>by simp only [vj,v6] at h;simp only [ru,Be,mN q h.1,ut h.2]
 | .ed f a b,.ed g c d,q,h=>by simp only [vj,v6] at h;simp only [ru,Be,ad3,mN _ h.1.2,mN q h.2,ut h.1.1]
 | .mp t,.mp u,q,h=>by rw [ut h];rfl
 | .ga,.ga,q,_=>rfl
theorem mN: ∀{a b:List SV} (q:List vD),wm a b=agK->p9 a (Bg b++q)=(b,q)
 | [],[],q,_=>rfl
 |x::xs,y::ys,q,h=>by simp only [wm,v6] at h;simp only [p9,Bg,ad3,CQ _ h.1,mN q h.2]
 | [],_::_,_,h=>by cases h
 |_::_,[],_,h=>by cases h
end
theorem QH: ∀{a b:SB} (q:List vD),XL a b=agK->KZ a (Qc b++q)=(b,q)
 | .arr r _,.arr r' l,q,h=>rfl
 | .box a,.box b,q,h=>by simp only [KZ,Qc,mN q h]
 | .set _,.set _,q,_=>rfl
 | .bF p _,.bF p' l,q,h=>by obtain rfl:p=p':=PT.Mo h;rfl
 | .dead,.dead,q,_=>rfl
 | .arr _ _,.box _,_,h| .arr _ _,.set _,_,h| .arr _ _,.dead,_,h| .box _,.arr _ _,_,h| .box _,.set _,_,h| .box _,.dead,_,h| .set _,.arr _ _,_,h| .set _,.box _,_,h| .set _,.dead,_,h| .dead,.arr _ _,_,h| .dead,.box _,_,h| .dead,.set _,_,h
 | .bF _ _,.arr _ _,_,h| .bF _ _,.box _,_,h| .bF _ _,.set _,_,h| .bF _ _,.dead,_,h| .arr _ _,.bF _ _,_,h| .box _,.bF _ _,_,h| .set _,.bF _ _,_,h| .dead,.bF _ _,_,h=>by cases h
theorem Ae: ∀{a b:List SB} (q:List vD),DO a b=agK->yQ a (GZ b++q)=(b,q)
 | [],[],q,_=>rfl
 |x::xs,y::ys,q,h=>by simp only [DO,v6] at h;simp only [yQ,GZ,ad3,QH _ h.1,Ae q h.2]
 | [],_::_,_,h=>by cases h
 |_::_,[],_,h=>by cases h
theorem IZ: ∀{a b:SE} (q:List vD),Mv a b=agK->IL a (N3 b++q)=(b,q)
 | [],[],q,_=>rfl
 |(t,x)::xs,(u,y)::ys,q,h=>by simp only [Mv,v6] at h;simp only [IL,N3,ad3,CQ _ h.1.2,IZ q h.2,ut h.1.1]
 | [],_::_,_,h=>by cases h
 |_::_,[],_,h=>by cases h
theorem I0: ∀{a b:List Nat},Mw a b=agK->a=b
 | [],[],_=>rfl
 |x::xs,y::ys,h=>by simp only [Mw,v6] at h;rw [ut h.1,I0 h.2]
 | [],_::_,h=>by cases h
 |_::_,[],h=>by cases h
theorem FX {a b:nO} (h:yP a b=agK):ti a (mM b)=b:=by obtain ⟨e1,s1,z1,k1⟩:=a;obtain ⟨e2,s2,z2,k2⟩:=b;simp only [yP,v6] at h;obtain ⟨⟨⟨h1,h2⟩,h3⟩,h4⟩:=h;have hs:=Ae [] h2;rw [ad4] at hs;simp only [ti,mM,IZ _ h1,hs,I0 h3,ut h4]
theorem AK.XU: ∀{a:AK} {x:vD} {y:a.T},a.of x=agy y->a.at y=x
 | .i,.i _,y,h=>by injection h with h;subst h;rfl
 | .b,.b _,y,h=>by injection h with h;subst h;rfl
 | .n,.n _,y,h=>by injection h with h;subst h;rfl
 | .l r,.l q x,y,h=>by obtain ⟨rfl,rfl⟩:=nQ h;rfl
 | .s,.s _,y,h=>by injection h with h;subst h;rfl
 | .i,.b _,_,h| .i,.n _,_,h| .i,.l _ _,_,h| .i,.s _,_,h| .b,.i _,_,h| .b,.n _,_,h| .b,.l _ _,_,h| .b,.s _,_,h| .n,.i _,_,h| .n,.b _,_,h| .n,.l _ _,_,h| .n,.s _,_,h
 | .l _,.i _,_,h| .l _,.b _,_,h| .l _,.n _,_,h| .l _,.s _,_,h| .s,.i _,_,h| .s,.b _,_,h| .s,.n _,_,h| .s,.l _ _,_,h=>by cases h
theorem nS: ∀{ks:List AK} {l:List vD} {y:gj ks},ke ks l=agy y->jX ks y=l
 | [],[],y,_=>rfl
 | [a],[x],y,h=>by have:=AK.XU (a:=a) h;simp only [jX,this]
 |a::q::r,x::xs,y,h=>by
  simp only [ke] at h;split at h
  · rename_i u v h1 h2
    injection h with h;subst h;simp only [jX,AK.XU h1,nS h2]
  cases h
 | [],_::_,_,h=>by cases h
 | [_],[],_,h=>by cases h
 | [_],_::_::_,_,h=>by cases h
 |_::_::_,[],_,h=>by cases h
end
end Go.Vm
/- What is known of functions, and what a call of one comes to. -/
namespace Go.Vm
mutual
def Cv:Nat->PV->Option (PV×bS)
 |_,.int k n=>agy (.int k n,[])
 |_,.bool b=>agy (.bool b,[])
 |nx,.agg cs=>match D4 nx cs with|some r=>agy (.agg r.1,r.2)|none=>agB
 |nx,.bT cs=>match D4 nx cs with|some r=>agy (.bT r.1,r.2)|none=>agB
 |nx,.sl e agO rows=>agy (.own nx e 0 (ags rows) (ags rows) agO,[.arr e rows])
 |_,_=>agB
def D4:Nat->List PV->Option (List PV×bS)
 |_,[]=>agy ([],[])
 |nx,x::xs=>match Cv nx x with
  |some a=>match D4 (nx+ags a.2) xs with
   |some b=>agy (a.1::b.1,a.2++b.2)
   |none=>agB
  |none=>agB
end
def uv (s:List SB) (n:Nat) (l:List SB):Prop:= ∀(j:Nat) (b:SB),l[j]? =agy b->s[n+j]? =agy b
theorem uv.left {s:List SB} {n:Nat} {l m:List SB} (h:uv s n (l++m)):uv s n l:=fun j b hj=>h j b (by rw [AC (ww.1 hj).1];exact hj)
theorem uv.right {s:List SB} {n:Nat} {l m:List SB} (h:uv s n (l++m)):uv s (n+ags l) m:=fun j b hj=>by
 have:=h (ags l+j) b (by rw [Do (by omega)];simpa using hj)
 rwa [Nat.add_assoc]
def Lb (s:List SB) (l:List SB) (q:bS):Prop:=ags q=ags l/\ ∀(j:Nat) (b:SB),l[j]? =agy b-> ∃x,q[j]? =agy x/\RB s b x
theorem Lb.append {s l m:List SB} {q r:bS} (h:Lb s l q) (k:Lb s m r):Lb s (l++m) (q++r):=by
 refine ⟨by simp [h.1,k.1],fun j b hj=>?_⟩;rcases adY j (ags l) with hl|hl
 · rw [AC hl] at hj
   obtain ⟨x,h1,h2⟩:=h.2 j b hj;exact ⟨x,by rw [AC (by rw [h.1];exact hl)];exact h1,h2⟩
 rw [Do hl] at hj
 obtain ⟨x,h1,h2⟩:=k.2 _ b hj;exact ⟨x,by rw [Do (by rw [h.1];exact hl),h.1];exact h1,h2⟩
theorem Lb.nil {s:List SB}:Lb s [] []:=⟨rfl,fun j b h=>by simp at h⟩
theorem Lb.one {s:List SB} {b:SB} {x:jc} (h:RB s b x):Lb s [b] [x]:=⟨rfl,fun j c hc=>by
 cases j with
 |zero=>simp at hc;subst hc;exact ⟨x,rfl,h⟩
 |succ j=>simp at hc⟩
mutual
theorem MJ: ∀{v:SV} {nx:Nat} {p0 p:PV} {q:bS},qc v=agy p0->Cv nx p0=agy (p,q)-> ∀{s:List SB},uv s nx (wj nx v).2->R s (wj nx v).1 p/\Lb s (wj nx v).2 q
 | .int k n,nx,p0,p,q,h0,h,s,_=>by injection h0 with h0;subst h0;injection h with h;injection h with h1 h2;subst h1 h2;exact ⟨rfl,Lb.nil⟩
 | .bool b,nx,p0,p,q,h0,h,s,_=>by injection h0 with h0;subst h0;injection h with h;injection h with h1 h2;subst h1 h2;exact ⟨rfl,Lb.nil⟩
 | .agg cs,nx,p0,p,q,h0,h,s,hb=>by
  simp only [qc] at h0;split at h0
  · rename_i l hl
    injection h0 with h0;subst h0;simp only [Cv] at h;split at h
    · rename_i r hr
      injection h with h;injection h with h1 h2;subst h1 h2;obtain ⟨h3,h4⟩:=D5 (p:=r.1) (q:=r.2) hl hr hb;exact ⟨⟨r.1,rfl,h3⟩,h4⟩
    cases h
  cases h0
 | .bT cs,nx,p0,p,q,h0,h,s,hb=>by
  simp only [qc] at h0;split at h0
  · rename_i l hl
    injection h0 with h0;subst h0;simp only [Cv] at h;split at h
    · rename_i r hr
      injection h with h;injection h with h1 h2;subst h1 h2;obtain ⟨h3,h4⟩:=D5 (p:=r.1) (q:=r.2) hl hr hb;exact ⟨⟨r.1,rfl,h3⟩,h4⟩
    cases h
  cases h0
 | .sl r l,nx,p0,p,q,h0,h,s,hb=>by injection h0 with h0;subst h0;injection h with h;injection h with h1 h2;subst h1 h2;refine ⟨⟨ags r,ags l,by simp,.inl ⟨r,l,hb 0 _ rfl,rfl,rfl⟩⟩,Lb.one rfl⟩
 | .nil e c,nx,p0,p,q,h0,h,s,hb=>by
  injection h0 with h0;subst h0;cases c with
  |true=>simp [Cv] at h
  |false=>injection h with h;injection h with h1 h2;subst h1 h2;exact ⟨⟨e,0,rfl,.inl ⟨_,[],hb 0 _ rfl,by simp,rfl⟩⟩,Lb.one (by show _=_;simp)⟩
 | .str _,nx,p0,p,q,h0,h,s,_=>by injection h0 with h0;subst h0;cases h
 | .dv,nx,p0,p,q,h0,h,s,_=>by injection h0 with h0;subst h0;cases h
 | .bw cs o,nx,p0,p,q,h0,h,s,_=>by
  simp only [qc] at h0;split at h0
  · injection h0 with h0;subst h0;cases h
  cases h0
 | .ed f a b,nx,p0,p,q,h0,h,s,_=>by
  simp only [qc] at h0;split at h0
  · injection h0 with h0;subst h0;cases h
  cases h0
 | .ga,_,_,_,_,h0,_,_,_| .undef,_,_,_,_,h0,_,_,_| .iI,_,_,_,_,h0,_,_,_| .own _ _,_,_,_,_,h0,_,_,_| .pre _ _ _ _,_,_,_,_,h0,_,_,_| .part _ _ _ _ _,_,_,_,_,h0,_,_,_
 | .pa _ _ _ _ _,_,_,_,_,h0,_,_,_| .pb _ _ _,_,_,_,_,h0,_,_,_| .bp _ _ _,_,_,_,_,h0,_,_,_| .mp _,_,_,_,_,h0,_,_,_=>by cases h0
theorem D5: ∀{v:List SV} {nx:Nat} {p0 p:List PV} {q:bS},oz v=agy p0->D4 nx p0=agy (p,q)-> ∀{s:List SB},uv s nx (sE nx v).2->RL s (sE nx v).1 p/\Lb s (sE nx v).2 q
 | [],nx,p0,p,q,h0,h,s,_=>by injection h0 with h0;subst h0;injection h with h;injection h with h1 h2;subst h1 h2;exact ⟨rfl,Lb.nil⟩
 |x::xs,nx,p0,p,q,h0,h,s,hb=>by
  obtain ⟨a,as,rfl,h1,h2⟩:=dR.1 h0;simp only [D4] at h;split at h
  · rename_i ra hra
    split at h
    · rename_i rb hrb
      injection h with h;injection h with e1 e2;subst e1 e2;simp only [sE] at hb ⊢;obtain ⟨k1,k2⟩:=MJ (p:=ra.1) (q:=ra.2) h1 hra hb.left;rw [k2.1] at hrb;obtain ⟨k3,k4⟩:=D5 (p:=rb.1) (q:=rb.2) h2 hrb hb.right;exact ⟨RL.cons k1 k3,k2.append k4⟩
    cases h
  cases h
end
mutual
theorem QI {s:List SB} {ps:bS} {z:List Nat} (hS:bX s ps): ∀{v v':SV} {p:PV} {seen seen':List Nat} (nx:Nat),R s v p->N2 s z seen v=agy (v',seen')-> ∃p0 p' q,qc v'=agy p0/\Cv nx p0=agy (p',q)/\xO ps z nx seen p=agy (p',q,seen')
 | .int k n,v',p,seen,seen',nx,h,hx=>by injection hx with hx;injection hx with h1 h2;subst h1 h2;rw [show p=_ from h];exact ⟨_,_,_,rfl,rfl,rfl⟩
 | .bool k,v',p,seen,seen',nx,h,hx=>by injection hx with hx;injection hx with h1 h2;subst h1 h2;rw [show p=_ from h];exact ⟨_,_,_,rfl,rfl,rfl⟩
 | .agg cs,v',p,seen,seen',nx,h,hx=>by
  obtain ⟨q,rfl,h⟩:=h;simp only [N2] at hx;split at hx
  · rename_i r hr
    injection hx with hx;injection hx with h1 h2;subst h1 h2;obtain ⟨p0,p',q',h3,h4,h5⟩:=G8 hS (v':=r.1) (seen':=r.2) nx h hr;exact ⟨.agg p0,.agg p',q',by simp only [qc,h3],by simp only [Cv,h4],by simp only [xO,h5];rfl⟩
  cases hx
 | .bT cs,v',p,seen,seen',nx,h,hx=>by
  obtain ⟨q,rfl,h⟩:=h;simp only [N2] at hx;split at hx
  · rename_i r hr
    injection hx with hx;injection hx with h1 h2;subst h1 h2;obtain ⟨p0,p',q',h3,h4,h5⟩:=G8 hS (v':=r.1) (seen':=r.2) nx h hr;exact ⟨.bT p0,.bT p',q',by simp only [qc,h3],by simp only [Cv,h4],by simp only [xO,h5];rfl⟩
  cases hx
 | .nil e c,v',p,seen,seen',nx,h,hx=>by
  cases c with
  |false=>cases hx
  |true=>injection hx with hx;injection hx with h1 h2;subst h1 h2;rw [show p=_ from h];exact ⟨_,_,_,rfl,rfl,rfl⟩
 | .own t ex,v',p,seen,seen',nx,h,hx=>by
  obtain ⟨e,n,rfl,cC⟩:=h;simp only [N2,bM] at hx;split at hx
  · rename_i r l bK
    obtain ⟨rfl,rfl⟩:=cC.inv bK;cases hc:(has seen t||has z t) with
    |true=>rw [hc] at hx;cases hx
    |false=>rw [hc] at hx;injection hx with hx;injection hx with h1 h2;subst h1 h2;refine ⟨_,_,_,rfl,rfl,?_⟩;simp only [xO,hS.arr bK,hc];simp
  cases hx
 | .ga,_,_,_,_,_,_,hx| .undef,_,_,_,_,_,_,hx| .iI,_,_,_,_,_,_,hx| .dv,_,_,_,_,_,_,hx| .str _,_,_,_,_,_,_,hx| .sl _ _,_,_,_,_,_,_,hx| .pre _ _ _ _,_,_,_,_,_,_,hx| .part _ _ _ _ _,_,_,_,_,_,_,hx
 | .pa _ _ _ _ _,_,_,_,_,_,_,hx| .pb _ _ _,_,_,_,_,_,_,hx| .bp _ _ _,_,_,_,_,_,_,hx| .bw _ _,_,_,_,_,_,_,hx| .ed _ _ _,_,_,_,_,_,_,hx| .mp _,_,_,_,_,_,_,hx=>by cases hx
theorem G8 {s:List SB} {ps:bS} {z:List Nat} (hS:bX s ps): ∀{v v':List SV} {p:List PV} {seen seen':List Nat} (nx:Nat),RL s v p->IK s z seen v=agy (v',seen')-> ∃p0 p' q,oz v'=agy p0/\D4 nx p0=agy (p',q)/\Gu ps z nx seen p=agy (p',q,seen')
 | [],v',p,seen,seen',nx,h,hx=>by injection hx with hx;injection hx with h1 h2;subst h1 h2;rw [show p=_ from h];exact ⟨_,_,_,rfl,rfl,rfl⟩
 |x::xs,v',p,seen,seen',nx,h,hx=>by
  obtain ⟨a,as,rfl,h1,h2⟩:=h.cons_inv;simp only [IK] at hx;split at hx
  · rename_i r hr
    split at hx
    · rename_i r2 It
      injection hx with hx;injection hx with e1 e2;subst e1 e2;obtain ⟨p0,p',q,k1,k2,k3⟩:=QI hS (v':=r.1) (seen':=r.2) nx h1 hr;obtain ⟨p02,p'2,q2,k4,k5,k6⟩:=G8 hS (v':=r2.1) (seen':=r2.2) (nx+ags q) h2 It;exact ⟨p0::p02,p'::p'2,q++q2,dR.2 ⟨_,_,rfl,k1,k4⟩,by simp only [D4,k2,k5],by simp only [Gu,k3,k6]⟩
    cases hx
  cases hx
end
mutual
theorem I1 {s:List SB}: ∀{v:SV} {p:PV},R s v p->yO v=agK->p.iQ=agK
 | .int _ _,p,h,_| .bool _,p,h,_| .str _,p,h,_=>by rw [show p=_ from h];rfl
 | .agg cs,p,h,hn=>by obtain ⟨q,rfl,h⟩:=h;exact Bn h hn
 | .bT cs,p,h,hn=>by obtain ⟨q,rfl,h⟩:=h;exact Bn h hn
 | .ga,_,_,h| .undef,_,_,h| .iI,_,_,h| .dv,_,_,h| .sl _ _,_,_,h| .nil _ _,_,_,h| .own _ _,_,_,h| .pre _ _ _ _,_,_,h| .part _ _ _ _ _,_,_,h| .pa _ _ _ _ _,_,_,h| .pb _ _ _,_,_,h| .bp _ _ _,_,_,h| .bw _ _,_,_,h| .ed _ _ _,_,_,h| .mp _,_,_,h=>by cases h
theorem Bn {s:List SB}: ∀{v:List SV} {p:List PV},RL s v p->p8 v=agK->qC p=agK
 | [],p,h,_=>by rw [show p=_ from h];rfl
 |x::xs,p,h,hn=>by obtain ⟨a,as,rfl,h1,h2⟩:=h.cons_inv;simp only [p8,v6] at hn;simp only [qC,I1 h1 hn.1,Bn h2 hn.2,ad7]
end
mutual
theorem FY {s:List SB} {u:SV}: ∀{v:SV} {p:PV},R s v p->yO v=agO->Qa s v=agy u->p.iQ=agO
 | .int _ _,p,h,hn,_| .bool _,p,h,hn,_| .str _,p,h,hn,_=>by cases hn
 | .agg cs,p,h,hn,hi=>by
  obtain ⟨q,rfl,h⟩:=h;simp only [Qa] at hi;split at hi
  · rename_i l hl;exact yZ h hn hl
  cases hi
 | .bT cs,p,h,hn,hi=>by
  obtain ⟨q,rfl,h⟩:=h;simp only [Qa] at hi;split at hi
  · rename_i l hl;exact yZ h hn hl
  cases hi
 | .sl _ _,p,h,_,_=>by rw [show p=_ from h];rfl
 | .nil _ _,p,h,_,_=>by rw [show p=_ from h];rfl
 | .own _ _,p,h,_,_=>by obtain ⟨e,n,rfl,_⟩:=h;rfl
 | .pre _ _ _ _,p,h,_,_=>by obtain ⟨e,rfl,_⟩:=h;rfl
 | .part _ _ _ _ _,p,h,_,_=>by obtain ⟨e,rfl,_⟩:=h;rfl
 | .ga,_,_,_,h| .undef,_,_,_,h| .iI,_,_,_,h| .dv,_,_,_,h| .pa _ _ _ _ _,_,_,_,h| .pb _ _ _,_,_,_,h| .bp _ _ _,_,_,_,h| .bw _ _,_,_,_,h| .ed _ _ _,_,_,_,h| .mp _,_,_,_,h=>by cases h
theorem yZ {s:List SB}: ∀{v u:List SV} {p:List PV},RL s v p->p8 v=agO->KW s v=agy u->qC p=agO
 | [],u,p,h,hn,_=>by cases hn
 |x::xs,u,p,h,hn,hi=>by
  obtain ⟨a,as,rfl,h1,h2⟩:=h.cons_inv;simp only [KW] at hi;split at hi
  · rename_i y ys h3 h4
    simp only [p8] at hn;simp only [qC];cases hx:yO x with
    |false=>rw [FY h1 hx h3];rfl
    |true=>rw [hx] at hn;rw [yZ h2 (by simpa using hn) h4];simp
  cases hi
end
mutual
theorem XV {s:List SB} {ps:bS} (hS:bX s ps): ∀{v u:SV} {p:PV},R s v p->Qa s v=agy u-> ∃q,vB ps p=agy q/\qc u=agy q
 | .int k n,u,p,h,hx=>by injection hx with hx;subst hx;rw [show p=_ from h];exact ⟨_,rfl,rfl⟩
 | .bool b,u,p,h,hx=>by injection hx with hx;subst hx;rw [show p=_ from h];exact ⟨_,rfl,rfl⟩
 | .str x,u,p,h,hx=>by injection hx with hx;subst hx;rw [show p=_ from h];exact ⟨_,rfl,rfl⟩
 | .agg cs,u,p,h,hx=>by
  obtain ⟨q,rfl,h⟩:=h;simp only [Qa] at hx;split at hx
  · rename_i l hl
    injection hx with hx;subst hx;obtain ⟨q',h1,h2⟩:=Lc hS h hl;exact ⟨.agg q',by simp only [vB,h1];rfl,by simp only [qc,h2]⟩
  cases hx
 | .bT cs,u,p,h,hx=>by
  obtain ⟨q,rfl,h⟩:=h;simp only [Qa] at hx;split at hx
  · rename_i l hl
    injection hx with hx;subst hx;obtain ⟨q',h1,h2⟩:=Lc hS h hl;exact ⟨.bT q',by simp only [vB,h1];rfl,by simp only [qc,h2]⟩
  cases hx
 | .sl r l,u,p,h,hx=>by injection hx with hx;subst hx;rw [show p=_ from h];exact ⟨_,rfl,rfl⟩
 | .nil e c,u,p,h,hx=>by injection hx with hx;subst hx;rw [show p=_ from h];exact ⟨_,rfl,rfl⟩
 | .own t ex,u,p,h,hx=>by
  simp only [Qa,bM] at hx;split at hx
  · rename_i r l bK
    injection hx with hx;subst hx;obtain ⟨e,n,rfl,cC⟩:=h;obtain ⟨rfl,rfl⟩:=cC.inv bK;refine ⟨.sl (ags r) agO (l.map (RT.pv r)),?_,rfl⟩;simp only [vB,hS.arr bK,adB];rw [adz (by simp)]
  cases hx
 | .pre t len cap ex,u,p,h,hx=>by
  simp only [Qa,bM] at hx;split at hx
  · rename_i r l bK
    injection hx with hx;subst hx;obtain ⟨e,rfl,cC⟩:=h;have:=cC.inv bK;subst this;refine ⟨.sl (ags r) agO ((l.take len).map (RT.pv r)),?_,rfl⟩;simp only [vB,hS.arr bK,adB,adu]
  cases hx
 | .part t off len cap ex,u,p,h,hx=>by
  simp only [Qa,bM] at hx;split at hx
  · rename_i r l bK
    injection hx with hx;subst hx;obtain ⟨e,rfl,cC⟩:=h;have:=cC.inv bK;subst this;refine ⟨.sl (ags r) agO (((l.drop off).take len).map (RT.pv r)),?_,rfl⟩;simp only [vB,hS.arr bK,adu,ae6]
  cases hx
 | .ga,_,_,_,hx| .undef,_,_,_,hx| .iI,_,_,_,hx| .dv,_,_,_,hx| .pa _ _ _ _ _,_,_,_,hx| .pb _ _ _,_,_,_,hx| .bp _ _ _,_,_,_,hx| .bw _ _,_,_,_,hx| .ed _ _ _,_,_,_,hx| .mp _,_,_,_,hx=>by cases hx
theorem Lc {s:List SB} {ps:bS} (hS:bX s ps): ∀{v u:List SV} {p:List PV},RL s v p->KW s v=agy u-> ∃q,C4 ps p=agy q/\oz u=agy q
 | [],u,p,h,hx=>by injection hx with hx;subst hx;rw [show p=_ from h];exact ⟨_,rfl,rfl⟩
 |x::xs,u,p,h,hx=>by
  obtain ⟨a,as,rfl,h1,h2⟩:=h.cons_inv;simp only [KW] at hx;split at hx
  · rename_i y ys h3 h4
    injection hx with hx;subst hx;obtain ⟨q,h5,h6⟩:=XV hS h1 h3;obtain ⟨qs,h7,h8⟩:=Lc hS h2 h4;exact ⟨q::qs,by simp only [C4,h5,h7],dR.2 ⟨_,_,rfl,h6,h8⟩⟩
  cases hx
end
mutual
theorem QJ {s:List SB}: ∀{v:SV} {p:PV},qc v=agy p->R s v p
 | .int _ _,p,h| .bool _,p,h| .str _,p,h| .dv,p,h| .sl _ _,p,h| .nil _ _,p,h=>by injection h with h;exact h.symm
 | .agg cs,p,h=>by
  simp only [qc] at h;split at h
  · rename_i l hl;injection h with h;exact ⟨l,h.symm,D6 hl⟩
  cases h
 | .bT cs,p,h=>by
  simp only [qc] at h;split at h
  · rename_i l hl;injection h with h;exact ⟨l,h.symm,D6 hl⟩
  cases h
 | .bw cs o,p,h=>by
  simp only [qc] at h;split at h
  · rename_i l hl;injection h with h;exact ⟨l,h.symm,D6 hl⟩
  cases h
 | .ed f a b,p,h=>by
  simp only [qc] at h;split at h
  · rename_i x y h1 h2;injection h with h;exact ⟨x,y,h.symm,D6 h1,D6 h2⟩
  cases h
 | .ga,_,h| .undef,_,h| .iI,_,h| .own _ _,_,h| .pre _ _ _ _,_,h| .part _ _ _ _ _,_,h| .pa _ _ _ _ _,_,h| .pb _ _ _,_,h| .bp _ _ _,_,h| .mp _,_,h=>by cases h
theorem D6 {s:List SB}: ∀{v:List SV} {p:List PV},oz v=agy p->RL s v p
 | [],p,h=>by injection h with h;exact h.symm
 |x::xs,p,h=>by obtain ⟨a,as,rfl,h1,h2⟩:=dR.1 h;exact RL.cons (QJ h1) (D6 h2)
end
def XW (kd:Kd) (n:Nat) (tk:List Nat) (v:SV) (r:mC):Prop:=
 match kd with
 | .pure=> ∃p,qc v=agy p/\r={v:=p,rd:=tk}
 | .vA=> ∃p,qc v=agy p/\r={v:=p,rd:=tk,fr:=tk}
 | .own=> ∃p0 p q,qc v=agy p0/\Cv n p0=agy (p,q)/\r={v:=p,news:=q,rd:=tk}
def cM (F : jM) (f : FuncId) (c : qt) : Prop :=
  ∀ (a : c.α) (b : c.β) (as args : List PV) (az : bS) (fz : List Nat), c.fn a = agy b -> oz (c.args.enc a) = agy args -> AL az (vt az deep) as = agy args ->
    ∃ n r, cu F (run F n) c.ow f as az fz = agy r /\ XW c.kd (ags az) (cQ (cD az deep) as) (c.res.enc b) r
def eJ.va (c:eJ) (a:gj c.ka):List SV:=(p9 c.ta (jX c.ka a)).1
def eJ.sa (c:eJ) (a:gj c.ka):List SB:=(yQ c.tb (p9 c.ta (jX c.ka a)).2).1
def eJ.vb (c:eJ) (b:gj c.ko):SV:=(ru c.tv (jX c.ko b)).1
def eJ.sb (c:eJ) (b:gj c.ko):List SB:=(yQ c.to (ru c.tv (jX c.ko b)).2).1
def QK:SB->SB->Prop
 | .arr r l,.arr q m=>r=q/\ags m=ags l
 | .box _,.box _=>True
 | .set _,.set _=>True
 | .bF _ _,.bF _ _=>True
 | .dead,.dead=>True
 |_,_=>False
def rz (F : jM) (f : FuncId) (c : eJ) : Prop :=
  ∀ (a : gj c.ka) (b : gj c.ko) (pa : List PV) (ps : bS), c.fn a = agy b -> RL (c.sa a) (c.va a) pa -> bX (c.sa a) ps ->
    ∃ n v s, run F n (.func f pa ps []) = agy (.func v s []) /\ gA (c.sa a).length v s = agK /\ R (c.sb b) (c.vb b) v /\ bX (c.sb b) (s.take (c.sa a).length) /\ (c.sb b).length = (c.sa a).length /\
      ∀ (t : Nat) (x y : SB), (c.sa a)[t]? = agy x -> (c.sb b)[t]? = agy y -> QK x y
def y4 (F:jM):List (Nat×qt)->Prop
 | []=>True
 |(f,c)::r=>cM F f c/\y4 F r
def FZ (F:jM):List (Nat×eJ)->Prop
 | []=>True
 |(f,c)::r=>rz F f c/\FZ F r
def Af (F:jM):List (Nat×Cd)->Prop
 | []=>True
 |(f,x)::r=>F f=agy x.ent/\Af F r
structure lL (F:jM) (cx:Ctx):Prop where
 XM: ∀f c,c∈cx.XM f->cM F f c
 fpc: ∀f c,c∈cx.fpc f->rz F f c
 code: ∀f x,cx.code f=agy x->F f=agy x.ent
theorem y4.mem {F:jM}: ∀{l:List (Nat×qt)},y4 F l-> ∀f c,c∈IQ l f->cM F f c
 | [],_,f,c,h=>by cases h
 |(g,d)::r,hl,f,c,h=>by
  simp only [IQ] at h;cases hb:PP g f with
  |true=>
   rw [hb] at h;have:=ut hb;subst this;simp only [lw] at h;rcases h with _|⟨_,h⟩
   · exact hl.1
   exact y4.mem hl.2 _ c h
  |false=>rw [hb] at h;exact y4.mem hl.2 f c h
theorem FZ.mem {F:jM}: ∀{l:List (Nat×eJ)},FZ F l-> ∀f c,c∈IS l f->rz F f c
 | [],_,f,c,h=>by cases h
 |(g,d)::r,hl,f,c,h=>by
  simp only [IS] at h;cases hb:PP g f with
  |true=>
   rw [hb] at h;have:=ut hb;subst this;simp only [lw] at h;rcases h with _|⟨_,h⟩
   · exact hl.1
   exact FZ.mem hl.2 _ c h
  |false=>rw [hb] at h;exact FZ.mem hl.2 f c h
theorem Af.mem {F:jM}: ∀{l:List (Nat×Cd)},Af F l-> ∀f x,G2 l f=agy x->F f=agy x.ent
 | [],_,f,c,h=>by cases h
 |(g,d)::r,hl,f,c,h=>by
  simp only [G2] at h;cases hb:PP g f with
  |true=>rw [hb] at h;have:=ut hb;subst this;injection h with h;subst h;exact hl.1
  |false=>rw [hb] at h;exact Af.mem hl.2 f c h
theorem lL.make {F:jM} {lp:Option Nat} {c:List (Nat×qt)} {p:List (Nat×eJ)} {x:List (Nat×Cd)} {rk:List (Nat×List PT)} (h1:y4 F c) (h2:FZ F p) (h3:Af F x):lL F (qd lp c p x rk):=
 ⟨h1.mem,h2.mem,h3.mem⟩
section
variable {F : jM} {R' ρ : Type} {w : R' -> ρ} {y : ρ} {s : List SB} {ps : bS} {z : List Nat}
theorem wD {f:FuncId} {m:Bool} {tk:List Nat} {vs:List SV} {k:XRS->fE R'} (hS:bX s ps) {as args:List PV} (hx:AL ps (vt ps deep) as=agy args) (hv:oz vs=agy args) (zp:tk=cQ (cD ps deep) as):
 ∀{l:List qt},(∀c∈l,cM F f c)->K0 f m s tk vs k l ρ w=agy y-> ∃sr pr,(∃n,cu F (run F n) m f as ps z=agy pr)/\Good s ps sr pr/\k (.loc sr) ρ w=agy y
 | [],_,h=>by cases h
 |c::l,hl,h=>by
  simp only [K0] at h;cases hd:c.args.dec vs with
  |none=>rw [hd] at h;exact wD hS hx hv zp (fun c hc=>hl c (aef _ hc)) h
  |some a=>
   rw [hd] at h;cases Yy:(m==c.ow) with
   |false=>rw [Yy] at h;exact wD hS hx hv zp (fun c hc=>hl c (aef _ hc)) h
   |true=>
   rw [Yy] at h;obtain ⟨b,hb,h2⟩:=b7 h;have hm:m=c.ow:=by simpa using Yy
   subst hm;have ajd:=c.args.law hd hv;obtain ⟨n,r,hr,zO⟩:=hl c (ae9 ..) a b as args ps z hb ajd hx;cases hkd:c.kd with
   |pure=>rw [hkd] at h2 zO;obtain ⟨p,h3,rfl⟩:=zO;exact ⟨_,_,⟨n,hr⟩,by rw [<- zp];exact Good.val hS (QJ h3),h2⟩
   |vA=>rw [hkd] at h2 zO;obtain ⟨p,h3,rfl⟩:=zO;exact ⟨_,_,⟨n,hr⟩,by rw [<- zp];exact Good.val hS (QJ h3),h2⟩
   |own=>
    rw [hkd] at h2 zO;obtain ⟨p0,p,q,h3,h4,rfl⟩:=zO;rw [hS.len] at h4;have hbh:uv (s++(wj (ags s) (c.res.enc b)).2) (ags s) (wj (ags s) (c.res.enc b)).2:=fun j x hj=>by rw [Do (by omega)];simpa using hj
    obtain ⟨k1,k2⟩:=MJ h3 h4 hbh;exact ⟨_,_,⟨n,hr⟩,by rw [<- zp];exact Good.news hS k2.1 k2.2 k1,h2⟩
end
end Go.Vm
/- A call of a function that works on the blocks that are lent to it. -/
namespace Go.Vm
def pK {α:Type}:List (Nat×α)->List α->List α
 | [],s=>s
 |(t,b)::r,s=>pK r (s.set t b)
theorem uw: ∀(l:List (Nat×SB)) (s:List SB),pJ l s=pK l s
 | [],s=>rfl
 |(t,b)::r,s=>by simp only [pJ,pK,z6,uw r]
theorem B6: ∀(l:List (Nat×jc)) (s:bS),fv l s=pK l s
 | [],s=>rfl
 |(t,b)::r,s=>by simp only [fv,pK,B6 r]
theorem y5 {α:Type}: ∀(l:List (Nat×α)) (s:List α),(pK l s).length=ags s
 | [],s=>rfl
 |(t,b)::r,s=>by simp [pK,y5 r]
theorem uy {α:Type}: ∀(l:List (Nat×α)) (s:List α) (t:Nat),t∉l.map (·.1)->(pK l s)[t]? =s[t]?
 | [],s,t,_=>rfl
 |(u,b)::r,s,t,h=>by simp only [ad6,List.mem_cons,not_or] at h;simp only [pK];rw [uy r _ t h.2,M2];simp [Ne.symm h.1]
theorem Bo {α:Type}: ∀(l:List (Nat×α)) (s:List α) (j t:Nat) (b:α),(l.map (·.1)).Nodup->l[j]? =agy (t,b)->t<ags s->(pK l s)[t]? =agy b
 | [],s,j,t,b,_,h,_=>by simp at h
 |(u,c)::r,s,0,t,b,hn,h,ht=>by simp at h;obtain ⟨rfl,rfl⟩:=h;simp only [ad6,aeA] at hn;simp only [pK];rw [uy r _ u hn.1,M2];simp [ht]
 |(u,c)::r,s,j+1,t,b,hn,h,ht=>by simp only [ad6,aeA] at hn;simp only [pK];exact Bo r _ j t b hn.2 (by simpa using h) (by simpa using ht)
theorem Ag: ∀(l:List (Nat×SB)),wq l=l.map (·.1)
 | []=>rfl
 |(t,b)::r=>by simp [wq,Ag r]
theorem F0 (g:Nat->Nat): ∀(tk:List Nat) (s:List SB),ags s=ags tk->(yh g tk s).map (·.1)=tk/\ ∀(j t:Nat) (b:SB),tk[j]? =agy t->s[j]? =agy b->(yh g tk s)[j]? =agy (t,Qi g b)
 | [],s,h=>⟨by simp [yh],fun j t b hj=>by simp at hj⟩
 |t::tk,[],h=>by simp at h
 |t::tk,b::s,h=>by
  obtain ⟨h1,h2⟩:=F0 g tk s (by simpa using h);refine ⟨by simp [yh,h1],fun j u c hj hc=>?_⟩;cases j with
  |zero=>simp at hj hc;subst hj hc;rfl
  |succ j=>simp only [yh,adD];exact h2 j u c (by simpa using hj) (by simpa using hc)
theorem D7 (g:Nat->Nat): ∀(tk:List Nat) (s:bS),ags tk<=ags s->(nK g tk s).map (·.1)=tk/\ ∀(j t:Nat) (b:jc),tk[j]? =agy t->s[j]? =agy b->(nK g tk s)[j]? =agy (t,xW g b)
 | [],s,h=>⟨by simp [nK],fun j t b hj=>by simp at hj⟩
 |t::tk,[],h=>by simp at h
 |t::tk,b::s,h=>by
  obtain ⟨h1,h2⟩:=D7 g tk s (by simpa using h);refine ⟨by simp [nK,h1],fun j u c hj hc=>?_⟩;cases j with
  |zero=>simp at hj hc;subst hj hc;rfl
  |succ j=>simp only [nK,adD];exact h2 j u c (by simpa using hj) (by simpa using hc)
theorem F1: ∀{l:List (Nat×jc)},(l.map (·.1)).Nodup->tM l=agK
 | [],_=>rfl
 |p::r,h=>by
  simp only [ad6,aeA] at h;simp only [tM,v6,adA,ad1];refine ⟨fun q hq=>?_,F1 h.2⟩;cases hb:PP q.1 p.1 with
  |false=>rfl
  |true=>exact absurd (aeV.2 ⟨q,hq,ut hb⟩) h.1
theorem G9: ∀(s:List SB),AO [] s=s
 | []=>rfl
 |b::r=>by simp only [AO,G9 r];cases b<;>simp [Tl,rO]
theorem I2 (s:List SB) (r:fh):r.lZ s=AO (wq r.wr) (pJ r.wr s)++r.news:=by
 unfold fh.lZ;split
 · rename_i h;rw [h];simp only [wq,pJ,G9,kY]
 simp only [kY]
def Y4 (g:Nat->Nat) (s s2:List SB):Prop:= ∀(u:Nat) (x:SB),s[u]? =agy x->match x with
 | .arr r l=>s2[g u]? =agy (.arr r l)
 | .dead=>s2[g u]? =agy .dead
 | .box _=> ∃cs,s2[g u]? =agy (.box cs)
 |_=>True
mutual
theorem MK {g:Nat->Nat} {s s2:List SB} (hb:Y4 g s s2): ∀{v:SV} {p:PV},R s v p->R s2 (IM g v) (AS g p)
 | .ga,_,_=>trivial
 | .undef,p,h| .iI,p,h| .dv,p,h| .int _ _,p,h| .bool _,p,h| .str _,p,h| .sl _ _,p,h| .nil _ _,p,h| .bp _ _ _,p,h| .mp _,p,h=>by rw [show p=_ from h];rfl
 | .agg cs,p,h=>by obtain ⟨q,rfl,h⟩:=h;exact ⟨_,rfl,uz hb h⟩
 | .bT cs,p,h=>by obtain ⟨q,rfl,h⟩:=h;exact ⟨_,rfl,uz hb h⟩
 | .bw cs o,p,h=>by obtain ⟨q,rfl,h⟩:=h;exact ⟨_,rfl,uz hb h⟩
 | .ed f a b,p,h=>by obtain ⟨pa,pb,rfl,h1,h2⟩:=h;exact ⟨_,_,rfl,uz hb h1,uz hb h2⟩
 | .own t ex,p,h=>by
  obtain ⟨e,n,rfl,cC⟩:=h;refine ⟨e,n,rfl,?_⟩;rcases cC with ⟨r,l,h1,h2,h3⟩|h1
  · exact .inl ⟨r,l,hb t _ h1,h2,h3⟩
  exact .inr (hb t _ h1)
 | .pre t a b c,p,h=>by
  obtain ⟨e,rfl,cC⟩:=h;refine ⟨e,rfl,?_⟩;rcases cC with ⟨r,l,h1,h2⟩|h1|⟨cs,h1,h2⟩
  · exact .inl ⟨r,l,hb t _ h1,h2⟩
  · exact .inr (.inl (hb t _ h1))
  obtain ⟨c2,h3⟩:=hb t _ h1
  exact .inr (.inr ⟨c2,h3,h2⟩)
 | .part t o a b c,p,h=>by
  obtain ⟨e,rfl,cC⟩:=h;refine ⟨e,rfl,?_⟩;rcases cC with ⟨r,l,h1,h2⟩|h1|⟨cs,h1,h2⟩
  · exact .inl ⟨r,l,hb t _ h1,h2⟩
  · exact .inr (.inl (hb t _ h1))
  obtain ⟨c2,h3⟩:=hb t _ h1
  exact .inr (.inr ⟨c2,h3,h2⟩)
 | .pa t r i a o,p,h=>by
  obtain ⟨rfl,cC⟩:=h;refine ⟨_,rfl,?_⟩;rcases cC with ⟨l,h1,h2⟩|h1
  · exact .inl ⟨r,l,hb t _ h1,by rw [h2];rfl⟩
  exact .inr (hb t _ h1)
 | .pb t i o,p,h=>by
  obtain ⟨e,rfl,cC⟩:=h;refine ⟨e,rfl,?_⟩;rcases cC with ⟨r,l,h1,h2⟩|h1
  · exact .inl ⟨r,l,hb t _ h1,h2⟩
  exact .inr (hb t _ h1)
theorem uz {g:Nat->Nat} {s s2:List SB} (hb:Y4 g s s2): ∀{v:List SV} {p:List PV},RL s v p->RL s2 (B2 g v) (u5 g p)
 | [],p,h=>by rw [show p=_ from h];rfl
 |x::xs,p,h=>by obtain ⟨a,as,rfl,h1,h2⟩:=h.cons_inv;exact RL.cons (MK hb h1) (uz hb h2)
end
theorem D8: ∀{a b:bS},(∀(t:Nat) (x:jc),a[t]? =agy x-> ∃y,b[t]? =agy y/\x.bA=y.bA)->tL a b=agK
 | [],b,_=>by cases b<;>rfl
 |x::a,[],h=>by obtain ⟨y,hy,_⟩:=h 0 x rfl;simp at hy
 |x::a,y::b,h=>by obtain ⟨y',h1,h2⟩:=h 0 x rfl;simp at h1;subst h1;have:=D8 (a:=a) (b:=b) (fun t x hx=>by simpa using h (t+1) x (by simpa using hx));simp only [tL,this,aee,h2];cases y.bA<;>rfl
section
variable {F : jM} {R' ρ : Type} {w : R' -> ρ} {y : ρ} {s : List SB} {ps : bS} {z : List Nat}
theorem ML {f:FuncId} {tk:List Nat} {Ld vs:List SV} {s0:List SB} {k:XRS->fE R'} (hS:bX s ps) {SC:List PV} (hv:RL s Ld SC) (zp:tk=nI (cQ (cD ps deep) SC)) (hz:(tk.all fun t=>!has z t)=agK)
 (h1:rN tk Ld=agy vs) (h2:Fk s tk tk=agy s0):
 ∀{l:List eJ},(∀c∈l,rz F f c)->fpS f (ags s) tk vs s0 k l ρ w=agy y-> ∃sr pr,(∃n,su (run F n) f SC ps z=agy pr)/\Good s ps sr pr/\k (.loc sr) ρ w=agy y
 | [],_,h=>by cases h
 |c::l,hl,h=>by
  have next:fpS f (ags s) tk vs s0 k l ρ w=agy y-> ∃sr pr,(∃n,su (run F n) f SC ps z=agy pr)/\Good s ps sr pr/\k (.loc sr) ρ w=agy y:=
   fun h=>ML hS hv zp hz h1 h2 (fun c hc=>hl c (aef _ hc)) h
  simp only [fpS] at h;cases sC:(wm c.ta vs&&DO c.tb s0) with
  |false=>rw [sC] at h;exact next h
  |true=>
   rw [sC] at h;simp only [lw] at h;cases hpo:ke c.ka (Bg vs++GZ s0) with
   |none=>rw [hpo] at h;exact next h
   |some a=>
    rw [hpo] at h;obtain ⟨b,hb,h3⟩:=b7 h;simp only [v6] at sC;have Dl:=nS hpo;have hva:c.va a=vs:=by unfold eJ.va;rw [Dl,mN _ sC.1]
    have hsa:c.sa a=s0:=by unfold eJ.sa;rw [Dl,mN _ sC.1];have:=Ae [] sC.2;rw [ad4] at this;rw [this]
    have Dq:D3 tk s s0:=by have:=D3.of (l:=[]) h2;rwa [ad4] at this
    obtain ⟨pa',a1,a2⟩:=rR Dq hv h1;obtain ⟨p0,b1,b2,b3⟩:=Bj hS Dq h2;have Fg:bX s0 p0:=⟨b2,b3⟩;obtain ⟨TH,afx⟩:=wC h2;obtain ⟨n,v,sr,r1,r2,r3,r4,r5,r6⟩:=hl c (ae9 ..) a b pa' p0 hb (by rw [hva,hsa];exact a2) (by rw [hsa];exact Fg);rw [hsa] at r2 r4 r5 r6;have E7:tk.Nodup:=by rw [zp];exact rM
    have NO: ∀t∈tk,t<(ags s):=fun t ht=>by obtain ⟨j,hj,he⟩:=aeh ht;obtain ⟨x,c',d1,_,_⟩:=afx j t (by rw [If hj,he]);exact (ww.1 d1).1
    have afy:(c.sb b).length=(ags tk):=by rw [r5,TH]
    have ajg:(ags tk)<=(ags sr):=by have:=r4.len;rw [ads,afy] at this;rw [TH] at this;omega
    have DZ: ∀j,j<ags tk->(sr.take (ags s0))[j]? =sr[j]?:=fun j hj=>IR (by rw [TH];exact hj)
    have PA:tL p0 sr=agK:=D8 (fun t x hx=>by
     have ajh:t<(ags s0):=by have:=(ww.1 hx).1;rw [b2] at this;exact this
     obtain ⟨x0,IE⟩: ∃x0,s0[t]? =agy x0:=⟨s0[t],If ajh⟩;obtain ⟨q,q1,q2⟩:=b3 t x0 IE;rw [hx] at q1;injection q1 with q1;subst q1;obtain ⟨y0,Oe⟩: ∃y0,(c.sb b)[t]? =agy y0:=⟨(c.sb b)[t]'(by omega),If (by omega)⟩;obtain ⟨q',q3,q4⟩:=r4.at_ t y0 Oe;rw [DZ t (by omega)] at q3;refine ⟨q',q3,?_⟩;have Ff:=r6 t x0 y0 IE Oe;cases x0 with
     |arr r l=>cases y0 with
      |arr r' l'=>obtain ⟨rfl,yD⟩:=Ff;rw [show x=_ from q2,show q'=_ from q4];cases l<;>cases l'<;>simp_all [jc.bA]
      |_=>exact Ff.elim
     |box cs=>cases y0 with
      |box Fu=>obtain ⟨_,rfl,_⟩:=q2;obtain ⟨_,rfl,_⟩:=q4;rfl
      |_=>exact Ff.elim
     |set l=>cases y0 with
      |set l'=>rw [show x=_ from q2,show q'=_ from q4];rfl
      |_=>exact Ff.elim
     |bF p l=>cases y0 with
      |bF p' l'=>rw [show x=_ from q2,show q'=_ from q4];rfl
      |_=>exact Ff.elim
     |dead=>cases y0 with
      |dead=>rw [show x=_ from q2,show q'=_ from q4]
      |_=>exact Ff.elim)
    let g:=ji tk (ags s)
    have hg: ∀j t,tk[j]? =agy t->g j=t:=fun j t hj=>by show ji tk (ags s) j=t;unfold ji;rw [hj]
    obtain ⟨w1,w2⟩:=F0 g tk (c.sb b) afy;obtain ⟨u1,u2⟩:=D7 g tk sr ajg
    let s2:=AO tk (pJ (yh g tk (c.sb b)) s)
    have vw: ∀(j t:Nat) (x:SB),tk[j]? =agy t->(c.sb b)[j]? =agy x->s2[t]? =agy (Tl tk (Qi g x)):=fun j t x hj hx=>by show (AO tk _)[t]? =_;rw [qe,uw,Bo _ s j t _ (by rw [w1];exact E7) (w2 j t x hj hx) (NO t (adX hj))];rfl
    have afz: ∀(t:Nat),t∉tk->s2[t]? =(s[t]?).map (Tl tk):=fun t ht=>by show (AO tk _)[t]? =_;rw [qe,uw,uy _ s t (by rw [w1];exact ht)]
    have xR: ∀t∈tk,∃j,tk[j]? =agy t:=fun t ht=>by obtain ⟨j,hj,he⟩:=aeh ht;exact ⟨j,by rw [If hj,he]⟩
    have pG:Fr tk s s2:=fun t x hx=>by
     by_cases ht:t∈tk
     · obtain ⟨j,hj⟩:=xR t ht
       have Kr:j<(ags tk):=(ww.1 hj).1;obtain ⟨x',c',d1,d2,d3⟩:=afx j t hj;rw [hx] at d1;injection d1 with d1;subst d1;obtain ⟨y0,Oe⟩: ∃y0,(c.sb b)[j]? =agy y0:=⟨(c.sb b)[j]'(by omega),If (by omega)⟩;have Ff:=r6 j c' y0 d3 Oe;have XX:=vw j t y0 hj Oe;cases x with
       |arr r l=>
        injection d2 with d2;subst d2;cases y0 with
        |arr r' l'=>
         obtain ⟨rfl,yD⟩:=Ff;refine .inl ⟨l',XX,yD,fun hb=>?_⟩;exfalso;have:has tk t=agK:=by unfold has;rw [afb];exact ⟨t,ht,by simp⟩
         rw [this] at hb;cases hb
        |_=>exact Ff.elim
       |dead=>
        injection d2 with d2;subst d2;cases y0 with
        |dead=>exact XX
        |_=>exact Ff.elim
       |box cs=>
        simp only [KX] at d2;split at d2
        · injection d2 with d2;subst d2
          cases y0 with
          |box c2=>exact .inl ⟨_,XX⟩
          |_=>exact Ff.elim
        cases d2
       |_=>trivial
     have:=afz t ht
     rw [hx] at this;cases x with
     |arr r l=>exact .inl ⟨l,this,rfl,fun _=>rfl⟩
     |dead=>exact this
     |box c2=>exact .inl ⟨_,this⟩
     |_=>trivial
    have XY:Y4 g (c.sb b) s2:=fun u x hx=>by
     have ME:u<(ags tk):=by have:=(ww.1 hx).1;omega
     have hj:tk[u]? =agy tk[u]:=If ME;have:=vw u _ x hj hx;rw [hg u _ hj];cases x with
     |arr r l=>exact this
     |dead=>exact this
     |box cs=>exact ⟨_,this⟩
     |_=>trivial
    have aji:(∃n,su (run F n) f SC ps z=agy {v:=AS g v,wr:=nK g tk sr}):=by
     refine ⟨n,?_⟩;unfold su SD;rw [<- zp,rc hz,a1,b1];dsimp only;rw [r1];dsimp only;unfold C8;rw [rc PA,hS.len];have:gA (ags tk) v sr=agK:=by rw [<- TH];exact r2
     rw [rc this]
    refine ⟨{v:=IM g (c.vb b),wr:=yh g tk (c.sb b)},_,aji,?_,h3⟩;have bK:fh.lZ s {v:=IM g (c.vb b),wr:=yh g tk (c.sb b)}=s2:=by rw [I2,ad4,Ag,w1]
    exact {
     rd:=rfl
     fr:=rfl
     wr:=by rw [Ag,w1];exact u1
     nw:=F1 (by rw [u1];exact E7)
     nl:=rfl
     az:=by
      rw [bK];show bX s2 (fv (nK g tk sr) ps);rw [B6];refine ⟨by rw [y5,uj,uw,y5,hS.len],fun t x hx=>?_⟩
      by_cases ht:t∈tk
      · obtain ⟨j,hj⟩:=xR t ht
        have Kr:j<(ags tk):=(ww.1 hj).1;obtain ⟨y0,Oe⟩: ∃y0,(c.sb b)[j]? =agy y0:=⟨(c.sb b)[j]'(by omega),If (by omega)⟩;have XX:=vw j t y0 hj Oe;rw [hx] at XX;injection XX with XX;subst XX;obtain ⟨q',q3,q4⟩:=r4.at_ j y0 Oe;rw [DZ j Kr] at q3;refine ⟨xW g q',Bo _ ps j t _ (by rw [u1];exact E7) (u2 j t q' hj q3) (by rw [hS.len];exact NO t ht),?_⟩;cases y0 with
        |box cs=>obtain ⟨pc,rfl,hpc⟩:=q4;exact ⟨_,rfl,RL.fr (Fr.refl tk s2) (uz XY hpc)⟩
        |arr r l=>rw [show q'=_ from q4];rfl
        |set l=>rw [show q'=_ from q4];rfl
        |bF p l=>rw [show q'=_ from q4];rfl
        |dead=>rw [show q'=_ from q4];rfl
      rw [afz t ht,ad9] at hx
      obtain ⟨x0,IE,rfl⟩:=hx;obtain ⟨q,q1,q2⟩:=hS.at_ t x0 IE;exact ⟨q,by rw [uy _ ps t (by rw [u1];exact ht)];exact q1,q2.fr pG⟩
     v:=by rw [bK];exact MK XY r3
     fra:=by rw [bK,Ag,w1];exact pG}
end
end Go.Vm
/- What the typed machine makes of a function is what the logical machine runs. -/
namespace Go.Vm
section
variable {F : jM}
theorem WO.Y5 {o:bD} {r:List bD} {st:St} {tr:List Tr} {Q:St->List Tr->Prop} {f:FuncId} {args:List PV}
 (hw:wanted o.guard st.env=agy agK) (eA: ∀n,u6 F (run F n) st.env st.az st.fz o.op=ff (run F n) f args st.az st.fz)
 (h:yx F f args st.az st.fz fun v s z=>(NE (ags st.az) (ags s)&&st.fz.all (has z))=agK/\WO F r {st with env:=gW o.dst v st.env,az:=s,fz:=z} (Qh::tr) Q):
 WO F (o::r) st tr Q:=by
 obtain ⟨n,v,s,z,hr,hc,hk⟩:=h;refine WO.call (.shr v s z) hw ⟨n,?_⟩ rfl hk;rw [eA];simp only [ff,hr];rw [rc hc]
theorem WP.again {live:List (Nat×Option Nat)} {b:iF} {st s1:St} {Q:gg->St->Prop} (h0:norm live st=agy s1) (h:WP F b s1 (andThen (fun s=>WP F (.loop live b) s Q) Q)):WP F (.loop live b) st Q:=by
 obtain ⟨m,e,s,he,hq⟩:=h;cases e with
 |normal=>
  obtain ⟨k,e',s',AM,OW⟩:=hq;refine ⟨max m k+1,e',s',?_,OW⟩;simp only [ri] at AM ⊢;rw [jw];simp only [step,h0];rw [oR (.refl _ _) (oS F (Nat.le_max_left m k)) _ _ _ he];dsimp only;split at AM
  · rename_i e1 s1 PM
    rw [oS F (Nat.le_max_right m k) _ _ PM];exact AM
  cases AM
 |exit i=>exact ⟨m+1,.exit i,s,by simp only [ri];rw [jw];simp only [step,h0,he],hq⟩
 |ret=>exact ⟨m+1,.ret,s,by simp only [ri];rw [jw];simp only [step,h0,he],hq⟩
def I3 (F : jM) (inl : Tm) : Prop :=
  ∀ (f : FuncId) (args : List SV) (s : List SB) (z : List Nat) (R' : Type) (k : SV -> List SB -> List Nat -> fE R') (ρ : Type) (w : R' -> ρ) (y : ρ) (pa : List PV) (ps : bS) (Q : R' -> PV -> bS -> List Nat -> Prop),
    RL s args pa -> bX s ps -> inl f args s z R' k ρ w = agy y ->
    (∀ v s' z' p vF vE (w' : R' -> vE) y', R s' v p -> bX s' vF -> k v s' z' vE w' = agy y' -> ∃ r, y' = w' r /\ Q r p vF z') ->
    ∃ r, y = w r /\ yx F f pa ps z (fun p vF z' => Q r p vF z')
def MM:SB->SB->Prop
 | .arr r l,b=>(∃l',b= .arr r l'/\ags l'=ags l)\/b= .dead
 | .dead,b=>b= .dead
 | .box _,b=>(∃cs,b= .box cs)\/b= .dead
 |_,_=>True
theorem Ah {R' ρ:Type} {w:R'->ρ} {y:ρ}: ∀{s s':List SB} {k:fE R'},oA s s' k ρ w=agy y->k ρ w=agy y/\ags s<=ags s'/\
 ∀(t:Nat) (b:SB),s[t]? =agy b-> ∃b',s'[t]? =agy b'/\MM b b'
 | [],s',k,h=>⟨by cases s'<;>exact h,Nat.zero_le _,fun t b ht=>by simp at ht⟩
 |x::xs,[],k,h=>by cases h
 |x::xs,y'::ys,k,h=>by
  have step: ∀(_:oA xs ys k ρ w=agy y) (_:MM x y'),k ρ w=agy y/\(x::xs).length<=(y'::ys).length/\ ∀(t:Nat) (b:SB),(x::xs)[t]? =agy b-> ∃b',(y'::ys)[t]? =agy b'/\MM b b':=by
   intro h hx;obtain ⟨h1,h2,h3⟩:=Ah h;refine ⟨h1,by simpa using h2,fun t b ht=>?_⟩;cases t with
   |zero=>simp at ht;subst ht;exact ⟨y',rfl,hx⟩
   |succ t=>simpa using h3 t b (by simpa using ht)
  cases x with
  |arr r l=>
   cases y' with
   |arr q m=>obtain ⟨hr,h2⟩:=cb (a:=fa (ags m==ags l) (oA xs ys k) aO) h;obtain ⟨hl,h3⟩:=gE h2;have:=th hr;subst this;exact step h3 (.inl ⟨m,rfl,by simpa using hl⟩)
   |dead=>exact step h (.inr rfl)
   |_=>cases h
  |dead=>
   cases y' with
   |dead=>exact step h rfl
   |_=>cases h
  |box cs=>
   cases y' with
   |box c2=>exact step h (.inl ⟨c2,rfl⟩)
   |dead=>exact step h (.inr rfl)
   |_=>cases h
  |set l=>exact step h trivial
  |bF p l=>exact step h trivial
theorem QL {n t:Nat} (h:t<n):has (sY n) t=agK:=by
 induction n with
 |zero=>omega
 |succ n ih=>
  unfold has at ih ⊢;rw [afb] at*;simp only [sY,afB,aea];rcases adY t n with h1|h1
  · obtain ⟨x,h2,h3⟩:=ih h1
    exact ⟨x,.inl h2,h3⟩
  have:t=n:=by omega
  subst this;exact ⟨t,.inr rfl,by simp⟩
theorem Lf {s s':List SB} (h: ∀(t:Nat) (b:SB),s[t]? =agy b-> ∃b',s'[t]? =agy b'/\MM b b'):Fr (sY (ags s)) s s':=fun t b hb=>by
 obtain ⟨b',h1,h2⟩:=h t b hb;have cY:=(ww.1 hb).1;cases b with
 |arr r l=>
  rcases h2 with ⟨l',rfl,h3⟩|rfl
  · exact .inl ⟨l',h1,h3,fun hx=>by rw [QL cY] at hx;cases hx⟩
  exact .inr h1
 |dead=>rw [show b'= .dead from h2] at h1;exact h1
 |box cs=>
  rcases h2 with ⟨c2,rfl⟩|rfl
  · exact .inl ⟨c2,h1⟩
  exact .inr h1
 |_=>trivial
theorem afA {s:List SB} {ps:bS} {sr:fh} {pr:mC} (G:Good s ps sr pr) (hS:bX s ps):(XR.loc pr).tr (ags ps)=sr.tr (ags s):=by
 simp only [XR.tr,fh.tr,G.rd,G.fr,hS.len,<- G.wr,G.nl,agd];have:pr.news.isEmpty=sr.news.isEmpty:=by have:=G.nl;cases h1:pr.news<;>cases h2:sr.news<;>simp_all
 rw [this];rfl
theorem Y6 {st:nO} {p:St} (h:xq st p) {sr:fh} {pr:mC} (G:Good st.az p.az sr pr) (d:Option Nat):xq (sr.next d st) ((XR.loc pr).next d p):=by
 have I4: ∀{s:List SB} {e:SE} {pe:Env} {v:SV} {q:PV},dw s e pe->R s v q->dw s (G0 d v e) (gW d q pe):=by
  intro s e pe v q he hv;cases d with
  |none=>exact he
  |some t=>exact ⟨q,pe,rfl,hv,he⟩
 have hs:=I2 st.az sr;unfold fh.next
 split
 · rename_i hw
   rw [hw] at hs;simp only [wq,pJ,G9] at hs;have oU:=G.az;have hv:=G.v;have pG:=G.fra;rw [hs] at oU hv pG;rw [hw] at pG;exact ⟨by simp only [kY];exact I4 (dw.ext pG h.env) hv,by simp only [kY];exact oU,by simp only [XR.next,G.fr,h.fz],h.kn⟩
 have oU:=G.az
 have hv:=G.v;have pG:=G.fra;rw [hs] at oU hv pG;exact ⟨by simp only [kY];exact I4 (dw.fr pG h.env) hv,by simp only [kY];exact oU,by simp only [XR.next,G.fr,h.fz],h.kn⟩
theorem ok_eq {s:List SB} {ps:bS} {sr:fh} {pr:mC} (G:Good s ps sr pr) {z:List Nat} (h:sr.ok z=agK):(XR.loc pr).ok z=agK:=by simp only [XR.ok,G.nw,aee];unfold fh.ok at h;rw [<- G.wr,agd] at h;exact h
section
variable {cx : Ctx} {inl : Tm} {R' : Type}
def ajk (_F:jM) (k:nO->List Tr->fE R') (Q:R'->St->List Tr->Prop):Prop:=
 ∀st p tr ρ (w:R'->ρ) y,xq st p->k st tr ρ w=agy y-> ∃r,y=w r/\Q r p tr
theorem uA {o:bD} {l:List bD} {st:nO} {p:St} {tr:List Tr} {k:nO->List Tr->fE R'} {ρ:Type} {w:R'->ρ} {y:ρ} {Q:R'->St->List Tr->Prop}
 (hl: ∀st p tr ρ (w:R'->ρ) y,xq st p->k st tr ρ w=agy y-> ∃r,y=w r/\WO F l p tr (Q r)) (h:xq st p) {sr:fh} {pr:mC} (hw:wanted o.guard p.env=agy agK)
 (hx: ∃n,u6 F (run F n) p.env p.az p.fz o.op=agy (.loc pr)) (G:Good st.az p.az sr pr) (hg:Mx o.dst st tr k (.loc sr) ρ w=agy y): ∃r,y=w r/\WO F (o::l) p tr (Q r):=by
 unfold Mx at hg;dsimp only at hg;obtain ⟨yw,hg⟩:=cb hg;rw [GW] at hg;have hR:=Y6 h G o.dst;obtain ⟨r,hr,TI⟩:=hl _ _ _ _ _ _ hR hg;refine ⟨r,hr,WO.call (.loc pr) hw hx (by rw [h.fz];exact ok_eq G yw) ?_⟩;rw [afA G h.az];exact TI
theorem I5 (Cw:lL F cx) (G':I3 F inl) {o:bD} {l:List bD} {st:nO} {p:St} {tr:List Tr} {k:nO->List Tr->fE R'} {ρ:Type} {w:R'->ρ} {y:ρ} {Q:R'->St->List Tr->Prop}
 (hl: ∀st p tr ρ (w:R'->ρ) y,xq st p->k st tr ρ w=agy y-> ∃r,y=w r/\WO F l p tr (Q r)) (h:xq st p) (hw:wanted o.guard p.env=agy agK)
 (hg:FN cx inl st.env st.az st.fz o.op (Mx o.dst st tr k) ρ w=agy y): ∃r,y=w r/\WO F (o::l) p tr (Q r):=by
 have hS:=h.az;have hE:=h.env;have shr: ∀(f:FuncId) (Ld:List SV) (SC:List PV),RL st.az Ld SC->(∀n,u6 F (run F n) p.env p.az p.fz o.op=ff (run F n) f SC p.az p.fz)->
  inl f Ld st.az st.fz R' (fun v s' z'=>Mx o.dst st tr k (.shr v s' z')) ρ w=agy y-> ∃r,y=w r/\WO F (o::l) p tr (Q r):=by
  intro f Ld SC hv eA hi;obtain ⟨r,hr,hd⟩:=G' f Ld st.az st.fz R' _ ρ w y SC p.az (fun r v s z=>(NE (ags p.az) (ags s)&&p.fz.all (has z))=agK/\WO F l {p with env:=gW o.dst v p.env,az:=s,fz:=z} (Qh::tr) (Q r)) hv hS hi
   (fun v s' z' pv vF vE w' y' hR hS' hk=>by
    unfold Mx at hk;dsimp only at hk;rw [GW] at hk;obtain ⟨hk,bU,Pn⟩:=Ah hk;obtain ⟨hz,hk⟩:=cb hk;have pG:=Lf Pn;have I4:dw s' (G0 o.dst v (dgE (sY (ags st.az)) st.env)) (gW o.dst pv p.env):=by
     cases o.dst with
     |none=>exact dw.fr pG hE
     |some t=>exact ⟨pv,p.env,rfl,hR,dw.fr pG hE⟩
    have hR':xq {env:=G0 o.dst v (dgE (sY (ags st.az)) st.env),az:=s',fz:=z',kn:=st.kn} {p with env:=gW o.dst pv p.env,az:=vF,fz:=z'}:=⟨I4,hS',rfl,h.kn⟩;obtain ⟨r,hr,TI⟩:=hl _ _ _ _ _ _ hR' hk;refine ⟨r,hr,?_,TI⟩;rw [h.fz,hz,aee,hS.len,hS'.len];simpa using bU)
  refine ⟨r,hr,WO.Y5 hw eA ?_⟩;rw [h.fz];rw [h.fz] at hd;exact hd
 have loc: ∀{k':fh->fE R'},kX st.env st.az st.fz o.op k' ρ w=agy y->Bb o.op=agO->(∀sr,k' sr=Mx o.dst st tr k (.loc sr))-> ∃r,y=w r/\WO F (o::l) p tr (Q r):=by intro k' hv hc hk;obtain ⟨sr,pr,h1,G,h2⟩:=TE hE hS (pe:=p.env) hv;rw [hk] at h2;exact uA hl h hw ⟨0,by rw [GS hc,h.fz,h1];rfl⟩ G h2
 generalize eA:o.op=op at hg;cases op with
 |call m f args=>
  have jV:=xt hE args;simp only [FN] at hg;cases m with
  |Sq=>
   dsimp only at hg;cases hx:qI st.az (jA st.az deep) (iT st.env args) with
   |none=>rw [hx] at hg;cases hg
   |some vs=>rw [hx] at hg;obtain ⟨q,h1,h2⟩:=sF hS (CP hS deep) jV hx;obtain ⟨sr,pr,⟨n,h3⟩,G,h4⟩:=wD (f:=f) (z:=st.fz) hS h1 h2 (yj hS (D0 hS deep) jV hx) (fun c hc=>Cw.XM f c hc) hg;exact uA hl h hw ⟨n,by rw [eA,h.fz];simp only [u6,h3];rfl⟩ G h4
  |own=>
   dsimp only at hg;cases hx:qI st.az (jA st.az deep) (iT st.env args) with
   |none=>rw [hx] at hg;cases hg
   |some vs=>rw [hx] at hg;obtain ⟨q,h1,h2⟩:=sF hS (CP hS deep) jV hx;obtain ⟨sr,pr,⟨n,h3⟩,G,h4⟩:=wD (f:=f) (z:=st.fz) hS h1 h2 (yj hS (D0 hS deep) jV hx) (fun c hc=>Cw.XM f c hc) hg;exact uA hl h hw ⟨n,by rw [eA,h.fz];simp only [u6,h3];rfl⟩ G h4
  |shr=>exact shr f _ _ jV (fun n=>by rw [eA];rfl) hg
  |fp=>
   dsimp only at hg;cases hx:KU st.az (jA st.az deep) (iT st.env args) with
   |false=>rw [hx] at hg;cases hg
   |true=>
    rw [hx] at hg;dsimp only at hg;obtain ⟨hz,hg⟩:=cb hg;cases h1:rN (nI (p7 (vz st.az deep) (iT st.env args))) (iT st.env args) with
    |none=>rw [h1] at hg;cases hg
    |some vs=>
     cases h2:Fk st.az (nI (p7 (vz st.az deep) (iT st.env args))) (nI (p7 (vz st.az deep) (iT st.env args))) with
     |none=>rw [h1,h2] at hg;cases hg
     |some s0=>rw [h1,h2] at hg;obtain ⟨sr,pr,⟨n,h3⟩,G,h4⟩:=ML (f:=f) (z:=st.fz) hS jV (by rw [QD hS (D0 hS deep) jV hx]) hz h1 h2 (fun c hc=>Cw.fpc f c hc) hg;exact uA hl h hw ⟨n,by rw [eA,h.fz];simp only [u6,h3];rfl⟩ G h4
 |u4 x args=>
  have jV:=xt hE args;simp only [FN] at hg;have hx:=dd hE x;generalize bE st.env x=v at hg hx;cases v with
  |ed f a b=>
   dsimp only at hg;obtain ⟨pa,pb,hx,ha,hb⟩:=hx;have ajl: ∀{vs:List SV} {q:List PV},RL st.az vs q->(yR vs=agK->q.any C7=agK):=by
    intro vs
    induction vs with
    |nil=>intro q _ h;cases h
    |cons v vs ih=>
     intro q hq hp;obtain ⟨a,as,rfl,h1,h2⟩:=hq.cons_inv;simp only [yR,afC] at hp;simp only [afE,afC];rcases hp with hp|hp
     · left
       cases v with
       |own _ _=>obtain ⟨_,_,rfl,_⟩:=h1;rfl
       |pre _ _ _ _=>obtain ⟨_,rfl,_⟩:=h1;rfl
       |part _ _ _ _ _=>obtain ⟨_,rfl,_⟩:=h1;rfl
       |pa _ _ _ _ _=>obtain ⟨rfl,_⟩:=h1;rfl
       |pb _ _ _=>obtain ⟨_,rfl,_⟩:=h1;rfl
       |bp _ _ _=>rw [show a=_ from h1];rfl
       |mp _=>rw [show a=_ from h1];rfl
       |_=>cases hp
     right;exact ih h2 hp
   cases hp:yR (iT st.env args++b) with
   |true=>rw [hp] at hg;have:=ajl (jV.append hb) hp;exact shr f _ _ ((ha.append jV).append hb) (fun n=>by rw [eA];simp only [u6,hx,this,if_true]) hg
   |false=>
    rw [hp] at hg;simp only [pp] at hg;cases hxx:qI st.az (jA st.az deep) (a++iT st.env args++b) with
    |none=>rw [hxx] at hg;cases hg
    |some vs=>
     rw [hxx] at hg;have hno: ∀{vs u:List SV} {q:List PV},RL st.az vs q->yR vs=agO->qI st.az (jA st.az deep) vs=agy u->q.any C7=agO:=by
      intro vs
      induction vs with
      |nil=>intro u q hq _ _;rw [show q=[] from hq];rfl
      |cons v vs ih=>
       intro u q hq hp hu;obtain ⟨a,as,rfl,h1,h2⟩:=hq.cons_inv;simp only [yR,Bool.or_eq_false_iff] at hp;simp only [qI] at hu;split at hu
       · rename_i y1 y2 e1 e2
         simp only [afE,ih h2 hp.2 e2,Bool.or_false];cases v with
         |agg _|bT _|bw _ _=>obtain ⟨_,rfl,_⟩:=h1;rfl
         |ed _ _ _=>obtain ⟨_,_,rfl,_⟩:=h1;rfl
         |int _ _|bool _|str _|dv|sl _ _|nil _ _|undef|iI=>rw [show a=_ from h1];rfl
         |ga=>cases e1
         |own _ _|pre _ _ _ _|part _ _ _ _ _|pa _ _ _ _ _|pb _ _ _|bp _ _ _|mp _=>cases hp.1
       cases hu
     have Y7: ∃u2,qI st.az (jA st.az deep) (iT st.env args++b)=agy u2:=by
      have: ∀(l:List SV) {m u:List SV},qI st.az (jA st.az deep) (l++m)=agy u-> ∃u2,qI st.az (jA st.az deep) m=agy u2:=by
       intro l
       induction l with
       |nil=>intro m u h;exact ⟨u,h⟩
       |cons x l ih=>
        intro m u h;simp only [aew,qI] at h;split at h
        · rename_i e1 e2;exact ih e2
        cases h
      rw [ad3] at hxx;exact this a hxx
     obtain ⟨u2,hu2⟩:=Y7;have ajm:=hno (jV.append hb) hp hu2;have p4:=(ha.append jV).append hb;obtain ⟨q,h1,h2⟩:=sF hS (CP hS deep) p4 hxx;obtain ⟨sr,pr,⟨n,h3⟩,G,h4⟩:=wD (f:=f) (z:=st.fz) hS h1 h2 (yj hS (D0 hS deep) p4 hxx) (fun c hc=>Cw.XM f c hc) hg;exact uA hl h hw ⟨n,by rw [eA,h.fz];simp only [u6,hx,ajm,UV,if_false,h3];rfl⟩ G h4
  |_=>cases hg
 |_=>exact loc (k':=fun r=>Mx o.dst st tr k (.loc r)) (by rw [eA];exact hg) (by rw [eA];rfl) (fun _=>rfl)
theorem uB (Cw:lL F cx) (G':I3 F inl): ∀(ops:List bD) {st:nO} {p:St} {tr:List Tr} {k:nO->List Tr->fE R'} {ρ:Type} {w:R'->ρ} {y:ρ} {Q:R'->St->List Tr->Prop},
 ajk F k Q->xq st p->nP cx inl ops st tr k ρ w=agy y-> ∃r,y=w r/\WO F ops p tr (Q r)
 | [],st,p,tr,k,ρ,w,y,Q,hk,h,he=>by obtain ⟨r,hr,hq⟩:=hk st p tr ρ w y h he;exact ⟨r,hr,WO.nil hq⟩
 |o::l,st,p,tr,k,ρ,w,y,Q,hk,h,he=>by
  have hl: ∀st p tr ρ (w:R'->ρ) y,xq st p->nP cx inl l st tr k ρ w=agy y-> ∃r,y=w r/\WO F l p tr (Q r):=fun st p tr ρ w y h he=>uB Cw G' l hk h he
  have Of: ∀{st:nO} {c:Nat} {v:SV},xq st p->R st.az v (lk c p.env)->xq {st with env:=yN c v st.env} p:=fun h hv=>⟨h.env.yN hv,h.az,h.fz,h.kn⟩
  have Y8: ∀{st:nO},xq st p->wanted o.guard p.env=agy agK->(match o.op with
   | .pick (.t c) a b=>match BZ c st.env with
    | .bool x=>fa x (Mx o.dst {st with env:=yN c (.bool agK) st.env} tr (nP cx inl l · · k) (.loc {v:=bE st.env a}))
     (Mx o.dst {st with env:=yN c (.bool agO) st.env} tr (nP cx inl l · · k) (.loc {v:=bE st.env b}))
    |_=>aO
   |op=>FN cx inl st.env st.az st.fz op (Mx o.dst st tr (nP cx inl l · · k))) ρ w=agy y-> ∃r,y=w r/\WO F (o::l) p tr (Q r):=by
   intro st h hw he;have plain:FN cx inl st.env st.az st.fz o.op (Mx o.dst st tr (nP cx inl l · · k)) ρ w=agy y-> ∃r,y=w r/\WO F (o::l) p tr (Q r):=fun he=>I5 Cw G' hl h hw he
   generalize eA:o.op=op at he;cases op with
   |pick c a b=>
    cases c with
    |c v=>exact plain (by rw [eA];exact he)
    |t c=>
     dsimp only at he;generalize hv:BZ c st.env=v at he;cases v with
     |bool x=>
      have hx:lk c p.env= .bool x:=by have:=h.env.lk c;rw [hv] at this;exact this
      rcases ew he with ⟨rfl,he⟩|⟨rfl,he⟩
      · have hR:=Of h (c:=c) (v:= .bool agK) hx
        exact uA (o:=o) hl hR hw ⟨0,by rw [eA];simp only [u6,bq,eL.ev,hx];rfl⟩ (Good.val hR.az (dd h.env a)) he
      have hR:=Of h (c:=c) (v:= .bool agO) hx
      exact uA (o:=o) hl hR hw ⟨0,by rw [eA];simp only [u6,bq,eL.ev,hx];rfl⟩ (Good.val hR.az (dd h.env b)) he
     |_=>cases he
   |_=>exact plain (by rw [eA];exact he)
  have QM: ∀{st:nO},xq st p->wanted o.guard p.env=agy agO->nP cx inl l {st with env:=G0 o.dst .iI st.env} (Tr.idle::tr) k ρ w=agy y-> ∃r,y=w r/\WO F (o::l) p tr (Q r):=by
   intro st h hw he;have hR:xq {st with env:=G0 o.dst .iI st.env} {p with env:=gW o.dst .iI p.env}:=by
    refine ⟨?_,h.az,h.fz,h.kn⟩;cases o.dst with
    |none=>exact h.env
    |some t=>exact ⟨.iI,p.env,rfl,rfl,h.env⟩
   obtain ⟨r,hr,TI⟩:=hl _ _ _ _ _ _ hR he;exact ⟨r,hr,WO.skip hw TI⟩
  simp only [nP] at he;cases hgd:o.guard with
  |none=>rw [hgd] at he;exact Y8 h (by rw [hgd];rfl) he
  |some g=>
   obtain ⟨c,want⟩:=g;rw [hgd] at he;dsimp only at he;generalize hv:BZ c st.env=v at he;cases v with
   |bool x=>
    have hx:lk c p.env= .bool x:=by have:=h.env.lk c;rw [hv] at this;exact this
    have hwx: ∀b,x=b->wanted o.guard p.env=agy (b==want):=fun b hb=>by rw [hgd];simp only [wanted,hx,hb]
    cases want with
    |true=>
     simp only [lw] at he;rcases ew he with ⟨rfl,he⟩|⟨rfl,he⟩
     · exact Y8 (Of h (v:= .bool agK) hx) (hwx agK rfl) he
     exact QM (Of h (v:= .bool agO) hx) (hwx agO rfl) he
    |false=>
     simp only [pp] at he;rcases ew he with ⟨rfl,he⟩|⟨rfl,he⟩
     · exact QM (Of h (v:= .bool agK) hx) (hwx agK rfl) he
     exact Y8 (Of h (v:= .bool agO) hx) (hwx agO rfl) he
   |iI=>
    have hx:lk c p.env= .iI:=by have:=h.env.lk c;rw [hv] at this;exact this
    exact QM h (by rw [hgd];simp only [wanted,hx]) he
   |_=>cases he
theorem D9 {e:SE}: ∀{fc:List Nat} {k:SE->fE R'} {ρ:Type} {w:R'->ρ} {y:ρ},IN e fc k ρ w=agy y->k (fc.map fun s=>(s,BZ s e)) ρ w=agy y
 | [],k,ρ,w,y,h=>h
 |s::r,k,ρ,w,y,h=>by simp only [IN] at h;rw [GW] at h;have:=D9 h;exact this
theorem QN {s:List SB} {e:SE} {pe:Env} (h:dw s e pe): ∀(fc:List Nat),dw s (fc.map fun t=>(t,BZ t e)) (fc.map fun t=>(t,lk t pe))
 | []=>rfl
 |t::r=>⟨_,_,rfl,h.lk t,QN h r⟩
end
mutual
theorem F2: ∀(v:SV) (q:List vD),ru v (Be v++q)=(v,q)
 | .ga,q| .undef,q| .iI,q| .dv,q| .int _ _,q| .bool _,q| .str _,q| .sl _ _,q| .nil _ _,q| .own _ _,q| .pre _ _ _ _,q| .part _ _ _ _ _,q| .pa _ _ _ _ _,q| .pb _ _ _,q| .bp _ _ _,q| .mp _,q=>rfl
 | .agg cs,q=>by simp only [ru,Be,qw]
 | .bT cs,q=>by simp only [ru,Be,qw]
 | .bw cs o,q=>by simp only [ru,Be,qw]
 | .ed f a b,q=>by simp only [ru,Be,ad3,qw]
theorem qw: ∀(v:List SV) (q:List vD),p9 v (Bg v++q)=(v,q)
 | [],q=>rfl
 |x::xs,q=>by simp only [p9,Bg,ad3,F2,qw]
end
theorem F3: ∀(v:List SB) (q:List vD),yQ v (GZ v++q)=(v,q)
 | [],q=>rfl
 |x::xs,q=>by
  have: ∀q,KZ x (Qc x++q)=(x,q):=by intro q;cases x<;>first|rfl|simp only [KZ,Qc,qw]
  simp only [yQ,GZ,ad3,this,F3]
theorem F4: ∀(v:SE) (q:List vD),IL v (N3 v++q)=(v,q)
 | [],q=>rfl
 |(t,x)::xs,q=>by simp only [IL,N3,ad3,F2,F4]
theorem Lg (st:nO):ti st (mM st)=st:=by have hs:=F3 st.az [];rw [ad4] at hs;simp only [ti,mM,F4,hs]
theorem XZ {β:Type 1}: ∀(l:List PT) (c:List PT->β),rK l c=c l
 | [],_=>rfl
 |p::r,c=>by cases p<;>simp only [rK,ptK,XZ r]
theorem Lh {β:Type 1}: ∀(l:List AK) (c:List AK->β),Tj l c=c l
 | [],_=>rfl
 |a::r,c=>by cases a<;>simp only [Tj,XZ,Lh r]
theorem X0 {s:List SB} {o:SE}: ∀{e:SE} {pe:Env},dw s e pe->dw s (YR o e) pe
 | [],_,h=>h
 |(t,v)::r,_,⟨p,q,h1,h2,h3⟩=>⟨p,q,h1,by cases BZ t o<;>first|exact h2|trivial,X0 h3⟩
theorem Og {cx:Ctx} {inl:Tm} (Cw:lL F cx) (G':I3 F inl): ∀(c:iF) (R':Type) {st:nO} {p:St} {k:gg->nO->fE R'} {ρ:Type} {w:R'->ρ} {y:ρ} {Q:R'->gg->St->Prop},
 (∀e st p ρ (w:R'->ρ) y,xq st p->k e st ρ w=agy y-> ∃r,y=w r/\Q r e p)->xq st p->wz cx inl c R' st k ρ w=agy y-> ∃r,y=w r/\WP F c p (Q r):=by
 intro c
 induction c with
 |skip=>intro R' st p k ρ w y Q hk h he;obtain ⟨r,hr,hq⟩:=hk _ _ _ _ _ _ h he;exact ⟨r,hr,WP.skip hq⟩
 |ret=>intro R' st p k ρ w y Q hk h he;obtain ⟨r,hr,hq⟩:=hk _ _ _ _ _ _ h he;exact ⟨r,hr,WP.ret hq⟩
 |exit id=>intro R' st p k ρ w y Q hk h he;obtain ⟨r,hr,hq⟩:=hk _ _ _ _ _ _ h he;exact ⟨r,hr,WP.exit hq⟩
 |region d ops fc=>
  intro R' st p k ρ w y Q hk h he;simp only [wz] at he;have fin: ∀st p ρ (w:R'->ρ) y,xq st p->IN st.env fc (fun e=>k .normal {st with env:=e}) ρ w=agy y-> ∃r,y=w r/\Q r .normal (oT fc p):=by intro st p ρ w y h he;have:=D9 he;have hR:xq {st with env:=fc.map fun t=>(t,BZ t st.env)} (oT fc p):=⟨QN h.env fc,h.az,h.fz,h.kn⟩;exact hk _ _ _ _ _ _ hR this
  cases d with
  |none=>obtain ⟨r,hr,TI⟩:=uB Cw G' ops (Q:=fun r s _=>Q r .normal (oT fc s)) (fun st p tr ρ w y h he=>fin st p ρ w y h he) h he;exact ⟨r,hr,WP.region TI⟩
  |some bf=>
   obtain ⟨r,hr,TI⟩:=uB Cw G' ops (Q:=fun r s t=>pY 0 (t.reverse.zip bf)=agK/\Q r .normal (oT fc s)) (fun st p tr ρ w y h he=>by
    dsimp only at he;cases ho:pY 0 (tr.reverse.zip bf) with
    |false=>rw [ho] at he;cases he
    |true=>rw [ho] at he;obtain ⟨r,hr,hq⟩:=fin st p ρ w y h he;exact ⟨r,hr,ho,hq⟩) h he
   exact ⟨r,hr,WP.SI TI⟩
 |seq a b Xg SG=>
  intro R' st p k ρ w y Q hk h he;simp only [wz] at he;cases hj:cx.jn&&jnC a with
  |false=>
   rw [hj] at he;obtain ⟨r,hr,Ha⟩:=Xg R' (Q:=fun r=>andThen (fun s=>WP F b s (Q r)) (Q r)) (fun e st p ρ w y h he=>by
    cases e with
    |normal=>exact SG R' hk h he
    |exit i=>exact hk _ _ _ _ _ _ h he
    |ret=>exact hk _ _ _ _ _ _ h he) h he
   exact ⟨r,hr,WP.seq Ha⟩
  |true=>
   rw [hj] at he;dsimp only at he;rw [Lh] at he;generalize Qd (mM (N4 st.env (jnK a) st))=ks at he;generalize N4 st.env (jnK a) st=s1 at he;cases hp:ke ks (mM s1) with
   |none=>rw [hp] at he;cases he
   |some y0=>
    rw [hp] at he;dsimp only at he;obtain ⟨n,D'⟩:=IG he;clear he;have body: ∀zr,wz cx inl a (Step (Bool×gj ks) ρ) st (fun e st2=>match e with
     | .normal=>bif yP s1 {st2 with env:=YR st.env st2.env} then (match ke ks (mM {st2 with env:=YR st.env st2.env}) with
      |some y'=>B0 (.next (agO,y'))
      |none=>aO) else aO
     |e=>fun vE w'=>k e st2 vE fun r=>w' (.done (w r))) (Step (Bool×gj ks) ρ) (fun z=>z)=agy zr->
     WP F a p (fun e s=>match zr with
      | .next y'=>e= .normal/\y'.1=agO/\xq (ti s1 (jX ks y'.2)) s
      | .done x=>e≠ .normal/\ ∃r,x=w r/\Q r e s):=by
     intro zr jz;obtain ⟨zr',Ki,Ha⟩:=Xg (Step (Bool×gj ks) ρ) (Q:=fun zr e s=>match zr with
      | .next y'=>e= .normal/\y'.1=agO/\xq (ti s1 (jX ks y'.2)) s
      | .done x=>e≠ .normal/\ ∃r,x=w r/\Q r e s) (fun e st2 p2 vE w' y2 h2 vC=>by
      cases e with
      |normal=>
       dsimp only at vC;obtain ⟨sC,vC⟩:=cb vC;cases TJ:ke ks (mM {st2 with env:=YR st.env st2.env}) with
       |none=>rw [TJ] at vC;cases vC
       |some y3=>rw [TJ] at vC;injection vC with vC;refine ⟨.next (agO,y3),vC.symm,rfl,rfl,?_⟩;dsimp only;rw [nS TJ,FX sC];exact ⟨X0 h2.env,h2.az,h2.fz,h2.kn⟩
      |exit i=>obtain ⟨r,hr,hq⟩:=hk _ _ _ _ _ _ h2 vC;exact ⟨.done (w r),hr,(by intro e;cases e),r,rfl,hq⟩
      |ret=>obtain ⟨r,hr,hq⟩:=hk _ _ _ _ _ _ h2 vC;exact ⟨.done (w r),hr,(by intro e;cases e),r,rfl,hq⟩) h jz
     subst Ki;exact Ha
    cases n with
    |zero=>cases D'
    |succ n=>
     simp only [mK,fa,lw] at D';split at D'
     · rename_i y' jz
       obtain ⟨m,e,s,bG,rfl,hy,Y9⟩:=body _ jz;obtain ⟨y1,y2⟩:=y';dsimp only at hy Y9;subst hy;cases n with
       |zero=>cases D'
       |succ n=>
        simp only [mK,fa,pp] at D';split at D'
        · rename_i y' Sz
          obtain ⟨r,hr,_⟩:=SG R' hk Y9 Sz;cases hr
        · rename_i x Sz
          obtain ⟨r,hr,Ha⟩:=SG R' hk Y9 Sz;injection D' with D';injection hr with hr;exact ⟨r,by rw [<- D'];exact hr,WP.seq ⟨m,.normal,s,bG,Ha⟩⟩
        cases D'
     · rename_i x jz
       injection D' with D';obtain ⟨m,e,s,bG,dC,r,hr,hq⟩:=body _ jz;refine ⟨r,by rw [<- D'];exact hr,WP.seq ⟨m,e,s,bG,?_⟩⟩;cases e with
       |normal=>exact absurd rfl dC
       |exit i=>exact hq
       |ret=>exact hq
     cases D'
 |cond c a b Xg SG=>
  intro R' st p k ρ w y Q hk h he;simp only [wz] at he;have hx:=dd h.env c;generalize bE st.env c=v at he hx;cases v with
  |bool x=>
   rcases ew he with ⟨rfl,he⟩|⟨rfl,he⟩
   · obtain ⟨r,hr,Ha⟩:=Xg R' hk h he
     exact ⟨r,hr,WP.Xh hx Ha⟩
   obtain ⟨r,hr,Ha⟩:=SG R' hk h he
   exact ⟨r,hr,WP.Xi hx Ha⟩
  |_=>cases he
 |block id b ih=>
  intro R' st p k ρ w y Q hk h he;simp only [wz] at he;obtain ⟨r,hr,Ha⟩:=ih R' (Q:=fun r=>inBlock id (Q r)) (fun e st p ρ w y h he=>by
   cases e with
   |normal=>exact hk _ _ _ _ _ _ h he
   |ret=>exact hk _ _ _ _ _ _ h he
   |exit j=>
    dsimp only at he;cases hj:PP j id with
    |true=>rw [hj] at he;obtain ⟨r,hr,hq⟩:=hk _ _ _ _ _ _ h he;have S3:=ut hj;exact ⟨r,hr,by simpa [inBlock,S3] using hq⟩
    |false=>
     rw [hj] at he;obtain ⟨r,hr,hq⟩:=hk _ _ _ _ _ _ h he;have:j≠id:=by intro e;subst e;simp at hj
     exact ⟨r,hr,by simpa [inBlock,this] using hq⟩) h he
  exact ⟨r,hr,WP.block Ha⟩
 |loop live b ih=>
  intro R' st p k ρ w y Q hk h he;simp only [wz] at he;cases hn:DN cx.rk live st with
  |none=>rw [hn] at he;cases he
  |some st1=>
   rw [hn] at he;dsimp only at he;rw [Lh] at he;generalize Qd (mM st1)=ks at he;cases hp:ke ks (mM st1) with
   |none=>rw [hp] at he;cases he
   |some y0=>
    rw [hp] at he;dsimp only at he;obtain ⟨p1,Xk,hR1⟩:=MH h hn;have afD: ∀(K1:nO) (y':gj ks),yP st1 K1=agK->ke ks (mM K1)=agy y'->ti st1 (jX ks y')=K1:=fun K1 y' h1 h2=>by rw [nS h2,FX h1]
    obtain ⟨n,D'⟩:=IG he;have h0:xq (ti st1 (jX ks y0)) p1:=by rw [nS hp,Lg];exact hR1
    clear he hp hn h hR1
    induction n generalizing y0 p p1 with
    |zero=>cases D'
    |succ n ihn=>
     have body: ∀zr,wz cx inl b (Step (gj ks) ρ) (ti st1 (jX ks y0)) (fun e st2=>match e with
      | .normal=>match DN cx.rk live st2 with
       |some K1=>bif yP st1 K1 then (match ke ks (mM K1) with
        |some y'=>B0 (.next y')
        |none=>aO) else aO
       |none=>aO
      |e=>fun vE w'=>k e st2 vE fun r=>w' (.done (w r))) (Step (gj ks) ρ) (fun z=>z)=agy zr->
      WP F b p1 (fun e s=>match zr with
       | .next y'=>e= .normal/\ ∃p3,norm live s=agy p3/\xq (ti st1 (jX ks y')) p3
       | .done x=>e≠ .normal/\ ∃r,x=w r/\Q r e s):=by
      intro zr jz;obtain ⟨zr',Ki,Ha⟩:=ih (Step (gj ks) ρ) (Q:=fun zr e s=>match zr with
       | .next y'=>e= .normal/\ ∃p3,norm live s=agy p3/\xq (ti st1 (jX ks y')) p3
       | .done x=>e≠ .normal/\ ∃r,x=w r/\Q r e s) (fun e st2 p2 vE w' y2 h2 vC=>by
       cases e with
       |normal=>
        dsimp only at vC;cases TK:DN cx.rk live st2 with
        |none=>rw [TK] at vC;cases vC
        |some K1=>
         rw [TK] at vC;obtain ⟨sC,vC⟩:=cb vC;cases TJ:ke ks (mM K1) with
         |none=>rw [TJ] at vC;cases vC
         |some y3=>rw [TJ] at vC;injection vC with vC;obtain ⟨p3,ajn,Y9⟩:=MH h2 TK;exact ⟨.next y3,vC.symm,rfl,p3,ajn,by rw [afD K1 y3 sC TJ];exact Y9⟩
       |exit i=>obtain ⟨r,hr,hq⟩:=hk _ _ _ _ _ _ h2 vC;exact ⟨.done (w r),hr,(by intro e;cases e),r,rfl,hq⟩
       |ret=>obtain ⟨r,hr,hq⟩:=hk _ _ _ _ _ _ h2 vC;exact ⟨.done (w r),hr,(by intro e;cases e),r,rfl,hq⟩) h0 jz
      subst Ki;exact Ha
     simp only [mK] at D';split at D'
     · rename_i y' jz
       obtain ⟨m,e,s,bG,rfl,p3,TJ,Y9⟩:=body _ jz;obtain ⟨r,hr,Ha⟩:=ihn y' p3 TJ D' Y9;exact ⟨r,hr,WP.again Xk ⟨m,.normal,s,bG,Ha⟩⟩
     · rename_i x jz
       injection D' with D';obtain ⟨m,e,s,bG,dC,r,hr,hq⟩:=body _ jz;refine ⟨r,by rw [<- D'];exact hr,WP.again Xk ⟨m,e,s,bG,?_⟩⟩;cases e with
       |normal=>exact absurd rfl dC
       |exit i=>exact hq
       |ret=>exact hq
     cases D'
end
end Go.Vm
/- Contracts from the typed machine. -/
namespace Go.Vm
section
variable {F : jM} {cx : Ctx} {inl : Tm}
theorem I6 {s:List SB}: ∀{l:List SV} {q:List PV} (i:Nat),RL s l q->dw s (K3 i l) (s4 i q)
 | [],q,i,h=>by rw [show q=[] from h];rfl
 |x::xs,q,i,h=>by obtain ⟨a,as,rfl,h1,h2⟩:=h.cons_inv;exact ⟨a,s4 (i+1) as,rfl,h1,I6 (i+1) h2⟩
theorem QO {st:nO} {p:St} (h:xq st p) {r:RV} {v:SV} (hr:K2 st r=agy v): ∃q,C9 p r=agy q/\R st.az v q:=by
 cases r with
 |tmp t=>injection hr with hr;subst hr;exact ⟨_,rfl,h.env.lk t⟩
 |cell t agg=>
  simp only [K2] at hr;have sC:=h.env.lk t;split at hr
  · rename_i u n off hv
    rw [hv] at sC;rw [bM] at hr;split at hr
    · rename_i cs bK
      obtain ⟨q,h1,h2⟩:=h.az.box bK;obtain ⟨x,h3,h4⟩:=rP h2 hr;refine ⟨x,?_,h4⟩;simp only [C9,show lk t p.env=_ from sC,nH,h1,ad8,if_true,h3];rfl
    cases hr
  · rename_i cs off hv
    rw [hv] at sC;obtain ⟨q,h1,h2⟩:=sC;obtain ⟨x,h3,h4⟩:=rP h2 hr;refine ⟨x,?_,h4⟩;simp only [C9,h1,nH,h3];rfl
  cases hr
theorem F5 {st:nO} {p:St} (h:xq st p): ∀{l:List RV} {vs:List SV},xp st l=agy vs-> ∃q,mE p l=agy q/\RL st.az vs q
 | [],vs,hr=>by injection hr with hr;subst hr;exact ⟨[],rfl,rfl⟩
 |r::l,vs,hr=>by
  simp only [xp] at hr;split at hr
  · rename_i v Kh h1 h2
    injection hr with hr;subst hr;obtain ⟨q,h3,h4⟩:=QO h h1;obtain ⟨qs,h5,h6⟩:=F5 h h2;exact ⟨q::qs,by simp only [mE,h3,h5],RL.cons h4 h6⟩
  cases hr
theorem I7 {s:List SB} {vs:List SV} {q:List PV} (h:RL s vs q):R s (Bh vs) (results1 q):=by
 match vs,q,h with
 | [],q,h=>rw [show q=[] from h];exact ⟨[],rfl,rfl⟩
 | [v],q,h=>obtain ⟨a,as,rfl,h1,h2⟩:=h.cons_inv;rw [show as=[] from h2];exact h1
 |v::u::r,q,h=>have p4:=h;obtain ⟨a,as,rfl,h1,h2⟩:=h.cons_inv;obtain ⟨b,bs,rfl,h3,h4⟩:=h2.cons_inv;exact ⟨_,rfl,p4⟩
theorem wE (Cw:lL F cx) (G':I3 F inl) {f:FuncId} {x:aL} (hf:F f=agy (.code x)) {R':Type} {args:List SV} {s:List SB} {z:List Nat} {k:SV->List SB->List Nat->fE R'} {ρ:Type} {w:R'->ρ} {y:ρ} {pa:List PV} {ps:bS}
 {Q:R'->PV->bS->List Nat->Prop} (ha:RL s args pa) (hS:bX s ps) (he:IP cx inl x R' args s z k ρ w=agy y)
 (hk: ∀v s' z' p vF vE (w':R'->vE) y',R s' v p->bX s' vF->k v s' z' vE w'=agy y'-> ∃r,y'=w' r/\Q r p vF z'): ∃r,y=w r/\yx F f pa ps z (fun p vF z'=>Q r p vF z'):=by
 unfold IP at he;obtain ⟨hn,he⟩:=cb he;have fin: ∀st p vE (w':R'->vE) y',xq st p->(match xp st x.res with
  |some vs=>k (Bh vs) st.az st.fz
  |none=>aO) vE w'=agy y'-> ∃r,y'=w' r/\ ∃vs,mE p x.res=agy vs/\Q r (results1 vs) p.az p.fz:=by
  intro st p vE w' y' h he;cases hr:xp st x.res with
  |none=>rw [hr] at he;cases he
  |some vs=>rw [hr] at he;obtain ⟨q,h1,h2⟩:=F5 h hr;obtain ⟨r,h3,h4⟩:=hk _ _ _ _ _ _ _ _ (I7 h2) h.az he;exact ⟨r,h3,q,h1,by rw [h.fz];exact h4⟩
 obtain ⟨r,hr,Ha⟩:=Og Cw G' x.code R' (Q:=fun r=>Gw x fun p vF z'=>Q r p vF z') (p:={env:=s4 0 pa,az:=ps,fz:=z,kn:=ags ps}) (fun e st p vE w' y' h he=>by
  cases e with
  |normal=>exact fin st p vE w' y' h he
  |ret=>exact fin st p vE w' y' h he
  |exit i=>cases he) ⟨I6 0 ha,hS,rfl,hS.len⟩ he
 exact ⟨r,hr,yx.of hf (by rw [ha.lG];exact hn) Ha⟩
theorem Hb {α:Type} {l m r:List α} {i:Int} (h:GU l i m=agy r):0<=i/\i.toNat<=ags l/\ags m=1/\ags l+1<=1048576/\r=l.take i.toNat++m++l.drop i.toNat:=by
 unfold GU at h;split at h
 · rename_i hc
   injection h with h;exact ⟨hc.1,hc.2.1,hc.2.2.1,hc.2.2.2,h.symm⟩
 cases h
theorem Oh {e:Nat} {args:List SV} {s:List SB} {z:List Nat} {a:afm} (h:Tn e args s z=agy a):
 ∃x u x2 m,args=[.own a.t x,.int .i64 a.i,.own u x2]/\nth s a.t=agy (.arr a.r a.l)/\nth s u=agy (.arr a.r m)/\a.m=m/\ags a.r=e/\PP a.t u=agO/\has z a.t=agO:=by
 unfold Tn at h;split at h
 case h_2=>cases h
 split at h
 case h_2=>cases h
 split at h
 case h_2=>cases h
 split at h
 case h_2=>cases h
 rename_i m' hm;cases hc:(PP _ e&&_&&_) with
 |false=>rw [hc] at h;cases h
 |true=>rw [hc] at h;injection h with h;subst h;simp only [v6,aem,ad1] at hc;obtain ⟨rfl,rfl⟩:=nQ hm;exact ⟨_,_,_,_,rfl,by assumption,by assumption,rfl,hc.1.1,hc.1.2,hc.2⟩
theorem Li {e:Nat} {f:FuncId} (hf:F f=agy (.Nl (O8 e))) {R':Type} {args:List SV} {s:List SB} {z:List Nat} {k:SV->List SB->List Nat->fE R'} {ρ:Type} {w:R'->ρ} {y:ρ} {pa:List PV} {ps:bS}
 {Q:R'->PV->bS->List Nat->Prop} (ha:RL s args pa) (hS:bX s ps) (he:YS e args s z k ρ w=agy y)
 (hk: ∀v s' z' p vF vE (w':R'->vE) y',R s' v p->bX s' vF->k v s' z' vE w'=agy y'-> ∃r,y'=w' r/\Q r p vF z'): ∃r,y=w r/\yx F f pa ps z (fun p vF z'=>Q r p vF z'):=by
 unfold YS at he;cases hA:Tn e args s z with
 |none=>rw [hA] at he;cases he
 |some a=>
 rw [hA] at he;dsimp only at he;obtain ⟨l',hl,he⟩:=b7 he;obtain ⟨x,u,x2,m0,rfl,ht,hu,hm,Ss,htu,hz⟩:=Oh hA;obtain ⟨t,q,l,i,m⟩:=a;dsimp only at*;subst hm Ss;obtain ⟨i0,il,m1,jZ,rfl⟩:=Hb hl;obtain ⟨p0,pr0,rfl,h0,ha⟩:=ha;obtain ⟨p1,pr1,rfl,h1,ha⟩:=ha;obtain ⟨p2,pr2,rfl,h2,ha⟩:=ha;obtain rfl:pr2=[]:=ha;obtain rfl:p1= .int .i64 i:=h1;have Mk:s[t]? =agy (.arr q l):=by rw [<- bM];exact ht
 have AN:s[u]? =agy (.arr q m):=by rw [<- bM];exact hu
 obtain ⟨e0,n0,rfl,o0⟩:=h0;obtain ⟨e2,n2,rfl,o2⟩:=h2;obtain ⟨rfl,rfl⟩:e0=ags q/\n0=(ags l):=by
  rcases o0 with ⟨r1,l1,a,b,c⟩|a
  · rw [Mk] at a;injection a with a;injection a with a1 a2;subst a1;subst a2;exact ⟨b,c⟩
  rw [Mk] at a;cases a
 obtain ⟨rfl,rfl⟩:e2=ags q/\n2=(ags m):=by
  rcases o2 with ⟨r1,l1,a,b,c⟩|a
  · rw [AN] at a;injection a with a;injection a with a1 a2;subst a1;subst a2;exact ⟨b,c⟩
  rw [AN] at a;cases a
 obtain ⟨b1,zo,Hc⟩:=hS.at_ t _ Mk;obtain ⟨b2,Sz,Y'⟩:=hS.at_ u _ AN;have Hc:b1= .arr (ags q) (l.map (RT.pv q)):=Hc;have Y':b2= .arr (ags q) (m.map (RT.pv q)):=Y';subst Hc Y';have bU:(AO [t] (s.set t .dead)).length=(ags s):=by rw [uj];simp
 obtain ⟨L,hL⟩: ∃L,L=l.take i.toNat++m++l.drop i.toNat:=⟨_,rfl⟩;rw [<- hL] at he;have G:=Good.put hS (b:= .dead) (q:= .dead) (l:=[.arr q L]) (ql:=[.arr (ags q) (L.map (RT.pv q))]) (v:= .own (ags s) agO)
  (p:= .own (ags s) (ags q) 0 (ags L) (ags L) agO) (rd:=[]) Mk (.inr rfl) rfl rfl
  (fun j b hj=>by
   cases j with
   |zero=>simp at hj;subst hj;exact ⟨_,rfl,rfl⟩
   |succ j=>simp at hj)
  ⟨ags q,ags L,rfl,.inl ⟨q,L,by rw [<- bU];exact k9,rfl,rfl⟩⟩
 have yD:(ags L)=ags l+1:=by rw [hL];simp only [aen,ads,afd,m1];omega
 obtain ⟨rr,hr,hq⟩:=hk _ _ _ _ _ _ _ _ G.v G.az he;refine ⟨rr,hr,1,_,_,_,?_,hq⟩;rw [jw];have j8:NE (ags l+1) kI=agK:=by simp [kI];omega
 have NM:NE i.toNat (ags l)=agK:=by simpa using il
 have hLm:L.map (RT.pv q)=(l.map (RT.pv q)).take i.toNat++m.map (RT.pv q)++(l.map (RT.pv q)).drop i.toNat:=by rw [hL,adG,adG,adu,ae6]
 simp [step,hf,O8,zo,Sz,m1,htu,hz,i0,j8,il,yD,hS.len,fv,HW,hLm]
theorem Oi {α:Type} {l m r:List α} (h:YL l m=agy r):1<=ags l+ags m/\ags l+ags m<=1048576/\r=l++m:=by
 unfold YL at h;split at h
 · rename_i hc
   injection h with h;exact ⟨hc.1,hc.2,h.symm⟩
 cases h
theorem Oj {args:List SV} {s:List SB} {z:List Nat} {a:afn} (h:To args s z=agy a):
 ∃cap x m,args=[.part a.t 0 2 cap x]/\nth s a.t=agy (.box [.sl a.r a.l,.sl a.r m])/\a.m=m/\ags a.r=1/\has z a.t=agO:=by
 unfold To at h;split at h
 case h_2=>cases h
 split at h
 case h_2=>cases h
 split at h
 case h_2=>cases h
 rename_i m' hm;cases hc:(PP _ 1&&PP _ 0&&PP _ 2&&_) with
 |false=>rw [hc] at h;cases h
 |true=>rw [hc] at h;injection h with h;subst h;simp only [v6,aem,ad1] at hc;obtain ⟨rfl,rfl⟩:=nQ hm;obtain ⟨⟨⟨h1,rfl⟩,rfl⟩,h2⟩:=hc;exact ⟨_,_,_,rfl,by assumption,rfl,h1,h2⟩
theorem F6 {r:List PT} (h:(ags r)=1) (l:List (RT r)):AT (l.map (RT.pv r))=agK:=by
 unfold AT;rw [adA];intro x hx;obtain ⟨a,_,rfl⟩:=aeV.1 hx
 match r,h with
 | [p],_=>show (PP [p.pv a].length 1&&[p.pv a].all PV.plain)=agK;cases p<;>rfl
theorem Lj {f:FuncId} (hf:F f=agy (.Nl Yc)) {R':Type} {args:List SV} {s:List SB} {z:List Nat} {k:SV->List SB->List Nat->fE R'} {ρ:Type} {w:R'->ρ} {y:ρ} {pa:List PV} {ps:bS}
 {Q:R'->PV->bS->List Nat->Prop} (ha:RL s args pa) (hS:bX s ps) (he:YT args s z k ρ w=agy y)
 (hk: ∀v s' z' p vF vE (w':R'->vE) y',R s' v p->bX s' vF->k v s' z' vE w'=agy y'-> ∃r,y'=w' r/\Q r p vF z'): ∃r,y=w r/\yx F f pa ps z (fun p vF z'=>Q r p vF z'):=by
 unfold YT at he;cases hA:To args s z with
 |none=>rw [hA] at he;cases he
 |some a=>
 rw [hA] at he;dsimp only at he;obtain ⟨l',hl,he⟩:=b7 he;obtain ⟨cap,x,m0,rfl,ht,hm,Ss,hz⟩:=Oj hA;obtain ⟨t,q,l,m⟩:=a;dsimp only at*;subst hm;obtain ⟨hp,jZ,rfl⟩:=Oi hl;obtain ⟨p0,pr0,rfl,h0,ha⟩:=ha;obtain rfl:pr0=[]:=ha;have Mk:s[t]? =agy (.box [.sl q l,.sl q m]):=by rw [<- bM];exact ht
 obtain ⟨e0,rfl,o0⟩:=h0;obtain rfl:e0=1:=by
  rcases o0 with ⟨r1,l1,a,b⟩|a|⟨_,a,b⟩
  · rw [Mk] at a;cases a
  · rw [Mk] at a;cases a
  exact b
 obtain ⟨b1,zo,Hc⟩:=hS.at_ t _ Mk;obtain ⟨ps1,rfl,p1,q1,rfl,Xk,p2,q2,rfl,hp2,rfl⟩:=Hc;have Xk:p1= .sl (ags q) agO (l.map (RT.pv q)):=Xk;have hp2:p2= .sl (ags q) agO (m.map (RT.pv q)):=hp2;subst Xk hp2;have bU:(AO [t] (s.set t .dead)).length=(ags s):=by rw [uj];simp
 obtain ⟨L,hL⟩: ∃L,L=l++m:=⟨_,rfl⟩;rw [<- hL] at he;have G:=Good.put hS (b:= .dead) (q:= .dead) (l:=[.arr q L]) (ql:=[.arr (ags q) (L.map (RT.pv q))]) (v:= .own (ags s) agO)
  (p:= .own (ags s) (ags q) 0 (ags L) (ags L) agO) (rd:=[]) Mk (.inr rfl) rfl rfl
  (fun j b hj=>by
   cases j with
   |zero=>simp at hj;subst hj;exact ⟨_,rfl,rfl⟩
   |succ j=>simp at hj)
  ⟨ags q,ags L,rfl,.inl ⟨q,L,by rw [<- bU];exact k9,rfl,rfl⟩⟩
 have yD:(ags L)=ags l+(ags m):=by rw [hL];simp
 obtain ⟨rr,hr,hq⟩:=hk _ _ _ _ _ _ _ _ G.v G.az he;refine ⟨rr,hr,1,_,_,_,?_,hq⟩;rw [jw];have j8:NE (ags l+ags m) kI=agK:=by simp [kI];omega
 have yC:NE 1 (ags l+ags m)=agK:=by simpa using hp
 have hLm:L.map (RT.pv q)=l.map (RT.pv q)++m.map (RT.pv q):=by rw [hL,adG]
 have hc:(PP 1 1&&PP 0 0&&PP 2 2&&!has z t&&AT (l.map (RT.pv q))&&AT (m.map (RT.pv q))&&NE 1 ((l.map (RT.pv q)).length+(m.map (RT.pv q)).length)&&NE ((l.map (RT.pv q)).length+(m.map (RT.pv q)).length) kI&&(PP (ags q) 1||(l.map (RT.pv q)).isEmpty)&&(PP (ags q) 1||(m.map (RT.pv q)).isEmpty))=agK:=by rw [F6 Ss,F6 Ss,hz,ad5,ad5,yC,j8,Ss];rfl
 simp only [step,hf];unfold Yc
 dsimp only;rw [zo];dsimp only;rw [hc];simp [hS.len,fv,HW,hLm,yD,Ss]
theorem I8: ∀(p:PT) (a:p.T),zV p (p.pv a)=agy a
 | .i k,a=>by have:eG k k=agK:=eu.2 rfl;simp [zV,PT.pv,this]
 | .b,a=>rfl
theorem MN: ∀(r:List PT) (a:RT r),Fl r (RT.pv r a)=agy a
 | [],a=>rfl
 | [p],a=>I8 p a
 |p::q::r,a=>by
  show (match zV p (p.pv a.1),Fl (q::r) (RT.pv (q::r) a.2) with
   |some a,agy b=>agy (a,b)
   |_,_=>agB)=_
  rw [I8,MN (q::r)]
theorem Ea (r:List PT): ∀l:List (RT r),zW r (l.map (RT.pv r))=agy l
 | []=>rfl
 |a::l=>by
  show (match Fl r (RT.pv r a),zW r (l.map (RT.pv r)) with
   |some a,agy l=>agy (a::l)
   |_,_=>agB)=_
  rw [MN,Ea r l]
theorem TL {s:List SB} {g:Option FuncId} {a:List SV} {p:List PV} (h:B3 g a=agK) (hr:RL s a p):Tk g p=agK:=by
 unfold B3 at h;split at h
 · obtain rfl:p=[]:=hr
   rfl
 · obtain ⟨p0,pr,rfl,h0,hr⟩:=hr
   obtain rfl:pr=[]:=hr;obtain ⟨x,y,rfl,hx,hy⟩:=h0;obtain rfl:x=[]:=hx;obtain rfl:y=[]:=hy;exact h
 cases h
theorem Ol {r:List PT} {g:Option FuncId} {args:List SV} {s:List SB} {z:List Nat} {t:Nat} {o:Option Nat} {l:List (RT r)} (h:Tp r g args s z=agy (t,o,l)):
 ∃x a,args=x::a/\nth s t=agy (.arr r l)/\has z t=agO/\B3 g a=agK/\((o=agB/\ ∃ex,x= .own t ex)\/ ∃len cap ex,o=agy len/\x= .pre t len cap ex):=by
 unfold Tp at h;split at h
 · split at h
   · split at h
     · rename_i hm
       cases hc:(!has z _&&B3 g _) with
       |false=>rw [hc] at h;cases h
       |true=>rw [hc] at h;simp only [lw,EQ,ad0] at h;obtain ⟨rfl,rfl,rfl⟩:=h;simp only [v6,ad1] at hc;obtain ⟨rfl,rfl⟩:=nQ hm;exact ⟨_,_,rfl,by assumption,hc.1,hc.2,.inl ⟨rfl,_,rfl⟩⟩
     cases h
   cases h
 · split at h
   · split at h
     · rename_i hm
       cases hc:(!has z _&&B3 g _) with
       |false=>rw [hc] at h;cases h
       |true=>rw [hc] at h;simp only [lw,EQ,ad0] at h;obtain ⟨rfl,rfl,rfl⟩:=h;simp only [v6,ad1] at hc;obtain ⟨rfl,rfl⟩:=nQ hm;exact ⟨_,_,rfl,by assumption,hc.1,hc.2,.inr ⟨_,_,_,rfl,rfl⟩⟩
     cases h
   cases h
 cases h
theorem Lk {α:Type} {f:List α->Option (List α)} {l m:List α} (h:DF f l=agy m):(ags l)<=1048576/\f l=agy m/\ags m=(ags l):=by
 unfold DF at h;split at h
 · rename_i hl
   split at h
   · rename_i m' hm
     split at h
     · rename_i he
       injection h with h;subst h;exact ⟨hl,hm,he⟩
     cases h
   cases h
 cases h
theorem Hd {α:Type} {f:List α->Option (List α)} {n:Nat} {l m:List α} (h:GV f n l=agy m):n<=ags l/\ ∃m',DF f (l.take n)=agy m'/\m=m'++l.drop n:=by
 unfold GV at h;split at h
 · rename_i hn
   cases hm:DF f (l.take n) with
   |none=>rw [hm] at h;cases h
   |some m'=>rw [hm] at h;injection h with h;exact ⟨hn,m',rfl,h.symm⟩
 cases h
theorem Ll {q:Srt} {f:FuncId} (hf:F f=agy (.Nl (Qe q))) {R':Type} {args:List SV} {s:List SB} {z:List Nat} {k:SV->List SB->List Nat->fE R'} {ρ:Type} {w:R'->ρ} {y:ρ} {pa:List PV} {ps:bS}
 {Q:R'->PV->bS->List Nat->Prop} (ha:RL s args pa) (hS:bX s ps) (he:YU q args s z k ρ w=agy y)
 (hk: ∀v s' z' p vF vE (w':R'->vE) y',R s' v p->bX s' vF->k v s' z' vE w'=agy y'-> ∃r,y'=w' r/\Q r p vF z'): ∃r,y=w r/\yx F f pa ps z (fun p vF z'=>Q r p vF z'):=by
 have key: ∀(t len:Nat) (l m':List (RT q.r)) (ex:Bool) (cap:Nat) (pr:List PV) (a:List SV),s[t]? =agy (.arr q.r l)->has z t=agO->B3 q.g a=agK->RL s a pr->pa= .own t (ags q.r) 0 len cap ex::pr->len<=ags l->DF q.fn (l.take len)=agy m'->
  k (.bT []) (fh.lZ s {v:= .bT [],wr:=[(t,.arr q.r (m'++l.drop len))]}) z ρ w=agy y-> ∃r,y=w r/\yx F f pa ps z (fun p vF z'=>Q r p vF z'):=by
  intro t len l m' ex cap pr a ht hz hg har Kz bU Cr he;subst Kz;obtain ⟨s1,s2,s3⟩:=Lk Cr;obtain ⟨b1,zo,Hc⟩:=hS.at_ t _ ht;have Hc:b1= .arr (ags q.r) (l.map (RT.pv q.r)):=Hc;subst Hc;have yD:(l.take len).length=len:=by rw [ads];omega
  have xS:(m'++l.drop len).length=(ags l):=by rw [aen,afd,s3,yD];omega
  have G:=Good.put hS (b:= .arr q.r (m'++l.drop len)) (q:= .arr (ags q.r) ((m'++l.drop len).map (RT.pv q.r))) (l:=[]) (ql:=[]) (v:= .bT []) (p:= .bT []) (rd:=[]) ht (.inl ⟨_,rfl,xS⟩) rfl rfl
   (fun j b hj=>by simp at hj) ⟨[],rfl,rfl⟩
  obtain ⟨rr,hr,hq⟩:=hk _ _ _ _ _ _ _ _ G.v G.az he;refine ⟨rr,hr,1,_,_,_,?_,hq⟩;rw [jw];have hg':=TL hg har;have hrt:zW q.r ((l.map (RT.pv q.r)).take len)=agy (l.take len):=by rw [<- adu];exact Ea q.r _
  have NM:NE len (ags l)=agK:=by simpa using bU
  have Yy:NE len kI=agK:=by simp [kI];omega
  have hbe:PP (ags m') (l.take len).length=agK:=by rw [s3];exact ad8 _
  simp only [step,hf,Qe,zo,ad5,ad8,NM,Yy,hz,hg',hrt,s2,hbe,adW,aee,if_true,Option.map_some,fv,HW,adG,ae6]
 unfold YU at he;cases hA:Tp q.r q.g args s z with
 |none=>rw [hA] at he;cases he
 |some u=>
  obtain ⟨t,o,l⟩:=u;rw [hA] at he;obtain ⟨x,a,rfl,ht,hz,hg,h⟩:=Ol hA;obtain ⟨p0,pr,rfl,h0,ha⟩:=ha;rw [bM] at ht;rcases h with ⟨rfl,ex,rfl⟩|⟨len,cap,ex,rfl,rfl⟩
  · obtain ⟨m,hm,he⟩:=b7 he
    obtain ⟨e0,n0,rfl,o0⟩:=h0;obtain ⟨rfl,rfl⟩:e0=ags q.r/\n0=(ags l):=by
     rcases o0 with ⟨r1,l1,a,b,c⟩|a
     · rw [ht] at a;injection a with a;injection a with a1 a2;subst a1;cases a2;exact ⟨b,c⟩
     rw [ht] at a;cases a
    refine key t (ags l) l m ex (ags l) pr a ht hz hg ha rfl (aeB _) (by rw [List.take_length];exact hm) ?_;rw [List.drop_length,ad4];exact he
  obtain ⟨m,hm,he⟩:=b7 he
  obtain ⟨e0,rfl,o0⟩:=h0;obtain rfl:e0=(ags q.r):=by
   rcases o0 with ⟨r1,l1,a,b⟩|a|⟨_,a,_⟩
   · rw [ht] at a;injection a with a;injection a with a1 a2;subst a1;exact b
   · rw [ht] at a;cases a
   rw [ht] at a;cases a
  obtain ⟨hn,m',Cr,rfl⟩:=Hd hm;exact key t len l m' ex cap pr a ht hz hg ha rfl hn Cr he
theorem He (Cw:lL F cx): ∀n,I3 F (Qj cx n)
 |0=>fun f args s z R' k ρ w y pa ps Q _ _ h _=>by cases h
 |n+1=>fun f args s z R' k ρ w y pa ps Q ha hS h hk=>by
  simp only [Qj] at h;cases hx:cx.code f with
  |none=>rw [hx] at h;cases h
  |some x=>
   rw [hx] at h;cases x with
   |code x=>exact wE Cw (He Cw n) (Cw.code f _ hx) ha hS h hk
   |ins e=>exact Li (Cw.code f _ hx) ha hS h hk
   |YO q=>exact Ll (Cw.code f _ hx) ha hS h hk
   |cat=>exact Lj (Cw.code f _ hx) ha hS h hk
def TM:Kd->Bool->Bool
 | .own,b=>b
 |_,b=>!b
def QP (kd:Kd) {β:Type} (res:Arg β) (b:β) (p:PV) (ps:bS) (z:List Nat):Prop:=
 match kd with
 | .pure=>p.iQ=agK/\qc (res.enc b)=agy p
 | .vA=>p.iQ=agO/\ ∃q,vB ps p=agy q/\qc (res.enc b)=agy q
 | .own=> ∀nx,∃p0 p' q seen,xO ps z nx [] p=agy (p',q,seen)/\qc (res.enc b)=agy p0/\Cv nx p0=agy (p',q)
mutual
theorem I9 {s:List SB}: ∀{v:SV} {p:PV},R s v p->yO v=agK->qc v=agy p
 | .int _ _,p,h,_| .bool _,p,h,_| .str _,p,h,_=>by rw [show p=_ from h];rfl
 | .agg cs,p,h,hn=>by obtain ⟨q,rfl,h⟩:=h;simp only [qc,Eb h hn]
 | .bT cs,p,h,hn=>by obtain ⟨q,rfl,h⟩:=h;simp only [qc,Eb h hn]
 | .ga,_,_,h| .undef,_,_,h| .iI,_,_,h| .dv,_,_,h| .sl _ _,_,_,h| .nil _ _,_,_,h| .own _ _,_,_,h| .pre _ _ _ _,_,_,h| .part _ _ _ _ _,_,_,h| .pa _ _ _ _ _,_,_,h| .pb _ _ _,_,_,h| .bp _ _ _,_,_,h| .bw _ _,_,_,h| .ed _ _ _,_,_,h| .mp _,_,_,h=>by cases h
theorem Eb {s:List SB}: ∀{v:List SV} {p:List PV},RL s v p->p8 v=agK->oz v=agy p
 | [],p,h,_=>by rw [show p=_ from h];rfl
 |x::xs,p,h,hn=>by obtain ⟨a,as,rfl,h1,h2⟩:=h.cons_inv;simp only [p8,v6] at hn;exact dR.2 ⟨_,_,rfl,I9 h1 hn.1,Eb h2 hn.2⟩
end
theorem Lm {kd:Kd} {β:Type} {res:Arg β} {v:SV} {s:List SB} {z:List Nat} {p:PV} {ps:bS} {ρ:Type} {w:β->ρ} {y:ρ} (hv:R s v p) (hS:bX s ps) (h:Qk kd res v s z ρ w=agy y):
 ∃b,y=w b/\QP kd res b p ps z:=by
 unfold Qk at h;cases kd with
 |pure=>dsimp only at h;obtain ⟨h1,h2⟩:=cb h;obtain ⟨b,h3,h4⟩:=bB h2;injection h4 with h4;exact ⟨b,h4.symm,I1 hv h1,res.law h3 (I9 hv h1)⟩
 |vA=>dsimp only at h;obtain ⟨h1,h2⟩:=qu h;obtain ⟨u,h3,h4⟩:=bB h2;obtain ⟨b,h5,h6⟩:=bB h4;injection h6 with h6;obtain ⟨q,h7,h8⟩:=XV hS hv h3;exact ⟨b,h6.symm,FY hv h1 h3,q,h7,res.law h5 h8⟩
 |own=>dsimp only at h;obtain ⟨u,h3,h4⟩:=bB h;obtain ⟨b,h5,h6⟩:=bB h4;injection h6 with h6;refine ⟨b,h6.symm,fun nx=>?_⟩;obtain ⟨p0,p',q,h7,h8,h9⟩:=QI hS (v':=u.1) (seen':=u.2) nx hv h3;exact ⟨p0,p',q,u.2,h9,res.law h5 h7,h8⟩
theorem bX.nil:bX [] []:=⟨rfl,fun t b h=>by simp at h⟩
theorem cM.of {f:FuncId} {x:aL} {α β:Type} {args:ay α} {res:Arg β} {kd:Kd} {fn:α->Option β} {ow:Bool} (hf:F f=agy (.code x)) (ho:TM kd ow=agK) (Cw:lL F cx)
 (h: ∀a,XO cx x args res kd a=fn a):cM F f ⟨args,res,fn,kd,ow⟩:=by
 intro a b as pa az fz hb Kz hex;have hb:fn a=agy b:=hb;rw [<- h a] at hb;obtain ⟨r,hr,n,v,s,z,bG,hl⟩:=wE Cw (He Cw 8) hf (Q:=fun r p ps z=>QP kd res r p ps z) (D6 Kz) bX.nil hb (fun v s' z' p vF vE w' y' hv hS hk=>Lm hv hS hk);have Y0:b=r:=hr;subst Y0;cases kd with
 |pure=>
  obtain ⟨h1,h2⟩:=hl;have how:ow=agO:=by simpa [TM] using ho
  subst how;refine ⟨n,{v:=v,rd:=cQ (cD az deep) as},?_,v,h2,rfl⟩;simp only [cu,hex,hf,bG,UV,if_false,h1,if_true]
 |vA=>
  obtain ⟨h1,q,h2,h3⟩:=hl;have how:ow=agO:=by simpa [TM] using ho
  subst how;refine ⟨n,{v:=q,rd:=cQ (cD az deep) as,fr:=cQ (cD az deep) as},?_,q,h3,rfl⟩;simp only [cu,hex,hf,bG,UV,if_false,h1,h2]
 |own=>have how:ow=agK:=ho;subst how;obtain ⟨p0,p',q,seen,h1,h2,h3⟩:=hl (ags az);refine ⟨n,{v:=p',news:=q,rd:=cQ (cD az deep) as},?_,p0,p',q,h2,h3,rfl⟩;simp only [cu,hex,hf,bG,if_true,h1]
theorem I': ∀(s:List SB) (q:List vD),(yQ s q).1.length=ags s
 | [],q=>rfl
 |b::r,q=>by simp only [yQ,ad2,I' r]
mutual
theorem R.take {s:List SB} {k:Nat}: ∀{v:SV} {p:PV},R s v p->(∀t∈KV rh v,t<k)->R (s.take k) v p
 | .ga,_,_,_=>trivial
 | .undef,_,h,_| .iI,_,h,_| .dv,_,h,_| .int _ _,_,h,_| .bool _,_,h,_| .str _,_,h,_| .sl _ _,_,h,_| .nil _ _,_,h,_| .bp _ _ _,_,h,_| .mp _,_,h,_=>h
 | .agg cs,_,h,ht=>by obtain ⟨q,rfl,h⟩:=h;exact ⟨q,rfl,RL.Ec h ht⟩
 | .bT cs,_,h,ht=>by obtain ⟨q,rfl,h⟩:=h;exact ⟨q,rfl,RL.Ec h ht⟩
 | .bw cs o,_,h,ht=>by obtain ⟨q,rfl,h⟩:=h;exact ⟨q,rfl,RL.Ec h ht⟩
 | .ed f a b,_,h,ht=>by obtain ⟨pa,pb,rfl,h1,h2⟩:=h;exact ⟨pa,pb,rfl,RL.Ec h1 (fun t h=>ht t (aeg _ h)),RL.Ec h2 (fun t h=>ht t (aed _ h))⟩
 | .own t ex,_,h,ht=>by
  obtain ⟨e,n,rfl,cC⟩:=h;have hk:=ht t (aea.2 rfl);refine ⟨e,n,rfl,?_⟩;rcases cC with ⟨r,l,h1,h2,h3⟩|h1
  · exact .inl ⟨r,l,by rw [IR hk];exact h1,h2,h3⟩
  exact .inr (by rw [IR hk];exact h1)
 | .pre t a b c,_,h,ht=>by
  obtain ⟨e,rfl,cC⟩:=h;have hk:=ht t (aea.2 rfl);refine ⟨e,rfl,?_⟩;rcases cC with ⟨r,l,h1,h2⟩|h1
  · exact .inl ⟨r,l,by rw [IR hk];exact h1,h2⟩
  exact .inr (by rw [IR hk];exact h1)
 | .part t o a b c,_,h,ht=>by
  obtain ⟨e,rfl,cC⟩:=h;have hk:=ht t (aea.2 rfl);refine ⟨e,rfl,?_⟩;rcases cC with ⟨r,l,h1,h2⟩|h1
  · exact .inl ⟨r,l,by rw [IR hk];exact h1,h2⟩
  exact .inr (by rw [IR hk];exact h1)
 | .pa t r i a o,_,h,ht=>by
  obtain ⟨rfl,cC⟩:=h;have hk:=ht t (ae9 ..);refine ⟨rfl,?_⟩;rcases cC with ⟨l,h1,h2⟩|h1
  · exact .inl ⟨l,by rw [IR hk];exact h1,h2⟩
  exact .inr (by rw [IR hk];exact h1)
 | .pb t i o,_,h,ht=>by
  obtain ⟨e,rfl,cC⟩:=h;have hk:=ht t (ae9 ..);refine ⟨e,rfl,?_⟩;rcases cC with ⟨r,l,h1,h2⟩|h1
  · exact .inl ⟨r,l,by rw [IR hk];exact h1,h2⟩
  exact .inr (by rw [IR hk];exact h1)
theorem RL.Ec {s:List SB} {k:Nat}: ∀{v:List SV} {p:List PV},RL s v p->(∀t∈p7 rh v,t<k)->RL (s.take k) v p
 | [],_,h,_=>h
 |x::xs,_,h,ht=>by obtain ⟨a,as,rfl,h1,h2⟩:=h.cons_inv;exact RL.cons (R.take h1 (fun t h=>ht t (aeg _ h))) (RL.Ec h2 (fun t h=>ht t (aed _ h)))
end
theorem Ed {R' ρ:Type} {w:R'->ρ} {y:ρ}: ∀{s s':List SB} {k:fE R'},zX s s' k ρ w=agy y->k ρ w=agy y/\ags s'=ags s/\ ∀(t:Nat) (x z:SB),s[t]? =agy x->s'[t]? =agy z->QK x z
 | [],[],k,h=>⟨h,rfl,fun t x z h=>by simp at h⟩
 | [],_::_,k,h=>by cases h
 |_::_,[],k,h=>by cases h
 |x::xs,y'::ys,k,h=>by
  have step: ∀(_:zX xs ys k ρ w=agy y) (_:QK x y'),k ρ w=agy y/\(y'::ys).length=(x::xs).length/\ ∀(t:Nat) (a b:SB),(x::xs)[t]? =agy a->(y'::ys)[t]? =agy b->QK a b:=by
   intro h hx;obtain ⟨h1,h2,h3⟩:=Ed h;refine ⟨h1,by simpa using h2,fun t a b ha hb=>?_⟩;cases t with
   |zero=>simp at ha hb;subst ha hb;exact hx
   |succ t=>exact h3 t a b (by simpa using ha) (by simpa using hb)
  cases x with
  |arr r l=>
   cases y' with
   |arr q m=>obtain ⟨hr,h2⟩:=cb (a:=fa (ags m==ags l) (zX xs ys k) aO) h;obtain ⟨hl,h3⟩:=gE h2;exact step h3 ⟨th hr,by simpa using hl⟩
   |_=>cases h
  |dead=>cases y' with
   |dead=>exact step h trivial
   |_=>cases h
  |box cs=>cases y' with
   |box _=>exact step h trivial
   |_=>cases h
  |set l=>cases y' with
   |set _=>exact step h trivial
   |_=>cases h
  |bF p l=>cases y' with
   |bF _ _=>exact step h trivial
   |_=>cases h
theorem Ee: ∀{s:List SB},DP s=agK-> ∀(t:Nat) (b:SB),s[t]? =agy b->xo b=agK
 | [],_,t,b,h=>by simp at h
 |x::xs,hs,0,b,h=>by simp only [DP,v6] at hs;simp at h;subst h;exact hs.1
 |x::xs,hs,t+1,b,h=>by simp only [DP,v6] at hs;exact Ee hs.2 t b (by simpa using h)
theorem rz.of {f:FuncId} {x:aL} {wd:Bool} {ka ko:List AK} {ta:List SV} {tb to:List SB} {tv:SV} {fn:gj ka->Option (gj ko)} (hf:F f=agy (.code x)) (Cw:lL F cx)
 (h: ∀a,ai8 wd cx x ka ta tb ko tv to a=fn a):rz F f ⟨ka,ta,tb,ko,tv,to,fn⟩:=by
 intro a b pa ps hb ha hS;rw [show (⟨ka,ta,tb,ko,tv,to,fn⟩:eJ).fn a=fn a from rfl,<- h a] at hb;have bU:(eJ.sa ⟨ka,ta,tb,ko,tv,to,fn⟩ a).length=(ags tb):=I' _ _;obtain ⟨r,hr,n,v,s,z,bG,hz,hq⟩:=wE Cw (He Cw 8) hf (Q:=fun (r:gj ko) p vF z'=>z'=[]/\gA (ags tb) p vF=agK/\
  R (eJ.sb ⟨ka,ta,tb,ko,tv,to,fn⟩ r) (eJ.vb ⟨ka,ta,tb,ko,tv,to,fn⟩ r) p/\bX (eJ.sb ⟨ka,ta,tb,ko,tv,to,fn⟩ r) (vF.take (ags tb))/\
  (eJ.sb ⟨ka,ta,tb,ko,tv,to,fn⟩ r).length=(eJ.sa ⟨ka,ta,tb,ko,tv,to,fn⟩ a).length/\
  ∀(t:Nat) (x y:SB),(eJ.sa ⟨ka,ta,tb,ko,tv,to,fn⟩ a)[t]? =agy x->(eJ.sb ⟨ka,ta,tb,ko,tv,to,fn⟩ r)[t]? =agy y->QK x y) ha hS hb (fun v s' z' p vF vE w' y' hv hS' hk=>by
  cases z' with
  |cons _ _=>cases hk
  |nil=>
   dsimp only at hk;obtain ⟨hc,hk⟩:=cb hk;simp only [v6] at hc;obtain ⟨⟨⟨⟨c1,c2⟩,c3⟩,c4⟩,c5⟩:=hc;obtain ⟨hk,f1,f2⟩:=Ed hk;obtain ⟨r,hr,hk⟩:=bB hk;injection hk with hk;have hu:R s' (bif wd then FM s' v else v) p:=by
    cases wd with
    |true=>exact MF hv
    |false=>exact hv
   generalize (bif wd then FM s' v else v)=u at c1 c3 c4 hr hu;have Dl:=nS hr;have hvb:eJ.vb ⟨ka,ta,tb,ko,tv,to,fn⟩ r=u:=by show (ru tv (jX ko r)).1=u;rw [Dl,CQ _ c1]
   have hsb:eJ.sb ⟨ka,ta,tb,ko,tv,to,fn⟩ r=s'.take (ags tb):=by show (yQ to (ru tv (jX ko r)).2).1=_;rw [Dl,CQ _ c1];have:=Ae [] c2;rw [ad4] at this;rw [this]
   have jZ:(ags tb)<=(ags s'):=by
    have:=f1;rw [ads] at this;have h2:(eJ.sa ⟨ka,ta,tb,ko,tv,to,fn⟩ a).length=(ags tb):=bU;have h3:min (ags tb) (ags s')=(ags tb):=by rw [this];exact h2
    omega
   unfold XN at c3;rw [adA] at c3;have hkv: ∀t∈KV rh u,t<(ags tb):=fun t ht=>by simpa using c3 t (aeg _ ht)
   have hkb: ∀b∈s'.take (ags tb),∀t∈DI b,t<(ags tb):=fun b hb t ht=>by simpa using c3 t (aed _ (afq.2 ⟨b,hb,ht⟩))
   have oU:bX (s'.take (ags tb)) (vF.take (ags tb)):=⟨by simp [hS'.len],fun t x hx=>by
    have cY:t<(ags tb):=by have:=(ww.1 hx).1;rw [ads] at this;omega
    have hx':=hx;rw [IR cY] at hx';obtain ⟨q,q1,q2⟩:=hS'.at_ t x hx';refine ⟨q,by rw [IR cY];exact q1,?_⟩;cases x with
    |box cs=>obtain ⟨pc,rfl,hpc⟩:=q2;exact ⟨pc,rfl,RL.Ec hpc (hkb _ (adX hx))⟩
    |_=>exact q2⟩
   refine ⟨r,hk.symm,rfl,?_,by rw [hvb,hsb];exact R.take hu hkv,by rw [hsb];exact oU,by rw [hsb];exact f1,by rw [hsb];exact f2⟩;unfold gA;rw [adA];intro t ht;rw [afB] at ht;rcases ht with ht|ht
   · rw [<- QC (bx:=rh) (fun _=>rfl) hu c4] at ht
     simpa using hkv t ht
   rw [afq] at ht
   obtain ⟨q,hq,ht⟩:=ht;obtain ⟨j,hj,he⟩:=aeh hq;have Kr:j<(s'.take (ags tb)).length:=by rw [<- oU.len];exact hj
   obtain ⟨x,hx⟩: ∃x,(s'.take (ags tb))[j]? =agy x:=⟨_,If Kr⟩;obtain ⟨q',q1,q2⟩:=oU.at_ j x hx;rw [If hj,he] at q1;injection q1 with q1;subst q1;rw [<- G5 q2 (Ee c5 j x hx)] at ht;simpa using hkb x (adX hx) t ht)
 have Y0:b=r:=hr;subst Y0;subst hz;refine ⟨n,v,s,bG,?_⟩;rw [bU];obtain ⟨h1,h2,h3,h4,h5⟩:=hq;exact ⟨h1,h2,h3,by rw [h4,bU],h5⟩
theorem Ln {f:FuncId} {r:List PT} (hf:F f=agy (.ir agO (eN (ags r)))) (l:List (RT r)) (hl:(ags l)<=1048576) {as:List PV} {az:bS} {fz:List Nat} (hex:AL az (vt az deep) as=agy [.sl (ags r) agO (l.map (RT.pv r))]):
 ∃n x,cu F (run F n) agO f as az fz=agy x/\XW .own (ags az) (cQ (cD az deep) as) (.sl r l) x:=by
 refine ⟨0,{v:= .own (ags az) (ags r) 0 (ags l) (ags l) agO,news:=[.arr (ags r) (l.map (RT.pv r))],rd:=cQ (cD az deep) as},?_,.sl (ags r) agO (l.map (RT.pv r)),.own (ags az) (ags r) 0 (ags l) (ags l) agO,[.arr (ags r) (l.map (RT.pv r))],rfl,by simp only [Cv,ad5],rfl⟩;simp only [cu,hex,hf];cases l with
 |nil=>rfl
 |cons a l=>
  have h2:NE ((l.map (RT.pv r)).length+1) kI=agK:=by simp [kI] at hl ⊢;omega
  simp only [ad6,eN,ad8,h2,ad7,if_true,xO];simp [has]
theorem cM.clone {f:FuncId} {n:Nat} {r:List PT} (hf:F f=agy (.ir agO (eN n))) (hn:n=ags r):cM F f (qt.clone r):=by
 intro (a:List (RT r)) (b:List (RT r)) as pa az fz hb Kz hex;subst hn;have hb:cz a=agy b:=hb;obtain ⟨rfl,hl⟩:=yV hb;have QQ:pa=[.sl (ags r) agO (b.map (RT.pv r))]:=by have:agy [PV.sl (ags r) agO (b.map (RT.pv r))]=agy pa:=Kz;exact (adU this).symm
 subst QQ;exact Ln hf b hl hex
theorem cM.Mz {f:FuncId} (hf:F f=agy (.ir agO yv)):cM F f qt.Mz:=by
 intro a b as pa az fz hb Kz hex;obtain ⟨x,y,c⟩:=a;have xX:nR x y c=agy b:=hb;unfold nR at xX;cases hc:(agQ (0<=x)&&agQ (0<=y)&&agQ (0<=c)&&agQ (c<=1)) with
 |false=>rw [hc] at xX;cases xX
 |true=>
  rw [hc] at xX;injection xX with xX;subst xX;simp only [v6,decide_eq_true_eq] at hc;obtain ⟨⟨⟨h1,h2⟩,h3⟩,h4⟩:=hc;obtain ⟨x,rfl⟩:=acl h1;obtain ⟨y,rfl⟩:=acl h2;obtain ⟨c,rfl⟩:=acl h3;have QQ:pa=[.int .u64 (.ofNat x),.int .u64 (.ofNat y),.int .u64 (.ofNat c)]:=by have:agy [PV.int .u64 (x:Int),.int .u64 (y:Int),.int .u64 (c:Int)]=agy pa:=Kz;exact (adU this).symm
  subst QQ;have hcb:NE c 1=agK:=by simp;omega
  refine ⟨0,{v:= .bT [.int .u64 (.ofNat ((x+y+c)%18446744073709551616)),.int .u64 (.ofNat ((x+y+c) / 18446744073709551616))],rd:=cQ (cD az deep) as},?_,_,rfl,rfl⟩;show cu F (run F 0) agO f as az fz=_;simp only [cu,hex,hf,yv,hcb,if_true];rfl
theorem rz.zero {f:FuncId} {c:eJ} (h: ∀a,c.fn a=agB):rz F f c:=fun a b pa ps hb=>by rw [h a] at hb;cases hb
theorem cM.zero {f:FuncId} {c:qt} (h: ∀a,c.fn a=agB):cM F f c:=fun a b as pa az fz hb=>by rw [h a] at hb;cases hb
theorem cM.Za {f:FuncId} {fn:Unit->Option Bool} (h:cM F f ⟨ay.nil,Arg.bool,fn,.pure,agO⟩) (hb:fn ()=agy agK):cM F f ⟨ay.nil,Arg.bool,fun _=>agy agK,.pure,agO⟩:=by intro a b as args az fz hr hp hx;obtain rfl:agK=b:=adU hr;exact h () agK as args az fz hb hp hx
end
end Go.Vm
/- What comes in to a law, as typed values; a law from a contract. -/
namespace Go.Vm
open Go.ChangeShapes Go.WideShapes Go.ChangeAt Go.RowKit
def PT.wf:(p:PT)->p.T->Prop
 | .i k,n=>(Lit.int k n).wf=agK
 | .b,_=>True
def RT.wf:(r:List PT)->RT r->Prop
 | [],_=>True
 | [p],a=>p.wf a
 |p::q::r,a=>p.wf a.1/\RT.wf (q::r) a.2
def fW (r:List PT) (vs:List SV):Prop:= ∃a:RT r,vs=RT.sv r a/\RT.wf r a
def Kl (r:List PT) (vs:List SV):Prop:= ∃l:List (RT r),vs=[.sl r l]/\ ∀a∈l,RT.wf r a
def TN:List (List SV->Prop)->List SV->Prop
 | [],vs=>vs=[]
 |K::Ks,vs=> ∃a b,vs=a++b/\K a/\TN Ks b
theorem fW.cons {p:PT}: ∀{r:List PT} {a b:List SV},fW [p] a->fW r b->fW (p::r) (a++b)
 | [],a,b,⟨x,hx,wx⟩,⟨y,hy,_⟩=>⟨x,by rw [hx,hy];rfl,wx⟩
 |q::r,a,b,⟨x,hx,wx⟩,⟨y,hy,wy⟩=>⟨(x,y),by rw [hx,hy];rfl,wx,wy⟩
theorem fW.split {p q:PT} {r:List PT} {vs:List SV}:fW (p::q::r) vs-> ∃a b,vs=a++b/\fW [p] a/\fW (q::r) b
 |⟨x,hx,wx⟩=>⟨[p.sv x.1],RT.sv (q::r) x.2,hx,⟨x.1,rfl,wx.1⟩,⟨x.2,rfl,wx.2⟩⟩
theorem fW.app: ∀{r s:List PT} {a b:List SV},fW r a->fW s b->fW (r++s) (a++b)
 | [],s,a,b,⟨x,hx,_⟩,h=>by have:a=[]:=hx;subst this;exact h
 | [p],s,a,b,h,k=>fW.cons h k
 |p::q::r,s,a,b,h,k=>by
  obtain ⟨a1,a2,rfl,h1,h2⟩:=fW.split h
  rw [ad3];exact fW.cons h1 (fW.app h2 k)
theorem mc: ∀{rs:List (List PT)} {vs:List SV},TN (rs.map fW) vs->fW rs.flatten vs
 | [],vs,h=>by have:vs=[]:=h;subst this;exact ⟨(),rfl,trivial⟩
 |r::rs,vs,⟨a,b,h1,h2,h3⟩=>by subst h1;rw [List.flatten_cons];exact fW.app h2 (mc h3)
def cp (P : Program) (t : TypeId) (K : List SV -> Prop) : Prop :=
  ∀ (H : Type) (enc : TypeId × Value -> H) (w : World) (yK : Nat) (cs : List Value) (x : DataW H × List MemPlace), DataW.trod enc P w 0 (fun _ => agK) agK yK t cs = agy x ->
    ∃ vs q, K vs /\ oz vs = agy q /\ eo (Fj w) eZ q cs
section
variable {P : Program}
theorem cp.mono {t:TypeId} {K K':List SV->Prop} (h:cp P t K) (hk: ∀vs,K vs->K' vs):cp P t K':=fun H enc w yK cs x hx=>by obtain ⟨vs,q,h1,h2,h3⟩:=h H enc w yK cs x hx;exact ⟨vs,q,hk vs h1,h2,h3⟩
theorem cp.int {t:TypeId} {k:IntKind} (ht:P.underlying t=agy (.int k)):cp P t (fW [.i k]):=fun H enc w yK cs x h=>by obtain ⟨n,rfl,_,hw⟩:=DataW.trod_int ht h;exact ⟨[.int k n],[.int k n],⟨n,rfl,hw⟩,rfl,.cons _ _ _ _ (.int k n) .nil⟩
theorem cp.bool {t:TypeId} (ht:P.underlying t=agy .bool):cp P t (fW [.b]):=fun H enc w yK cs x h=>by obtain ⟨b,rfl,_⟩:=DataW.trod_bool ht h;exact ⟨[.bool b],[.bool b],⟨b,rfl,trivial⟩,rfl,.cons _ _ _ _ (.bool b) .nil⟩
def bg (P:Program):List Field->List (List SV->Prop)->Nat->Prop
 | [],[],_=>True
 |f::fs,K::Ks,off=>f.offset=off/\cp P f.type K/\bg P fs Ks (off+P.cellsOf f.type)
 |_,_,_=>False
theorem bg.nil {off:Nat}:bg P [] [] off:=trivial
theorem bg.cons {f:Field} {fs:List Field} {K:List SV->Prop} {Ks:List (List SV->Prop)} {off:Nat} (h1:f.offset=off) (h2:cp P f.type K) (h3:bg P fs Ks (off+P.cellsOf f.type)):bg P (f::fs) (K::Ks) off:=⟨h1,h2,h3⟩
def wF (P:Program):List Field->Nat
 | []=>0
 |f::fs=>P.cellsOf f.type+wF P fs
theorem Ef {im:Im} {loc:Loc}: ∀{p:List PV} {vs:List Value} {q:List PV} {us:List Value},eo im loc p vs->eo im loc q us->eo im loc (p++q) (vs++us)
 | [],[],_,_,.nil,h=>h
 |_::_,_::_,_,_,.cons x v xs ws h hs,k=> .cons x v _ _ h (Ef hs k)
theorem Eg {H:Type} {enc:TypeId×Value->H} {w:World} {n:Nat} {cs:List Value}: ∀{fs:List Field} {Ks:List (List SV->Prop)} {off:Nat},bg P fs Ks off->ags cs=off+wF P fs->
 (∀f∈fs,∃x,DataW.trod enc P w 0 (fun _=>agK) agK n f.type ((cs.drop f.offset).take (P.cellsOf f.type))=agy x)-> ∃vs q,TN Ks vs/\oz vs=agy q/\eo (Fj w) eZ q (cs.drop off)
 | [],[],off,_,hl,_=>⟨[],[],rfl,rfl,by rw [List.drop_eq_nil_of_le (by simp [wF] at hl;omega)];exact .nil⟩
 |f::fs,K::Ks,off,⟨h1,h2,h3⟩,hl,hx=>by
  obtain ⟨x,O2⟩:=hx f (by simp);obtain ⟨vs,q,k1,k2,k3⟩:=h2 H enc w n _ x O2;obtain ⟨Kh,q',k1',k2',k3'⟩:=Eg (n:=n) h3 (by simp only [wF] at hl;omega) (fun g hg=>hx g (by simp [hg]));refine ⟨vs++Kh,q++q',⟨vs,Kh,rfl,k1,k1'⟩,yS k2 k2',?_⟩;rw [h1] at k3;have:cs.drop off=(cs.drop off).take (P.cellsOf f.type)++cs.drop (off+P.cellsOf f.type):=by rw [<- List.drop_drop,List.take_append_drop]
  rw [this];exact Ef k3 k3'
 | [],_::_,_,h,_,_=>h.elim
 |_::_,[],_,h,_,_=>h.elim
theorem cp.struct {t:TypeId} {fs:Array Field} {Ks:List (List SV->Prop)} (ht:P.underlying t=agy (.struct fs)) (hF:bg P fs.toList Ks 0) (hc:P.cellsOf t=wF P fs.toList):cp P t (TN Ks):=fun H enc w yK cs x h=>by
 obtain ⟨xs,n,rfl,_,hl,hxl,p4⟩:=DataW.trod_struct ht h;have:=Eg (P:=P) (enc:=enc) (w:=w) (n:=n) (cs:=cs) hF (by omega) (fun f hf=>by
  obtain ⟨i,hi,he⟩:=List.mem_iff_getElem.1 hf;have qG:i<fs.size:=by simpa using hi
  have hg:fs[i]? =agy f:=by rw [Array.getElem?_eq_getElem qG];simpa using he
  have:=p4 i f hg;rw [If (by omega)] at this;exact ⟨_,this⟩)
 rwa [adB] at this
theorem RT.vrl {r:List PT} {a:RT r} {q:List PV} (h:oz (RT.sv r a)=agy q):q=RT.pv r a:=by rw [RT.FO] at h;exact (adU h).symm
theorem eo.nth {im:Im} {loc:Loc}: ∀{p:List PV} {vs:List Value},eo im loc p vs-> ∀(k:Nat) (c:PV),p[k]? =agy c-> ∃v,vs[k]? =agy v/\VR im loc c v
 |_::_,_::_,.cons x v xs ws h hs,0,c,hc=>by simp at hc;subst hc;exact ⟨v,by simp,h⟩
 |_::_,_::_,.cons x v xs ws h hs,k+1,c,hc=>by obtain ⟨u,h1,h2⟩:=eo.nth hs k c (by simpa using hc);exact ⟨u,by simpa using h1,h2⟩
theorem cp.slice {t e:TypeId} {r:List PT} (ht:P.underlying t=agy (.slice e)) (he:cp P e (fW r)) (hc:P.cellsOf e=ags r) (hr:0<ags r):cp P t (Kl r):=fun H enc w yK cs x h=>by
 rcases Go.Deep.open_slice ht h with ⟨rfl,_⟩|⟨a,len,cap,m,n,D,Pl,rfl,_,hl,hm,hmm,_,hx⟩
 · exact ⟨[.sl r []],[.sl (ags r) agO []],⟨[],rfl,by simp⟩,rfl,.cons _ _ _ _ (.sl (ags r) agO [] agB 0 (aeB _) (fun h=>by cases h) (fun h=>absurd rfl h)) .nil⟩
 have zq:len<=m:=by rw [hmm];split<;>omega
 have each: ∀i,i<len-> ∃A:RT r,RT.wf r A/\ ∃Fu,w.cells? 0 (a.add (i*ags r)) (ags r)=agy Fu/\eo (Fj w) eZ (RT.pv r A) Fu:=by intro i hi;obtain ⟨Fu,h1,h2⟩:=hx i (by omega);obtain ⟨vs,q,⟨A,hA,wA⟩,k2,k3⟩:=he H enc w n Fu _ h2;subst hA;rw [RT.vrl k2] at k3;rw [hc] at h1;exact ⟨A,wA,Fu,h1,k3⟩
 have ch: ∃A:Nat->RT r,∀i,i<len->RT.wf r (A i)/\ ∃Fu,w.cells? 0 (a.add (i*ags r)) (ags r)=agy Fu/\eo (Fj w) eZ (RT.pv r (A i)) Fu:=by
  classical
  refine ⟨fun i=>if h:i<len then (each i h).choose else RT.zero r,fun i hi=>?_⟩;simp only [dif_pos hi];exact (each i hi).choose_spec
 obtain ⟨A,hA⟩:=ch;refine ⟨[.sl r ((aeJ len).map A)],[.sl (ags r) agO (((aeJ len).map A).map (RT.pv r))],⟨_,rfl,fun x hx=>?_⟩,rfl,.cons _ _ _ _ ?_ .nil⟩
 · obtain ⟨i,hi,rfl⟩:=aeV.1 hx
   exact (hA i (List.mem_range.1 hi)).1
 have bU:(((aeJ len).map A).map (RT.pv r)).length=len:=by simp
 have:=VR.sl (im:=Fj w) (loc:=eZ) (ags r) agO (((aeJ len).map A).map (RT.pv r)) (agy a) cap (by rw [bU];exact hl) (fun h=>by cases h) (fun dC=>by
  have yC:0<len:=by
   rcases aeI len with h|h
   · subst h;exact absurd rfl dC
   exact h
  obtain ⟨_,cs0,h0,_⟩:=hA 0 yC;obtain ⟨_,HM,E8⟩:=aeW h0;obtain ⟨b,off,spot⟩:=a;have afF:spot=agB:=by have h1:=E8 0 hr;rw [If (by omega)] at h1;simpa [Addr.add] using World.cell?_spot h1
  subst afF;refine ⟨b,off,rfl,fun i row k8=>?_⟩;simp only [List.map_map,List.getElem?_map,ad9] at k8;obtain ⟨j,hj,rfl⟩:=k8;have Kr:=bY hj;have:j=i:=by rw [List.getElem?_range (by simpa using Kr)] at hj;exact (adU hj).symm
  subst this;have afG:j<len:=by simpa using Kr
  obtain ⟨_,Fu,h1,h2⟩:=hA j afG;obtain ⟨_,L6,zn⟩:=aeW h1;refine ⟨RT.uh r (A j),fun k c hk=>?_⟩;obtain ⟨v,hv,nE⟩:=eo.nth h2 k c hk;have hkr:k<(ags r):=by
   have:=bY hk
   rwa [Function.comp,RT.uh] at this
  have cc:=zn k hkr;rw [hv] at cc;rw [Go.WideShapes.add_plain,Go.WideShapes.add_plain] at cc;have Kg:c.plain=agK:=adA.1 (RT.plain r (A j)) c (adX hk);exact ⟨v,nE.plain Kg,NZ cc⟩)
 rw [bU] at this;exact this
theorem cp.afH {t:TypeId} {fs:Array Field} {K:List SV->Prop} (h:cp P t K) (ht:P.underlying t=agy (.struct fs)) {H:Type} {enc:TypeId×Value->H} {w:World} {nF:Nat} {v:Value} {d:DataW H} {p:List MemPlace}
 (hv:Value.okWide P w .any nF t v) (hd:DataW.Trod enc P w 0 (fun _=>agK) agK t v d p): ∃vs q,K vs/\oz vs=agy q/\VR (Fj w) eZ (.agg q) v:=by
 obtain ⟨cs,rfl,_⟩:=okWide_struct ht hv;obtain ⟨yK,hf⟩:=hd;obtain ⟨vs,q,k1,k2,k3⟩:=h H enc w yK _ _ hf;exact ⟨vs,q,k1,k2,.agg q _ k3⟩
theorem wf_i64 {n:Int} (h:(Lit.int .i64 n).wf=agK): -9223372036854775808<=n/\n<9223372036854775808:=by
 simp only [Lit.wf,v6,decide_eq_true_eq] at h;have e1:IntKind.i64.min= -9223372036854775808:=by decide
 have e2:IntKind.i64.max=9223372036854775807:=by decide
 rw [e1,e2] at h;omega
end
theorem cM.ajp {F:jM} {f:FuncId} {x:aL} {α:Type} {A:ay α} {fn:α->Option Bool} (h:cM F f ⟨A,Arg.bool,fn,.pure,agO⟩) (hf:F f=agy (.code x)) {a:α} (hb:fn a=agy agK) {ps:List PV} (hp:oz (A.enc a)=agy ps) (hx:AL [] (vt [] deep) ps=agy ps):
 ∃n s z,run F n (.func f ps [] [])=agy (.func (.bool agK) s z):=by
 obtain ⟨n,r,h1,p,h2,rfl⟩:=h a agK ps ps [] [] hb hp hx;have hp':p= .bool agK:=(adU h2).symm;subst hp';refine ⟨n,?_⟩;simp only [cu,hx,hf] at h1;split at h1
 · rename_i v s z hr
   simp only [UV,if_false] at h1;split at h1
   · injection h1 with h1
     injection h1 with h1;subst h1;exact ⟨s,z,hr⟩
   rename_i hn
   split at h1
   · rename_i v' hv
     injection h1 with h1;injection h1 with h1;subst h1;exfalso;cases v with
     |bool b=>exact hn rfl
     |int _ _|str _|sl _ _ _=>injection hv with hv;cases hv
     |agg cs=>simp only [vB,ad9] at hv;obtain ⟨_,_,hv⟩:=hv;cases hv
     |bT cs=>simp only [vB,ad9] at hv;obtain ⟨_,_,hv⟩:=hv;cases hv
     |own t e off len cap ex=>simp only [vB] at hv;split at hv<;>first|(injection hv with hv;cases hv)|cases hv
     |_=>cases hv
   cases h1
 cases h1
end Go.Vm
