/- The logical machine, part 3: SvCod, SvRel, SvOps1, SvOps2, SvOps3, SvOps4, SvNorm, SvCall, SvFp, SvRun, SvCon, SvLaw. -/
import Derived.Test.YthljmpcakagceaaGreatHVm2
open Nat renaming eq_of_beq_eq_true->v6,ble->PP,beq->UV,le_of_ble_eq_true->aa6,beq_refl->aas,lt_or_ge->ab5,zero_add->abp,beq_eq->abI,min_eq_left->acl,le_refl->acr,blt->adc,eq_zero_or_pos->agm,le_of_lt->agD,sub_self->ahf
open Bool renaming and_eq_true->ww,false_eq_true->aa2,not_eq_true'->aaj,and_self->aar,not_false->ab0,and_true->abr,not_true->agd,or_eq_true->ahd,true->ahk,false->ahl
open List renaming getElem?_eq_some_iff->AC,getElem?_append_left->Do,getElem?_append_right->EQ,getElem?_eq_getElem->IR,getElem?_take_of_lt->M2,getElem?_set->NE,length_cons->aak,append_assoc->aal,append_nil->aam,length_map->aap,map_cons->aaq,replicate->aau,length_take->aav,map_take->aaw,take_of_length_le->aay,all_eq_true->aaA,drop_zero->aaE,getElem?_cons_succ->aaF,map_append->aaS,mem_of_getElem?->ab1,getElem?_eq_none_iff->aba,map_drop->abe,mem_cons_self->abg,mem_singleton->abj,length_eq_zero_iff->abo,mem_append_right->abq,mem_cons_of_mem->abt,mem_append_left->abx,getElem_of_mem->abz,length_append->abK,getElem?_cons_zero->abW,cons_append->acj,nodup_cons->acm,take_succ_cons->agb,all_cons->agc,cons_beq_cons->age,range->agq,map_set->agB,ext_getElem?->agF,map_nil->agO,flatMap_cons->agP,mem_map->agS,any_eq_true->ah7,length_drop->ah8,mem_flatMap->ah9,all_append->ahb,mem_append->ahc,any_cons->ahe,all_map->ahg,length->ahh
open Option.some renaming injEq->If,inj->aaV
open Int renaming eq_ofNat_of_zero_le->aa9,ofNat->aaX,le_trans->abE
open Prod.mk renaming injEq->aai
open Option renaming map_eq_some_iff->aat,isSome_iff_exists->abQ,getD_none->abY,getD_some->ah6,some->ahi,none->ahj
open Go.World renaming cells?_some->ah5
open Decidable renaming decide->ahm
/- The types of arguments and results, as cells. -/
namespace Go.Vm
theorem oH {r q:List PT} {l:List (RT r)} {m:List (RT q)} (h:rM r q l=ahi m): ∃e:r=q,m=e▸l:=by
 unfold rM at h;split at h
 · rename_i hs
   injection h with h;exact ⟨uF hs,h.symm⟩
 cases h
theorem A2 {r q:List PT} {l:List (RT r)} {m:List (RT q)} (h:rM r q l=ahi m):r=q/\m.map (RT.pv q)=l.map (RT.pv r)/\ahh m=(ahh l):=by obtain ⟨rfl,rfl⟩:=oH h;exact ⟨rfl,rfl,rfl⟩
theorem dV {x:SV} {xs:List SV} {ps:List PV}:oA (x::xs)=ahi ps↔ ∃p qs,ps=p::qs/\qS x=ahi p/\oA xs=ahi qs:=by
 simp only [oA];constructor
 · intro h
   split at h
   · rename_i y ys h1 h2
     injection h with h;exact ⟨y,ys,h.symm,h1,h2⟩
   cases h
 rintro ⟨p,qs,rfl,h1,h2⟩
 rw [h1,h2]
theorem z6: ∀{xs ys:List SV} {p q:List PV},oA xs=ahi p->oA ys=ahi q->oA (xs++ys)=ahi (p++q)
 | [],ys,p,q,h,k=>by simp only [oA,If] at h;subst h;exact k
 |x::xs,ys,p,q,h,k=>by obtain ⟨a,as,rfl,h1,h2⟩:=dV.1 h;exact dV.2 ⟨a,as++q,rfl,h1,z6 h2 k⟩
theorem PT.ph: ∀{p:PT} {v:SV} {a:p.T},p.of v=ahi a->v=p.sv a
 | .i k,.int l n,a,h=>by
  simp only [PT.of] at h;cases hk:eZ l k with
  |false=>rw [hk] at h;cases h
  |true=>rw [hk] at h;injection h with h;subst h;rw [eH.1 hk];rfl
 | .b,.bool x,a,h=>by injection h with h;subst h;rfl
 | .i k,.bool _,a,h=>by cases h
 | .b,.int _ _,a,h=>by cases h
 | .i _,.gP,a,h| .i _,.undef,a,h| .i _,.jl,a,h| .i _,.dz,a,h| .i _,.str _,a,h| .i _,.agg _,a,h| .i _,.bS _,a,h| .i _,.sl _ _,a,h| .i _,.nil _ _,a,h| .i _,.own _ _,a,h| .i _,.pre _ _ _ _,a,h| .i _,.part _ _ _ _ _,a,h| .i _,.pa _ _ _ _ _,a,h| .i _,.pb _ _ _,a,h| .i _,.bp _ _ _,a,h| .i _,.bu _ _,a,h| .i _,.eh _ _ _,a,h| .i _,.mp _,a,h=>by cases h
 | .b,.gP,a,h| .b,.undef,a,h| .b,.jl,a,h| .b,.dz,a,h| .b,.str _,a,h| .b,.agg _,a,h| .b,.bS _,a,h| .b,.sl _ _,a,h| .b,.nil _ _,a,h| .b,.own _ _,a,h| .b,.pre _ _ _ _,a,h| .b,.part _ _ _ _ _,a,h| .b,.pa _ _ _ _ _,a,h| .b,.pb _ _ _,a,h| .b,.bp _ _ _,a,h| .b,.bu _ _,a,h| .b,.eh _ _ _,a,h| .b,.mp _,a,h=>by cases h
theorem RT.ph: ∀{r:List PT} {vs:List SV} {a:RT r},RT.of r vs=ahi a->vs=RT.sv r a
 | [],[],a,_=>rfl
 | [p],[v],a,h=>by have:=PT.ph (p:=p) h;rw [this];rfl
 |p::q::r,v::vs,a,h=>by
  simp only [RT.of] at h;split at h
  · rename_i x y h1 h2
    injection h with h;subst h;rw [PT.ph h1,RT.ph h2];rfl
  cases h
 | [],_::_,a,h=>by simp [RT.of] at h
 | [p],[],a,h=>by simp [RT.of] at h
 | [p],_::_::_,a,h=>by simp [RT.of] at h
 |_::_::_,[],a,h=>by simp [RT.of] at h
theorem PT.GX (p:PT) (a:p.T):qS (p.sv a)=ahi (p.pv a):=by cases p<;>rfl
theorem RT.GX: ∀(r:List PT) (a:RT r),oA (RT.sv r a)=ahi (RT.pv r a)
 | [],_=>rfl
 | [p],a=>dV.2 ⟨_,_,rfl,PT.GX p a,rfl⟩
 |p::q::r,a=>dV.2 ⟨_,_,rfl,PT.GX p a.1,RT.GX (q::r) a.2⟩
theorem RT.vt: ∀(r:List PT) (a:RT r),(RT.pv r a).length=ahh r
 | [],_=>rfl
 | [p],a=>rfl
 |p::q::r,a=>by simp [RT.pv,RT.vt (q::r) a.2]
theorem RT.H9: ∀(r:List PT) (a:RT r),(RT.sv r a).length=ahh r
 | [],_=>rfl
 | [p],a=>rfl
 |p::q::r,a=>by simp [RT.sv,RT.H9 (q::r) a.2]
theorem GY: ∀(n:Nat) {vs:List SV} {ps:List PV},oA vs=ahi ps-> ∃p q,ps=p++q/\oA (vs.take n)=ahi p/\oA (vs.drop n)=ahi q
 |0,vs,ps,h=>⟨[],ps,rfl,by simp [oA],by simpa using h⟩
 |n+1,[],ps,h=>⟨[],ps,rfl,by simp [oA],by simpa using h⟩
 |n+1,v::vs,ps,h=>by obtain ⟨p,qs,rfl,h1,h2⟩:=dV.1 h;obtain ⟨a,b,rfl,h3,h4⟩:=GY n h2;exact ⟨p::a,b,rfl,by rw [agb];exact dV.2 ⟨p,a,rfl,h1,h3⟩,by simpa using h4⟩
def bR.int (k:IntKind):bR Int where
 enc n:=[.int k n]
 dec vs:=match vs with
  | .int l n::r=>bif eZ l k then ahi (n,r) else ahj
  |_=>ahj
 law:=fun {vs a rest ps} h hp=>by
  split at h
  · rename_i l n r
    cases hk:eZ l k with
    |false=>rw [hk] at h;cases h
    |true=>rw [hk] at h;simp only [lw,If,aai] at h;obtain ⟨rfl,rfl⟩:=h;obtain ⟨p,qs,rfl,h1,h2⟩:=dV.1 hp;rw [eH.1 hk] at h1;exact ⟨[p],qs,rfl,dV.2 ⟨p,[],rfl,h1,rfl⟩,h2⟩
  cases h
def bR.bool:bR Bool where
 enc n:=[.bool n]
 dec vs:=match vs with
  | .bool n::r=>ahi (n,r)
  |_=>ahj
 law:=fun {vs a rest ps} h hp=>by
  split at h
  · simp only [If,aai] at h
    obtain ⟨rfl,rfl⟩:=h;obtain ⟨p,qs,rfl,h1,h2⟩:=dV.1 hp;exact ⟨[p],qs,rfl,dV.2 ⟨p,[],rfl,h1,rfl⟩,h2⟩
  cases h
def NF (r:List PT):SV->Option (List (RT r))
 | .sl q l=>rM q r l
 | .nil e c=>bif UV e (ahh r)&&!c then ahi [] else ahj
 |_=>ahj
theorem GZ {r:List PT} {v:SV} {l:List (RT r)} {p:PV} (h:NF r v=ahi l) (hp:qS v=ahi p):qS (.sl r l)=ahi p:=by
 cases v with
 |sl q m=>obtain ⟨rfl,h2,_⟩:=A2 h;rw [<- hp];simp only [qS,h2]
 |nil e c=>
  simp only [NF] at h;cases hc:(UV e (ahh r)&&!c) with
  |false=>rw [hc] at h;cases h
  |true=>rw [hc] at h;injection h with h;subst h;simp only [ww,abI,aaj] at hc;obtain ⟨rfl,rfl⟩:=hc;rw [<- hp];rfl
 |_=>cases h
def bR.sl (r:List PT):bR (List (RT r)) where
 enc l:=[.sl r l]
 dec vs:=match vs with
  |v::rest=>match NF r v with
   |some l=>ahi (l,rest)
   |none=>ahj
  | []=>ahj
 law:=fun {vs a rest ps} h hp=>by
  split at h
  · split at h
    · rename_i v r' x l hl
      simp only [If,aai] at h;obtain ⟨rfl,rfl⟩:=h;obtain ⟨p,qs,rfl,h1,h2⟩:=dV.1 hp;exact ⟨[p],qs,rfl,dV.2 ⟨p,[],rfl,GZ hl h1,rfl⟩,h2⟩
    cases h
  cases h
def bR.row (r:List PT):bR (RT r) where
 enc:=RT.sv r
 dec vs:=match RT.of r (vs.take (ahh r)) with
  |some a=>ahi (a,vs.drop (ahh r))
  |none=>ahj
 law:=fun {vs a rest ps} h hp=>by
  split at h
  · rename_i x hx
    simp only [If,aai] at h;obtain ⟨rfl,rfl⟩:=h;obtain ⟨p,q,rfl,h1,h2⟩:=GY (ahh r) hp;rw [RT.ph hx] at h1;exact ⟨p,q,rfl,h1,h2⟩
  cases h
def bR.prod {α β:Type} (A:bR α) (B:bR β):bR (α×β) where
 enc p:=A.enc p.1++B.enc p.2
 dec vs:=match A.dec vs with
  |some p=>match B.dec p.2 with
   |some q=>ahi ((p.1,q.1),q.2)
   |none=>ahj
  |none=>ahj
 law:=fun {vs a rest ps} h hp=>by
  split at h
  · rename_i p hA
    split at h
    · rename_i q hB
      simp only [If,aai] at h;obtain ⟨rfl,rfl⟩:=h;obtain ⟨p1,p2,rfl,h1,h2⟩:=A.law (a:=p.1) (rest:=p.2) hA hp;obtain ⟨q1,q2,rfl,h3,h4⟩:=B.law (a:=q.1) (rest:=q.2) hB h2;exact ⟨p1++q1,q2,by simp,z6 h1 h3,h4⟩
    cases h
  cases h
def bR.iso {α β:Type} (A:bR α) (f:α->β) (g:β->α) (h: ∀a,g (f a)=a):bR β where
 enc b:=A.enc (g b)
 dec vs:=match A.dec vs with
  |some p=>ahi (f p.1,p.2)
  |none=>ahj
 law:=fun {vs a rest ps} hd hp=>by
  split at hd
  · rename_i p hA
    simp only [If,aai] at hd;obtain ⟨rfl,rfl⟩:=hd;rw [h];exact A.law hA hp
  cases hd
def Arg.int (k:IntKind):Arg Int where
 enc n:= .int k n
 dec v:=match v with
  | .int l n=>bif eZ l k then ahi n else ahj
  |_=>ahj
 law:=fun {v a p} h hp=>by
  split at h
  · rename_i l n
    cases hk:eZ l k with
    |false=>rw [hk] at h;cases h
    |true=>rw [hk] at h;injection h with h;subst h;rw [eH.1 hk] at hp;exact hp
  cases h
def Arg.bool:Arg Bool where
 enc n:= .bool n
 dec v:=match v with
  | .bool n=>ahi n
  |_=>ahj
 law:=fun {v a p} h hp=>by
  split at h
  · injection h with h;subst h;exact hp
  cases h
def Arg.sl (r:List PT):Arg (List (RT r)) where
 enc l:= .sl r l
 dec:=NF r
 law:=GZ
def Arg.agg {α:Type} (A:bR α):Arg α where
 enc a:= .agg (A.enc a)
 dec v:=match v with
  | .agg cs=>match A.dec cs with
   |some p=>match p.2 with
    | []=>ahi p.1
    |_=>ahj
   |none=>ahj
  |_=>ahj
 law:=fun {v a p} h hp=>by
  split at h
  · rename_i cs
    split at h
    · rename_i q hA
      obtain ⟨x,rest⟩:=q;dsimp only at h;cases rest with
      |cons _ _=>cases h
      |nil=>
       injection h with h;subst h;simp only [qS] at hp;cases hc:oA cs with
       |none=>rw [hc] at hp;cases hp
       |some l=>rw [hc] at hp;injection hp with hp;subst hp;obtain ⟨p1,p2,rfl,h1,h2⟩:=A.law hA hc;simp only [oA,If] at h2;subst h2;simp only [qS,h1,aam]
    cases h
  cases h
def Arg.ref {α:Type} (A:bR α):Arg α where
 enc a:= .bu (A.enc a) 0
 dec v:=match v with
  | .bu cs 0=>match A.dec cs with
   |some p=>match p.2 with
    | []=>ahi p.1
    |_=>ahj
   |none=>ahj
  |_=>ahj
 law:=fun {v a p} h hp=>by
  split at h
  · rename_i cs
    split at h
    · rename_i q hA
      obtain ⟨x,rest⟩:=q;dsimp only at h;cases rest with
      |cons _ _=>cases h
      |nil=>
       injection h with h;subst h;simp only [qS] at hp;cases hc:oA cs with
       |none=>rw [hc] at hp;cases hp
       |some l=>rw [hc] at hp;injection hp with hp;subst hp;obtain ⟨p1,p2,rfl,h1,h2⟩:=A.law hA hc;simp only [oA,If] at h2;subst h2;simp only [qS,h1,aam]
    cases h
  cases h
def au.nil:au Unit where
 enc _:=[]
 dec vs:=match vs with
  | []=>ahi ()
  |_=>ahj
 law:=fun {vs a ps} h hp=>by
  split at h
  · exact hp
  cases h
def au.one {α:Type} (A:Arg α):au α where
 enc a:=[A.enc a]
 dec vs:=match vs with
  | [v]=>A.dec v
  |_=>ahj
 law:=fun {vs a ps} h hp=>by
  split at h
  · obtain ⟨p,qs,rfl,h1,h2⟩:=dV.1 hp
    exact dV.2 ⟨p,qs,rfl,A.law h h1,h2⟩
  cases h
def au.cons {α β:Type} (A:Arg α) (B:au β):au (α×β) where
 enc a:=A.enc a.1::B.enc a.2
 dec vs:=match vs with
  |v::r=>match A.dec v with
   |some x=>match B.dec r with
    |some y=>ahi (x,y)
    |none=>ahj
   |none=>ahj
  | []=>ahj
 law:=fun {vs a ps} h hp=>by
  split at h
  · split at h
    · rename_i x hx
      split at h
      · rename_i y hy
        injection h with h;subst h;obtain ⟨p,qs,rfl,h1,h2⟩:=dV.1 hp;exact dV.2 ⟨p,qs,rfl,A.law hx h1,B.law hy h2⟩
      cases h
    cases h
  cases h
def Arg.bS {α:Type} (A:au α):Arg α where
 enc a:= .bS (A.enc a)
 dec v:=match v with
  | .bS vs=>A.dec vs
  |_=>ahj
 law:=fun {v a p} h hp=>by
  split at h
  · rename_i vs
    simp only [qS] at hp;cases hc:oA vs with
    |none=>rw [hc] at hp;cases hp
    |some l=>rw [hc] at hp;injection hp with hp;subst hp;simp only [qS,A.law h hc]
  cases h
def Arg.eh {α:Type} (f:FuncId) (A:au α):Arg α where
 enc a:= .eh f [] (A.enc a)
 dec v:=match v with
  | .eh g [] b=>bif UV g f then A.dec b else ahj
  |_=>ahj
 law:=fun {v a p} h hp=>by
  split at h
  · rename_i g b
    cases hg:UV g f with
    |false=>rw [hg] at h;cases h
    |true=>
     rw [hg] at h;have:=v6 hg;subst this;simp only [qS,oA] at hp ⊢;cases hc:oA b with
     |none=>rw [hc] at hp;cases hp
     |some l=>rw [hc] at hp;rw [A.law h hc];exact hp
  cases h
def ru.rows {α:Type} (A:Arg α) (q r:List PT) (g:α->List (RT q)) (fn:List (RT q)->Option (List (RT r))):ru:=⟨.one A,.sl r,fun a=>fn (g a),.own,ahl⟩
def ru.clone (r:List PT):ru:=⟨.one (.sl r),.sl r,bP,.own,ahl⟩
def oI (a b c:Int):Option (Int×Int):=bif ahm (0<=a)&&ahm (0<=b)&&ahm (0<=c)&&ahm (c<=1) then ahi ((a+b+c)%18446744073709551616,(a+b+c) / 18446744073709551616) else ahj
def ru.NG:ru:=⟨.cons (.int .u64) (.cons (.int .u64) (.one (.int .u64))),.bS (.cons (.int .u64) (.one (.int .u64))),fun a=>oI a.1 a.2.1 a.2.2,.pure,ahl⟩
def JU:List (Nat×ru)->FuncId->List ru
 | [],_=>[]
 |(g,c)::r,f=>bif UV g f then c::JU r f else JU r f
def JV:List (Nat×ff)->FuncId->List ff
 | [],_=>[]
 |(g,c)::r,f=>bif UV g f then c::JV r f else JV r f
def Ia:List (Nat×Cd)->FuncId->Option Cd
 | [],_=>ahj
 |(g,c)::r,f=>bif UV g f then ahi c else Ia r f
def qy (lp:Option Nat) (c:List (Nat×ru)) (p:List (Nat×ff)) (x:List (Nat×Cd)) (rk:List (Nat×List PT)):Ctx:=⟨lp,JU c,JV p,Ia x,rk,ahl⟩
end Go.Vm
/- What a typed value says of a value of the logical machine. -/
namespace Go.Vm
def OwnAt (s:List SB) (t e n:Nat):Prop:=(∃r l,s[t]? =ahi (.arr r l)/\e=ahh r/\n=ahh l)\/s[t]? =ahi .dead
def zl (s:List SB) (t e:Nat):Prop:=(∃r l,s[t]? =ahi (.arr r l)/\e=ahh r)\/s[t]? =ahi .dead\/(∃cs,s[t]? =ahi (.box cs)/\e=1)
def RF (s:List SB) (t:Nat) (r:List PT) (i:Int) (a:RT r):Prop:=(∃l,s[t]? =ahi (.arr r l)/\aG l i=ahi a)\/s[t]? =ahi .dead
def ab6 (s:List SB) (t:Nat) (i:Int):Prop:=(∃r l,s[t]? =ahi (.arr r l)/\(aG l i).isSome=ahk)\/s[t]? =ahi .dead
mutual
def R (s:List SB):SV->PV->Prop
 | .gP,_=>True
 | .undef,v=>v= .undef
 | .jl,v=>v= .jl
 | .dz,v=>v= .dz
 | .int k n,v=>v= .int k n
 | .bool b,v=>v= .bool b
 | .str x,v=>v= .str x
 | .agg cs,v=> ∃ps,v= .agg ps/\RL s cs ps
 | .bS cs,v=> ∃ps,v= .bS ps/\RL s cs ps
 | .sl r l,v=>v= .sl (ahh r) ahl (l.map (RT.pv r))
 | .nil e c,v=>v= .sl e c []
 | .own t ex,v=> ∃e n,v= .own t e 0 n n ex/\OwnAt s t e n
 | .pre t len cap ex,v=> ∃e,v= .own t e 0 len cap ex/\zl s t e
 | .part t off len cap ex,v=> ∃e,v= .own t e off len cap ex/\zl s t e
 | .pa t r i a off,v=>v= .ptr t (ahh r) i.toNat off/\RF s t r i a
 | .pb t i off,v=> ∃e,v= .ptr t e i.toNat off/\ab6 s t i
 | .bp t n off,v=>v= .ptr t n 0 off
 | .bu cs off,v=> ∃ps,v= .bu ps off/\RL s cs ps
 | .eh f a b,v=> ∃pa pb,v= .eh f pa pb/\RL s a pa/\RL s b pb
 | .mp t,v=>v= .mp t
def RL (s:List SB):List SV->List PV->Prop
 | [],ps=>ps=[]
 |x::xs,ps=> ∃p q,ps=p::q/\R s x p/\RL s xs q
end
def sI:List Int->PV
 | [a]=> .int .i64 a
 |l=> .agg (l.map (.int .i64))
def A3 (k:List Int):PV×PV:=(sI k,.bool ahk)
def Ds (p:PT) (a:RT [.i .i64,p]):PV×PV:=(.int .i64 a.1,p.pv a.2)
def RB (s:List SB):SB->jL->Prop
 | .arr r l,b=>b= .arr (ahh r) (l.map (RT.pv r))
 | .box cs,b=> ∃ps,b= .box ps/\RL s cs ps
 | .set l,b=>b= .map (l.map A3)
 | .bD p l,b=>b= .map (l.map (Ds p))
 | .dead,b=>b= .dead
structure cj (s:List SB) (p:bW):Prop where
 len:(ahh p)=ahh s
 at_: ∀(t:Nat) (b:SB),s[t]? =ahi b-> ∃q,p[t]? =ahi q/\RB s b q
def dA (s:List SB):SE->Env->Prop
 | [],e=>e=[]
 |(t,v)::r,e=> ∃p q,e=(t,p)::q/\R s v p/\dA s r q
structure yF (st:oF) (p:St):Prop where
 env:dA st.aA st.env p.env
 aA:cj st.aA p.aA
 fz:p.fz=st.fz
 kn:p.kn=st.kn
theorem mc: ∀(s l:List SB),apS s l=s++l
 | [],_=>rfl
 |b::r,l=>by simp [apS,mc r l]
theorem A4: ∀(s:List SB) (t:Nat) (b:SB),Rz s t b=s.set t b
 | [],_,_=>by simp [Rz]
 |_::_,0,_=>rfl
 |x::r,n+1,b=>by simp [Rz,A4 r n b]
theorem RL.nil {s:List SB}:RL s [] []:=rfl
theorem RL.cons {s:List SB} {x:SV} {xs:List SV} {p:PV} {q:List PV} (h:R s x p) (k:RL s xs q):RL s (x::xs) (p::q):=⟨p,q,rfl,h,k⟩
theorem RL.cons_inv {s:List SB} {x:SV} {xs:List SV} {ps:List PV} (h:RL s (x::xs) ps): ∃p q,ps=p::q/\R s x p/\RL s xs q:=h
theorem RL.mI {s:List SB}: ∀{xs:List SV} {ps:List PV},RL s xs ps->ahh ps=ahh xs
 | [],ps,h=>by rw [show ps=[] from h];rfl
 |x::xs,ps,h=>by obtain ⟨p,q,rfl,_,h2⟩:=h.cons_inv;simp [h2.mI]
theorem RL.append {s:List SB}: ∀{xs:List SV} {ps:List PV},RL s xs ps-> ∀{ys:List SV} {qs:List PV},RL s ys qs->RL s (xs++ys) (ps++qs)
 | [],ps,h,_,_,k=>by rw [show ps=[] from h];exact k
 |x::xs,ps,h,_,_,k=>by obtain ⟨p,q,rfl,h1,h2⟩:=h.cons_inv;exact RL.cons h1 (h2.append k)
theorem RL.take {s:List SB}: ∀{xs:List SV} {ps:List PV},RL s xs ps-> ∀n,RL s (xs.take n) (ps.take n)
 | [],ps,h,n=>by rw [show ps=[] from h];simp;exact RL.nil
 |x::xs,ps,h,0=>by simp;exact RL.nil
 |x::xs,ps,h,n+1=>by obtain ⟨p,q,rfl,h1,h2⟩:=h.cons_inv;exact RL.cons h1 (h2.take n)
theorem RL.drop {s:List SB}: ∀{xs:List SV} {ps:List PV},RL s xs ps-> ∀n,RL s (xs.drop n) (ps.drop n)
 | [],ps,h,n=>by rw [show ps=[] from h];simp;exact RL.nil
 |x::xs,ps,h,0=>h
 |x::xs,ps,h,n+1=>by obtain ⟨p,q,rfl,h1,h2⟩:=h.cons_inv;exact h2.drop n
theorem RL.nth {s:List SB}: ∀{xs:List SV} {ps:List PV},RL s xs ps-> ∀{n:Nat} {v:SV},Vm.nth xs n=ahi v-> ∃p,ps[n]? =ahi p/\R s v p
 | [],_,_,_,_,e=>by cases e
 |x::xs,ps,h,0,v,e=>by obtain ⟨p,q,rfl,h1,_⟩:=h.cons_inv;injection e with e;subst e;exact ⟨p,rfl,h1⟩
 |x::xs,ps,h,n+1,v,e=>by obtain ⟨p,q,rfl,_,h2⟩:=h.cons_inv;obtain ⟨p',h3,h4⟩:=h2.nth (n:=n) e;exact ⟨p',by simpa using h3,h4⟩
mutual
theorem L4 (s:List SB): ∀v:PV,R s (Uy v) v
 | .undef=>rfl
 | .jl=>rfl
 | .dz=>rfl
 | .int _ _=>rfl
 | .bool _=>rfl
 | .str _=>rfl
 | .agg cs=>⟨cs,rfl,vu s cs⟩
 | .bS cs=>⟨cs,rfl,vu s cs⟩
 | .sl e c rows=>by
  cases rows with
  |nil=>exact rfl
  |cons _ _=>trivial
 | .eh f a b=>⟨a,b,rfl,vu s a,vu s b⟩
 | .own .. =>trivial
 | .ptr .. =>trivial
 | .bu .. =>trivial
 | .mp _=>trivial
theorem vu (s:List SB): ∀l:List PV,RL s (AW l) l
 | []=>rfl
 |x::xs=>RL.cons (L4 s x) (vu s xs)
end
theorem dA.lk {s:List SB}: ∀{e:SE} {p:Env},dA s e p-> ∀t,R s (CY t e) (Vm.lk t p)
 | [],p,h,t=>by rw [show p=[] from h];rfl
 |(u,v)::r,p,h,t=>by
  obtain ⟨q,qs,rfl,h1,h2⟩:=h;simp only [CY,Vm.lk];cases hb:UV u t with
  |true=>exact h1
  |false=>exact dA.lk h2 t
theorem dA.zV {s:List SB}: ∀{e:SE} {p:Env},dA s e p-> ∀{t:Nat} {v:SV},R s v (Vm.lk t p)->dA s (Vm.zV t v e) p
 | [],p,h,t,v,_=>h
 |(u,x)::r,p,h,t,v,hv=>by
  obtain ⟨q,qs,rfl,h1,h2⟩:=h;simp only [Vm.zV];simp only [Vm.lk] at hv;cases hb:UV u t with
  |true=>rw [hb] at hv;exact ⟨q,qs,rfl,hv,h2⟩
  |false=>rw [hb] at hv;exact ⟨q,qs,rfl,h1,dA.zV h2 hv⟩
theorem dh {s:List SB} {e:SE} {p:Env} (h:dA s e p): ∀x:fj,R s (bG e x) (x.ev p)
 | .t n=>h.lk n
 | .c v=>L4 s v
theorem yG {s:List SB} {e:SE} {p:Env} (h:dA s e p): ∀l:List fj,RL s (jx e l) (D2 p l)
 | []=>rfl
 |x::xs=>RL.cons (dh h x) (yG h xs)
def Fr (bad:List Nat) (s s':List SB):Prop:= ∀(t:Nat) (b:SB),s[t]? =ahi b->match b with
 | .arr r l=>(∃l',s'[t]? =ahi (.arr r l')/\ahh l'=ahh l/\(has bad t=ahl->l'=l))\/s'[t]? =ahi .dead
 | .dead=>s'[t]? =ahi .dead
 | .box _=>(∃cs,s'[t]? =ahi (.box cs))\/s'[t]? =ahi .dead
 |_=>True
theorem Fr.refl (bad:List Nat) (s:List SB):Fr bad s s:=fun t b h=>by
 cases b with
 |arr r l=>exact .inl ⟨l,h,rfl,fun _=>rfl⟩
 |dead=>exact h
 |box cs=>exact .inl ⟨cs,h⟩
 |_=>trivial
theorem Fr.app (bad:List Nat) (s l:List SB):Fr bad s (s++l):=fun t b h=>by
 have h':(s++l)[t]? =ahi b:=by have:=(AC.1 h).1;rw [Do this];exact h
 cases b with
 |arr r l=>exact .inl ⟨l,h',rfl,fun _=>rfl⟩
 |dead=>exact h'
 |box cs=>exact .inl ⟨cs,h'⟩
 |_=>trivial
theorem Fr.trans {bad:List Nat} {a b c:List SB} (h:Fr bad a b) (k:Fr bad b c):Fr bad a c:=fun t x hx=>by
 have h1:=h t x hx;cases x with
 |arr r l=>
  rcases h1 with ⟨l',h2,h3,h4⟩|h2
  · have k1:=k t _ h2
    rcases k1 with ⟨l2,k2,k3,k4⟩|k2
    · exact .inl ⟨l2,k2,k3.trans h3,fun hb=>(k4 hb).trans (h4 hb)⟩
    exact .inr k2
  exact .inr (k t _ h2)
 |dead=>exact k t _ h1
 |box cs=>
  rcases h1 with ⟨c2,h2⟩|h2
  · exact k t _ h2
  exact .inr (k t _ h2)
 |_=>trivial
theorem C2 {α:Type} {l m:List α} {i:Int} (h:(aG l i).isSome=ahk) (hl:(ahh m)=ahh l):(aG m i).isSome=ahk:=by
 cases i with
 |ofNat n=>simp only [aG] at h ⊢;rw [abQ] at h;obtain ⟨a,ha⟩:=h;have:=(AC.1 ha).1;rw [IR (by omega)];rfl
 |negSucc n=>simp [aG] at h
mutual
theorem R.fr {bad:List Nat} {s s':List SB} (hf:Fr bad s s'): ∀{v:SV} {p:PV},R s v p->R s' (TX bad v) p
 | .gP,_,_=>trivial
 | .undef,_,h=>h
 | .jl,_,h=>h
 | .dz,_,h=>h
 | .int _ _,_,h=>h
 | .bool _,_,h=>h
 | .str _,_,h=>h
 | .agg cs,_,h=>by obtain ⟨ps,rfl,h⟩:=h;exact ⟨ps,rfl,RL.fr hf h⟩
 | .bS cs,_,h=>by obtain ⟨ps,rfl,h⟩:=h;exact ⟨ps,rfl,RL.fr hf h⟩
 | .sl _ _,_,h=>h
 | .nil _ _,_,h=>h
 | .own t ex,_,h=>by
  obtain ⟨e,n,rfl,h⟩:=h;refine ⟨e,n,rfl,?_⟩;rcases h with ⟨r,l,h1,h2,h3⟩|h1
  · rcases hf t _ h1 with ⟨l',k1,k2,_⟩|k1
    · exact .inl ⟨r,l',k1,h2,by rw [h3,k2]⟩
    exact .inr k1
  exact .inr (hf t _ h1)
 | .pre t len cap ex,_,h=>by
  obtain ⟨e,rfl,h⟩:=h;refine ⟨e,rfl,?_⟩;rcases h with ⟨r,l,h1,h2⟩|h1|⟨cs,h1,h2⟩
  · rcases hf t _ h1 with ⟨l',k1,_,_⟩|k1
    · exact .inl ⟨r,l',k1,h2⟩
    exact .inr (.inl k1)
  · exact .inr (.inl (hf t _ h1))
  rcases hf t _ h1 with ⟨c2,k1⟩|k1
  · exact .inr (.inr ⟨c2,k1,h2⟩)
  exact .inr (.inl k1)
 | .part t off len cap ex,_,h=>by
  obtain ⟨e,rfl,h⟩:=h;refine ⟨e,rfl,?_⟩;rcases h with ⟨r,l,h1,h2⟩|h1|⟨cs,h1,h2⟩
  · rcases hf t _ h1 with ⟨l',k1,_,_⟩|k1
    · exact .inl ⟨r,l',k1,h2⟩
    exact .inr (.inl k1)
  · exact .inr (.inl (hf t _ h1))
  rcases hf t _ h1 with ⟨c2,k1⟩|k1
  · exact .inr (.inr ⟨c2,k1,h2⟩)
  exact .inr (.inl k1)
 | .pa t r i a off,_,h=>by
  obtain ⟨rfl,h⟩:=h;simp only [TX];cases hb:has bad t with
  |true=>
   refine ⟨_,rfl,?_⟩;rcases h with ⟨l,h1,h2⟩|h1
   · rcases hf t _ h1 with ⟨l',k1,k2,_⟩|k1
     · exact .inl ⟨r,l',k1,C2 (by rw [h2];rfl) k2⟩
     exact .inr k1
   exact .inr (hf t _ h1)
  |false=>
   refine ⟨rfl,?_⟩;rcases h with ⟨l,h1,h2⟩|h1
   · rcases hf t _ h1 with ⟨l',k1,_,k3⟩|k1
     · exact .inl ⟨l',k1,by rw [k3 hb];exact h2⟩
     exact .inr k1
   exact .inr (hf t _ h1)
 | .pb t i off,_,h=>by
  obtain ⟨e,rfl,h⟩:=h;refine ⟨e,rfl,?_⟩;rcases h with ⟨r,l,h1,h2⟩|h1
  · rcases hf t _ h1 with ⟨l',k1,k2,_⟩|k1
    · exact .inl ⟨r,l',k1,C2 h2 k2⟩
    exact .inr k1
  exact .inr (hf t _ h1)
 | .bp _ _ _,_,h=>h
 | .bu cs off,_,h=>by obtain ⟨ps,rfl,h⟩:=h;exact ⟨ps,rfl,RL.fr hf h⟩
 | .eh f a b,_,h=>by obtain ⟨pa,pb,rfl,h1,h2⟩:=h;exact ⟨pa,pb,rfl,RL.fr hf h1,RL.fr hf h2⟩
 | .mp _,_,h=>h
theorem RL.fr {bad:List Nat} {s s':List SB} (hf:Fr bad s s'): ∀{v:List SV} {p:List PV},RL s v p->RL s' (Ry bad v) p
 | [],_,h=>h
 |x::xs,_,h=>by obtain ⟨p,q,rfl,h1,h2⟩:=h.cons_inv;exact RL.cons (R.fr hf h1) (RL.fr hf h2)
end
mutual
theorem NH: ∀v:SV,TX [] v=v
 | .gP| .undef| .jl| .dz| .int _ _| .bool _| .str _| .sl _ _| .nil _ _| .own _ _| .pre _ _ _ _| .part _ _ _ _ _| .pb _ _ _| .bp _ _ _| .mp _=>rfl
 | .agg cs=>by simp only [TX,sV cs]
 | .bS cs=>by simp only [TX,sV cs]
 | .bu cs _=>by simp only [TX,sV cs]
 | .eh _ a b=>by simp only [TX,sV a,sV b]
 | .pa t r i a off=>by simp [TX,has]
theorem sV: ∀v:List SV,Ry [] v=v
 | []=>rfl
 |x::xs=>by simp only [Ry,NH x,sV xs]
end
theorem R.ext {s s':List SB} (hf:Fr [] s s') {v:SV} {p:PV} (h:R s v p):R s' v p:=by
 have:=R.fr hf h
 rwa [NH] at this
theorem RL.ext {s s':List SB} (hf:Fr [] s s') {v:List SV} {p:List PV} (h:RL s v p):RL s' v p:=by
 have:=RL.fr hf h
 rwa [sV] at this
theorem RB.fr {bad:List Nat} {s s':List SB} (hf:Fr bad s s') {b:SB} {p:jL} (h:RB s b p):RB s' (UE bad b) p:=by
 cases b with
 |box cs=>obtain ⟨ps,rfl,h⟩:=h;exact ⟨ps,rfl,RL.fr hf h⟩
 |_=>exact h
theorem RB.ext {s s':List SB} (hf:Fr [] s s') {b:SB} {p:jL} (h:RB s b p):RB s' b p:=by
 cases b with
 |box cs=>obtain ⟨ps,rfl,h⟩:=h;exact ⟨ps,rfl,RL.ext hf h⟩
 |_=>exact h
theorem dA.fr {bad:List Nat} {s s':List SB} (hf:Fr bad s s'): ∀{e:SE} {p:Env},dA s e p->dA s' (dgE bad e) p
 | [],_,h=>h
 |(t,v)::r,_,h=>by obtain ⟨p,q,rfl,h1,h2⟩:=h;exact ⟨p,q,rfl,R.fr hf h1,dA.fr hf h2⟩
theorem dA.ext {s s':List SB} (hf:Fr [] s s'): ∀{e:SE} {p:Env},dA s e p->dA s' e p
 | [],_,h=>h
 |(t,v)::r,_,h=>by obtain ⟨p,q,rfl,h1,h2⟩:=h;exact ⟨p,q,rfl,R.ext hf h1,dA.ext hf h2⟩
theorem cj.app {s:List SB} {p:bW} (h:cj s p) {l:List SB} {q:bW} (hl:(ahh q)=ahh l) (hb: ∀(j:Nat) (b:SB),l[j]? =ahi b-> ∃x,q[j]? =ahi x/\RB (s++l) b x):cj (s++l) (p++q) where
 len:=by simp [h.len,hl]
 at_:=fun t b ht=>by
  rcases ab5 t (ahh s) with df|hge
  · rw [Do df] at ht
    obtain ⟨x,h1,h2⟩:=h.at_ t b ht;exact ⟨x,by rw [Do (by rw [h.len];exact df)];exact h1,h2.ext (Fr.app [] s l)⟩
  rw [EQ hge] at ht
  obtain ⟨x,h1,h2⟩:=hb _ b ht;exact ⟨x,by rw [EQ (by rw [h.len];exact hge),h.len];exact h1,h2⟩
theorem qT (ts:List Nat): ∀(s:List SB) (t:Nat),(BK ts s)[t]? =(s[t]?).map (UE ts)
 | [],t=>by simp [BK]
 |b::r,0=>by simp [BK]
 |b::r,t+1=>by simp [BK,qT ts r t]
theorem vv (ts:List Nat): ∀(s:List SB),(BK ts s).length=ahh s
 | []=>rfl
 |b::r=>by simp [BK,vv ts r]
theorem Fr.dg {bad ts:List Nat} {s s':List SB} (h:Fr bad s s'):Fr bad s (BK ts s'):=fun t b hb=>by
 have h1:=h t b hb;cases b with
 |arr r l=>
  rcases h1 with ⟨l',h2,h3,h4⟩|h2
  · exact .inl ⟨l',by rw [qT,h2];rfl,h3,h4⟩
  exact .inr (by rw [qT,h2];rfl)
 |dead=>show (BK ts s')[t]? =_;rw [qT,h1];rfl
 |box cs=>
  rcases h1 with ⟨c2,h2⟩|h2
  · exact .inl ⟨Ry ts c2,by rw [qT,h2];rfl⟩
  exact .inr (by rw [qT,h2];rfl)
 |_=>trivial
theorem G0 {s:List SB}: ∀(r:List PT) (a:RT r),RL s (RT.sv r a) (RT.pv r a)
 | [],_=>rfl
 | [p],a=>by refine RL.cons ?_ RL.nil;cases p<;>rfl
 |p::q::r,a=>by refine RL.cons ?_ (G0 (q::r) a.2);cases p<;>rfl
theorem yH {s:List SB}: ∀(r:List PT) (a:RT r) {ps:List PV},RL s (RT.sv r a) ps->ps=RT.pv r a
 | [],_,ps,h=>h
 | [p],a,ps,h=>by obtain ⟨x,q,rfl,h1,h2⟩:=h.cons_inv;have Pp:q=[]:=h2;subst Pp;cases p<;>(have Lj:=h1;simp only [PT.sv,R] at Lj;rw [Lj];rfl)
 |p::q::r,a,ps,h=>by obtain ⟨x,qs,rfl,h1,h2⟩:=h.cons_inv;rw [yH (q::r) a.2 h2];cases p<;>(have Lj:=h1;simp only [PT.sv,R] at Lj;rw [Lj];rfl)
theorem RT.plain: ∀(r:List PT) (a:RT r),(RT.pv r a).all PV.plain=ahk
 | [],_=>rfl
 | [p],a=>by cases p<;>rfl
 |p::q::r,a=>by have:=RT.plain (q::r) a.2;cases p<;>(simp only [RT.pv,agc,this,abr];rfl)
theorem R.cells {s:List SB} {v:SV} {p:PV} (h:R s v p) (hj:v≠ .gP):RL s v.cells p.cells:=by
 cases v with
 |gP=>exact absurd rfl hj
 |agg cs=>obtain ⟨ps,rfl,h⟩:=h;exact h
 |undef=>rw [show p= .undef from h];exact RL.cons rfl RL.nil
 |jl=>rw [show p= .jl from h];exact RL.cons rfl RL.nil
 |dz=>rw [show p= .dz from h];exact RL.cons rfl RL.nil
 |int k n=>rw [show p= .int k n from h];exact RL.cons rfl RL.nil
 |bool b=>rw [show p= .bool b from h];exact RL.cons rfl RL.nil
 |str x=>rw [show p= .str x from h];exact RL.cons rfl RL.nil
 |sl r l=>rw [show p=_ from h];exact RL.cons rfl RL.nil
 |nil e c=>rw [show p=_ from h];exact RL.cons rfl RL.nil
 |bp t n o=>rw [show p=_ from h];exact RL.cons rfl RL.nil
 |mp t=>rw [show p=_ from h];exact RL.cons rfl RL.nil
 |bS cs=>obtain ⟨ps,rfl,h⟩:=h;exact RL.cons ⟨ps,rfl,h⟩ RL.nil
 |own t ex=>obtain ⟨e,n,rfl,h⟩:=h;exact RL.cons ⟨e,n,rfl,h⟩ RL.nil
 |pre t a b c=>obtain ⟨e,rfl,h⟩:=h;exact RL.cons ⟨e,rfl,h⟩ RL.nil
 |part t o a b c=>obtain ⟨e,rfl,h⟩:=h;exact RL.cons ⟨e,rfl,h⟩ RL.nil
 |pa t r i a o=>obtain ⟨rfl,h⟩:=h;exact RL.cons ⟨rfl,h⟩ RL.nil
 |pb t i o=>obtain ⟨e,rfl,h⟩:=h;exact RL.cons ⟨e,rfl,h⟩ RL.nil
 |bu cs o=>obtain ⟨ps,rfl,h⟩:=h;exact RL.cons ⟨ps,rfl,h⟩ RL.nil
 |eh f a b=>obtain ⟨pa,pb,rfl,h⟩:=h;exact RL.cons ⟨pa,pb,rfl,h⟩ RL.nil
theorem R.pJ {s:List SB} {v:SV} {p:PV} (h:R s v p) (ho:v.pJ=ahk):p.pJ=ahk:=by
 cases v with
 |gP|undef|jl|agg _|bS _=>cases ho
 |dz|int _ _|bool _|str _|sl _ _|nil _ _|bp _ _ _|mp _=>rw [show p=_ from h];rfl
 |own t ex=>obtain ⟨e,n,rfl,h⟩:=h;rfl
 |pre t a b c=>obtain ⟨e,rfl,h⟩:=h;rfl
 |part t o a b c=>obtain ⟨e,rfl,h⟩:=h;rfl
 |pa t r i a o=>obtain ⟨rfl,h⟩:=h;rfl
 |pb t i o=>obtain ⟨e,rfl,h⟩:=h;rfl
 |bu cs o=>obtain ⟨ps,rfl,h⟩:=h;rfl
 |eh f a b=>obtain ⟨pa,pb,rfl,h⟩:=h;rfl
theorem RL.xH {s:List SB}: ∀{cs:List SV} {ps:List PV},RL s cs ps->Vm.xH cs=ahk->ps.all PV.pJ=ahk
 | [],ps,h,_=>by rw [show ps=[] from h];rfl
 |x::xs,ps,h,ho=>by obtain ⟨p,q,rfl,h1,h2⟩:=h.cons_inv;simp only [Vm.xH,ww] at ho;simp only [agc,ww];exact ⟨h1.pJ ho.1,h2.xH ho.2⟩
theorem R.stored {s:List SB} {v:SV} {p:PV} {w:List SV} (h:R s v p) (hs:v.stored=ahi w): ∃q,p.stored=ahi q/\RL s w q:=by
 unfold SV.stored at hs;cases ha:Vm.xH v.cells with
 |false=>rw [ha] at hs;cases hs
 |true=>
  rw [ha] at hs;injection hs with hs;subst hs;have hj:v≠ .gP:=by intro e;subst e;cases ha
  have hc:=h.cells hj;exact ⟨p.cells,by unfold PV.stored;rw [rc (hc.xH ha)],hc⟩
theorem R.ofRow {s:List SB} {v:SV} {p:PV} {r:List PT} {a:RT r} (h:R s v p) (hr:RT.of r v.cells=ahi a):p.cb=ahi (RT.pv r a)/\ahh v.cells=(ahh r):=by
 have hc:=RT.ph hr;have hl:(ahh v.cells)=(ahh r):=by rw [hc,RT.H9]
 refine ⟨?_,hl⟩;have hj:v≠ .gP:=by
  intro e;subst e;cases r with
  |nil=>simp [SV.cells,RT.of] at hr
  |cons p q=>cases q with
   |nil=>cases p<;>simp [SV.cells,RT.of,PT.of] at hr
   |cons _ _=>simp only [SV.cells,RT.of] at hr;split at hr<;>cases hr<;>(rename_i x y h1 h2;simp at h2)
 have h1:=h.cells hj;rw [hc] at h1;have h2:=yH r a h1;unfold PV.cb;rw [h2,rc (RT.plain r a)]
theorem sW {s:List SB} {agg:Option Nat} {off:Nat} {cs:List SV} {ps:List PV} {v:SV} (h:RL s cs ps) (hp:zi agg off cs=ahi v): ∃p,part agg off ps=ahi p/\R s v p:=by
 cases agg with
 |none=>obtain ⟨p,h1,h2⟩:=h.nth hp;exact ⟨p,h1,h2⟩
 |some n=>
  simp only [zi] at hp;cases hb:PP (off+n) (ahh cs) with
  |false=>rw [hb] at hp;cases hp
  |true=>
   rw [hb] at hp;injection hp with hp;subst hp;have:off+n<=(ahh ps):=by rw [h.mI];exact aa6 hb
   exact ⟨.agg ((ps.drop off).take n),by simp only [part,rc this],_,rfl,(h.drop off).take n⟩
theorem yI {s:List SB} {off:Nat} {new old:List SV} {pn po:List PV} (h:RL s new pn) (k:RL s old po):RL s (pf off new old) (nA off pn po):=by unfold pf nA;rw [h.mI];exact ((k.take off).append h).append (k.drop _)
theorem NI {s:List SB} {ps:bW} {v:SV} {p:PV} {r:List PT} {l:List (RT r)} (hs:cj s ps) (h:R s v p) (hc:zj s v=ahi ⟨r,l⟩):
 rowsOf ps (ahh r) p=ahi (l.map (RT.pv r))/\iP p=vp v:=by
 cases v with
 |sl q m=>
  have AI:(⟨q,m⟩:Rows)=⟨r,l⟩:=by injection hc
  cases AI;rw [show p=_ from h];refine ⟨?_,rfl⟩;cases l with
  |nil=>rfl
  |cons a l=>simp [rowsOf]
 |own t ex=>
  simp only [zj,bQ] at hc;split at hc
  · rename_i q m bM
    have AI:(⟨q,m⟩:Rows)=⟨r,l⟩:=by injection hc
    cases AI;obtain ⟨e,n,rfl,cJ⟩:=h;rcases cJ with ⟨q',m',h1,rfl,rfl⟩|h1
    · rw [bM] at h1
      injection h1 with h1;cases h1;obtain ⟨b,h2,h3⟩:=hs.at_ t _ bM;rw [show b=_ from h3] at h2;refine ⟨?_,rfl⟩;simp only [rowsOf,aas,if_true,h2,aaE];rw [aay (by simp)]
    rw [bM] at h1;cases h1
  cases hc
 |pre t len cap ex=>
  simp only [zj,bQ] at hc;split at hc
  · rename_i q m bM
    have AI:(⟨q,m.take len⟩:Rows)=⟨r,l⟩:=by injection hc
    cases AI;obtain ⟨e,rfl,cJ⟩:=h;rcases cJ with ⟨q',m',h1,rfl⟩|h1|⟨_,h1,_⟩
    · rw [bM] at h1
      injection h1 with h1;cases h1;obtain ⟨b,h2,h3⟩:=hs.at_ t _ bM;rw [show b=_ from h3] at h2;refine ⟨?_,rfl⟩;simp only [rowsOf,aas,if_true,h2];simp
    · rw [bM] at h1;cases h1
    rw [bM] at h1;cases h1
  cases hc
 |part t off len cap ex=>
  simp only [zj,bQ] at hc;split at hc
  · rename_i q m bM
    have AI:(⟨q,(m.drop off).take len⟩:Rows)=⟨r,l⟩:=by injection hc
    cases AI;obtain ⟨e,rfl,cJ⟩:=h;rcases cJ with ⟨q',m',h1,rfl⟩|h1|⟨_,h1,_⟩
    · rw [bM] at h1
      injection h1 with h1;cases h1;obtain ⟨b,h2,h3⟩:=hs.at_ t _ bM;rw [show b=_ from h3] at h2;refine ⟨?_,rfl⟩;simp only [rowsOf,aas,if_true,h2];simp
    · rw [bM] at h1;cases h1
    rw [bM] at h1;cases h1
  cases hc
 |_=>cases hc
end Go.Vm
/- Operation by operation: what the typed machine does, the logical machine does; the easy ones. -/
namespace Go.Vm
structure Good (s:List SB) (ps:bW) (sr:fJ) (pr:nB):Prop where
 rd:pr.rd=sr.rd
 fr:pr.fr=sr.fr
 wr:pr.wr.map (·.1)=xL sr.wr
 nw:uZ pr.wr=ahk
 nl:(ahh pr.news)=ahh sr.news
 aA:cj (sr.na s) (sD (fR pr.wr ps) pr.news)
 v:R (sr.na s) sr.v pr.v
 fra:Fr (xL sr.wr) s (sr.na s)
section
variable {s : List SB} {ps : bW}
theorem Good.val (hS:cj s ps) {v:SV} {p:PV} {rd fr:List Nat} (hv:R s v p):Good s ps {v,rd,fr} {v:=p,rd,fr} where
 rd:=rfl
 fr:=rfl
 wr:=rfl
 nw:=rfl
 nl:=rfl
 aA:=by simp only [fJ.na,mc,aam,fR,sD];exact hS
 v:=by simp only [fJ.na,mc,aam];exact hv
 fra:=by simp only [fJ.na,mc,aam];exact Fr.refl _ _
theorem Good.news (hS:cj s ps) {v:SV} {p:PV} {l:List SB} {q:bW} {rd:List Nat} (hl:(ahh q)=ahh l) (hb: ∀(j:Nat) (b:SB),l[j]? =ahi b-> ∃x,q[j]? =ahi x/\RB (s++l) b x) (hv:R (s++l) v p):
 Good s ps {v,news:=l,rd} {v:=p,news:=q,rd} where
 rd:=rfl
 fr:=rfl
 wr:=rfl
 nw:=rfl
 nl:=hl
 aA:=by simp only [fJ.na,mc,fR,qK];exact hS.app hl hb
 v:=by simp only [fJ.na,mc];exact hv
 fra:=by simp only [fJ.na,mc];exact Fr.app _ _ _
theorem Good.new (hS:cj s ps) {v:SV} {p:PV} {b:SB} {q:jL} {rd:List Nat} (hb:RB (s++[b]) b q) (hv:R (s++[b]) v p):Good s ps {v,news:=[b],rd} {v:=p,news:=[q],rd}:=
 Good.news hS rfl (fun j x h=>by
  cases j with
  |zero=>simp at h;subst h;exact ⟨q,rfl,hb⟩
  |succ j=>simp at h) hv
def NJ (b0 b:SB):Prop:=
 match b0 with
 | .arr r l=>(∃l',b= .arr r l'/\ahh l'=ahh l)\/b= .dead
 | .dead=>b= .dead
 | .box _=>(∃cs,b= .box cs)\/b= .dead
 |_=>True
theorem Fr.set {t:Nat} {b0 b:SB} (h0:s[t]? =ahi b0) (hk:NJ b0 b):Fr [t] s (s.set t b):=fun u x hu=>by
 by_cases Lk:t=u
 · subst Lk
   rw [h0] at hu;injection hu with hu;subst hu;have df:=(AC.1 h0).1;have hb:(s.set t b)[t]? =ahi b:=by simp [df]
   cases b0 with
   |arr r l=>
    rcases hk with ⟨l',rfl,hl⟩|rfl
    · exact .inl ⟨l',hb,hl,fun h=>by simp [has] at h⟩
    exact .inr hb
   |dead=>rw [show b= .dead from hk] at hb ⊢;exact hb
   |box cs=>
    rcases hk with ⟨c2,rfl⟩|rfl
    · exact .inl ⟨c2,hb⟩
    exact .inr hb
   |_=>trivial
 have hb:(s.set t b)[u]? =ahi x:=by rw [NE];simp [Lk,hu]
 cases x with
 |arr r l=>exact .inl ⟨l,hb,rfl,fun _=>rfl⟩
 |dead=>exact hb
 |box cs=>exact .inl ⟨cs,hb⟩
 |_=>trivial
theorem cj.put (hS:cj s ps) {t:Nat} {b0 b:SB} {q:jL} (h0:s[t]? =ahi b0) (hk:NJ b0 b) (hq:RB (BK [t] (s.set t b)) (UE [t] b) q):cj (BK [t] (s.set t b)) (ps.set t q) where
 len:=by simp [vv,hS.len]
 at_:=fun u x hu=>by
  have df:=(AC.1 h0).1;rw [qT] at hu
  by_cases Lk:t=u
  · subst Lk
    have hb:(s.set t b)[t]? =ahi b:=by simp [df]
    rw [hb] at hu;simp at hu;subst hu;exact ⟨q,by rw [NE];simp [hS.len,df],hq⟩
  rw [NE] at hu
  simp only [Lk,if_false,aat] at hu;obtain ⟨y,hy,rfl⟩:=hu;obtain ⟨q',h1,h2⟩:=hS.at_ u y hy;exact ⟨q',by rw [NE];simp [Lk,h1],h2.fr (Fr.dg (Fr.set h0 hk))⟩
theorem Good.put (hS:cj s ps) {v:SV} {p:PV} {t:Nat} {b0 b:SB} {q:jL} {l:List SB} {ql:bW} {rd:List Nat} (h0:s[t]? =ahi b0) (hk:NJ b0 b) (hq:RB (BK [t] (s.set t b)) (UE [t] b) q)
 (hl:(ahh ql)=ahh l) (hb: ∀(j:Nat) (x:SB),l[j]? =ahi x-> ∃y,ql[j]? =ahi y/\RB (BK [t] (s.set t b)++l) x y) (hv:R (BK [t] (s.set t b)++l) v p):
 Good s ps {v,wr:=[(t,b)],news:=l,rd} {v:=p,wr:=[(t,q)],news:=ql,rd} where
 rd:=rfl
 fr:=rfl
 wr:=rfl
 nw:=rfl
 nl:=hl
 aA:=by simp only [fJ.na,mc,fR,qK,xL,qx,A4];exact (hS.put h0 hk hq).app hl hb
 v:=by simp only [fJ.na,mc,xL,qx,A4];exact hv
 fra:=by simp only [fJ.na,mc,xL,qx,A4];exact (Fr.dg (Fr.set h0 hk)).trans (Fr.app _ _ _)
theorem Good.RG (hS:cj s ps) {t:Nat} {b0 b:SB} {q:jL} {rd:List Nat} (h0:s[t]? =ahi b0) (hk:NJ b0 b) (hq:RB (BK [t] (s.set t b)) (UE [t] b) q):
 Good s ps {v:= .undef,wr:=[(t,b)],rd} {v:= .undef,wr:=[(t,q)],rd}:=
 Good.put hS h0 hk hq rfl (fun j x h=>by simp at h) rfl
end
section
variable {R' ρ : Type} {w : R' -> ρ} {y : ρ}
theorem bB {α:Type} {x:Option α} {k:α->fZ R'} (h:la x k ρ w=ahi y): ∃a,x=ahi a/\k a ρ w=ahi y:=by
 cases x with
 |none=>cases h
 |some a=>exact ⟨a,rfl,h⟩
theorem cq {α:Type} {x:Option α} {k:α->fZ R'} (h:kO x k ρ w=ahi y): ∃a,x=ahi a/\k a ρ w=ahi y:=LN h
theorem eJ {c:Bool} {a b:fZ R'} (h:fQ c a b ρ w=ahi y):(c=ahk/\a ρ w=ahi y)\/(c=ahl/\b ρ w=ahi y):=LO h
theorem cu {c:Bool} {a:fZ R'} (h:(bif c then a else aM) ρ w=ahi y):c=ahk/\a ρ w=ahi y:=by
 cases c
 · cases h
 exact ⟨rfl,h⟩
theorem ry {c:Bool} {a:fZ R'} (h:(bif c then aM else a) ρ w=ahi y):c=ahl/\a ρ w=ahi y:=by
 cases c
 · exact ⟨rfl,h⟩
 cases h
theorem hM {c:Bool} {a:fZ R'} (h:fQ c a aM ρ w=ahi y):c=ahk/\a ρ w=ahi y:=by
 rcases eJ h with ⟨h1,h2⟩|⟨_,h2⟩
 · exact ⟨h1,h2⟩
 cases h2
theorem vw {c:Bool} {a:fZ R'} (h:fQ c aM a ρ w=ahi y):c=ahl/\a ρ w=ahi y:=by
 rcases eJ h with ⟨_,h2⟩|⟨h1,h2⟩
 · cases h2
 exact ⟨h1,h2⟩
end
def gJ {R':Type} (s:List SB) (ps:bW) (po:Option nB) (k:fJ->fZ R') (ρ:Type) (w:R'->ρ) (y:ρ):Prop:=
 ∃sr pr,po=ahi pr/\Good s ps sr pr/\k sr ρ w=ahi y
section
variable {R' ρ : Type} {w : R' -> ρ} {y : ρ} {s : List SB} {ps : bW} {e : SE} {pe : Env} {z : List Nat} {k : fJ -> fZ R'}
theorem gJ.val (hS:cj s ps) {po:Option nB} {v:SV} {p:PV} (h:k {v} ρ w=ahi y) (hp:po=ahi {v:=p}) (hv:R s v p):gJ s ps po k ρ w y:=
 ⟨_,_,hp,Good.val hS hv,h⟩
theorem gJ.rd (hS:cj s ps) {po:Option nB} {v:SV} {p:PV} {rd:List Nat} (h:k {v,rd} ρ w=ahi y) (hp:po=ahi {v:=p,rd}) (hv:R s v p):gJ s ps po k ρ w y:=
 ⟨_,_,hp,Good.val hS hv,h⟩
theorem mL (hE:dA s e pe) {x:fj} {a:IntKind} {n:Int} (h:bG e x= .int a n):x.ev pe= .int a n:=by have:=dh hE x;rw [h] at this;exact this
theorem A5 (hE:dA s e pe) {x:fj} {b:Bool} (h:bG e x= .bool b):x.ev pe= .bool b:=by have:=dh hE x;rw [h] at this;exact this
theorem Pq (hE:dA s e pe) {x:fj} {v:SV} (h:bG e x=v):R s v (x.ev pe):=by have:=dh hE x;rwa [h] at this
theorem JW (k:IntKind):eZ k k=ahk:=by cases k<;>rfl
theorem L5 (hS:cj s ps) {op:BinOp} {a:IntKind} {m n:Int} (h:LR op a m n (ofV k) ρ w=ahi y): ∃p,arith op a m n=ahi p/\gJ s ps (ahi {v:=p}) k ρ w y:=by
 cases op with
 |quo=>
  obtain ⟨h1,h2⟩:=vw h;have hn:n≠0:=by intro e;subst e;cases h1
  exact ⟨_,by simp only [arith,ut hn],gJ.val hS h2 rfl rfl⟩
 |rem=>
  obtain ⟨h1,h2⟩:=vw h;have hn:n≠0:=by intro e;subst e;cases h1
  exact ⟨_,by simp only [arith,ut hn],gJ.val hS h2 rfl rfl⟩
 |shl=>cases h
 |shr=>cases h
 |_=>exact ⟨_,rfl,gJ.val hS h rfl rfl⟩
theorem UJ (hE:dA s e pe) (hS:cj s ps) {op:BinOp} {a b:fj} (h:l9 e s z (.bin op a b) k ρ w=ahi y):gJ s ps (bo pe ps z (.bin op a b)) k ρ w y:=by
 simp only [l9] at h;generalize ha:bG e a=va at h;cases va with
 |int ka m=>
  generalize hb:bG e b=vb at h;cases vb with
  |int kb n=>
   have h1:=mL hE ha;have h2:=mL hE hb;have key:(op≠ .shl)->(op≠ .shr)->(bif eZ ka kb then LR op ka m n (ofV k) else aM) ρ w=ahi y->gJ s ps (bo pe ps z (.bin op a b)) k ρ w y:=by
    intro n1 n2 h;obtain ⟨hk,h⟩:=cu h;obtain ⟨p,hp,hs⟩:=L5 hS h;have:bo pe ps z (.bin op a b)=ahi {v:=p}:=by simp only [bo,h1,h2];cases op<;>first|exact absurd rfl n1|exact absurd rfl n2|(simp only [OI,hk,if_true,hp];rfl)
    rw [this];exact hs
   cases op with
   |shl=>
    obtain ⟨hc,h⟩:=vw h;have AI: ¬n<0:=by simpa using hc
    exact gJ.val hS h (by simp only [bo,h1,h2,OI,BM,ut AI];rfl) rfl
   |shr=>
    obtain ⟨hc,h⟩:=vw h;have AI: ¬n<0:=by simpa using hc
    exact gJ.val hS h (by simp only [bo,h1,h2,OI,BM,ut AI];rfl) rfl
   |_=>exact key (by intro e;cases e) (by intro e;cases e) h
  |_=>cases h
 |_=>cases h
theorem RH (hE:dA s e pe) (hS:cj s ps) {neg:Bool} {a b:fj} (h:l9 e s z (.I3 neg a b) k ρ w=ahi y):gJ s ps (bo pe ps z (.I3 neg a b)) k ρ w y:=by
 simp only [l9] at h;generalize ha:bG e a=va at h;cases va with
 |bool x=>
  generalize hb:bG e b=vb at h;cases vb with
  |bool x'=>refine gJ.val hS h ?_ rfl;simp only [bo,A5 hE ha,A5 hE hb];cases neg<;>rfl
  |_=>cases h
 |_=>cases h
theorem RI: ∀{xs ys:List SV} {ps qs:List PV} {r:Bool},RL s xs ps->RL s ys qs->eqS xs ys=ahi r->c8 ps qs=ahi r
 | [],[],ps,qs,r,h1,h2,h=>by rw [show ps=[] from h1,show qs=[] from h2];exact h
 |x::xs,b::ys,ps,qs,r,h1,h2,h=>by
  obtain ⟨p,ps,rfl,a1,a2⟩:=h1.cons_inv;obtain ⟨q,qs,rfl,b1,b2⟩:=h2.cons_inv;simp only [eqS] at h;split at h
  · rename_i ka m kb n
    have a1':p= .int ka m:=a1;have b1':q= .int kb n:=b1;subst a1' b1';cases hk:eZ ka kb with
    |false=>rw [hk] at h;cases h
    |true=>
     rw [hk] at h;have hc:qo (.int ka m) (.int kb n)=ahi (m==n):=by simp only [qo,hk,if_true]
     simp only [c8,hc];cases xs with
     |nil=>
      cases ys with
      |nil=>simp only [lw,If] at h;subst h;rw [show ps=[] from a2,show qs=[] from b2];cases m==n<;>rfl
      |cons _ _=>cases h
     |cons x2 xs2=>
      simp only [lw] at h;split at h
      · rename_i r' hr
        injection h with h;subst h;rw [RI a2 b2 hr];cases m==n<;>rfl
      cases h
  cases h
 | [],_::_,ps,qs,r,h1,h2,h=>by cases h
 |_::_,[],ps,qs,r,h1,h2,h=>by cases h
theorem UK (hE:dA s e pe) (hS:cj s ps) {n:Nat} {neg:Bool} {a b:fj} (h:l9 e s z (.eqc n neg a b) k ρ w=ahi y):gJ s ps (bo pe ps z (.eqc n neg a b)) k ρ w y:=by
 simp only [l9] at h;generalize ha:bG e a=va at h;cases va with
 |agg xs=>
  generalize hb:bG e b=vb at h;cases vb with
  |agg ys=>obtain ⟨hl,h⟩:=cu h;obtain ⟨r,hr,h⟩:=bB h;obtain ⟨p,hp,h1⟩:=Pq hE ha;obtain ⟨q,hq,h2⟩:=Pq hE hb;refine gJ.val hS h ?_ rfl;simp only [bo,hp,hq,h1.mI,h2.mI];rw [rc hl,RI h1 h2 hr];cases neg<;>rfl
  |_=>cases h
 |_=>cases h
theorem ab7 (hE:dA s e pe) (hS:cj s ps) {op:UnOp} {a:fj} (h:l9 e s z (.un op a) k ρ w=ahi y):gJ s ps (bo pe ps z (.un op a)) k ρ w y:=by
 simp only [l9] at h;cases op with
 |neg=>
  dsimp only at h;generalize ha:bG e a=va at h;cases va with
  |int ka n=>exact gJ.val hS h (by simp only [bo,mL hE ha];rfl) rfl
  |_=>cases h
 |not=>
  dsimp only at h;generalize ha:bG e a=va at h;cases va with
  |bool b=>exact gJ.val hS h (by simp only [bo,A5 hE ha];rfl) rfl
  |_=>cases h
 |_=>cases h
theorem RJ (hE:dA s e pe) (hS:cj s ps) {a:IntKind} {x:fj} (h:l9 e s z (.conv a x) k ρ w=ahi y):gJ s ps (bo pe ps z (.conv a x)) k ρ w y:=by
 simp only [l9] at h;generalize ha:bG e x=va at h;cases va with
 |int ka n=>exact gJ.val hS h (by simp only [bo,mL hE ha]) rfl
 |_=>cases h
theorem UL (hE:dA s e pe) (hS:cj s ps) {x:fj} (h:l9 e s z (.len x) k ρ w=ahi y):gJ s ps (bo pe ps z (.len x)) k ρ w y:=by
 simp only [l9] at h;have hx:=dh hE x;generalize bG e x=v at h hx;cases v with
 |nil e' c=>exact gJ.val hS h (by simp only [bo,show x.ev pe= .sl e' c [] from hx];rfl) rfl
 |pre t len cap ex=>obtain ⟨e',hx,_⟩:=hx;exact gJ.val hS h (by simp only [bo,hx]) rfl
 |part t off len cap ex=>obtain ⟨e',hx,_⟩:=hx;exact gJ.val hS h (by simp only [bo,hx]) rfl
 |sl q m=>exact gJ.val hS h (by simp only [bo,show x.ev pe=_ from hx,aap]) rfl
 |own t ex=>
  obtain ⟨c,hc,h⟩:=bB h;simp only [zj,bQ] at hc;split at hc
  · rename_i q m bM
    injection hc with hc;subst hc;obtain ⟨e',n,hx,cJ⟩:=hx;rcases cJ with ⟨q',m',h1,rfl,rfl⟩|h1
    · rw [bM] at h1;injection h1 with h1;cases h1
      exact gJ.val hS h (by simp only [bo,hx]) rfl
    rw [bM] at h1;cases h1
  cases hc
 |_=>obtain ⟨c,hc,h⟩:=bB h;cases hc
theorem A6: ∀{l:List (Nat×Nat×SV)} {pl:List (Nat×Nat×PV)} {cs:List SV} {pc:List PV} {r:List SV},
 (ahh pl=ahh l/\ ∀(j:Nat) (a:Nat×Nat×SV),l[j]? =ahi a-> ∃b,pl[j]? =ahi (a.1,a.2.1,b)/\R s a.2.2 b)->RL s cs pc->vq l cs=ahi r-> ∃q,mT pl pc=ahi q/\RL s r q
 | [],pl,cs,pc,r,hl,hc,h=>by have:pl=[]:=abo.1 hl.1;subst this;injection h with h;subst h;exact ⟨pc,rfl,hc⟩
 |(off,sz,v)::l,pl,cs,pc,r,hl,hc,h=>by
  cases pl with
  |nil=>simp at hl
  |cons p pl=>
   obtain ⟨b,h1,h2⟩:=hl.2 0 _ rfl;simp at h1;subst h1;simp only [vq] at h;split at h
   · rename_i w hw
     obtain ⟨q,hq,hqr⟩:=h2.stored hw;cases UM:(UV (ahh w) sz&&PP (off+sz) (ahh cs)) with
     |false=>rw [UM] at h;cases h
     |true=>rw [UM] at h;simp only [lw] at h;obtain ⟨q2,h3,h4⟩:=A6 (pl:=pl) ⟨by simpa using hl.1,fun j a ha=>hl.2 (j+1) a (by simpa using ha)⟩ (yI hqr hc) h;refine ⟨q2,?_,h4⟩;simp only [mT,hq,hqr.mI,hc.mI];rw [rc UM];exact h3
   cases h
theorem JX (hE:dA s e pe): ∀(l:List (Nat×Nat×fj)),((l.map fun p=>(p.1,p.2.1,p.2.2.ev pe)).length=(xI e l).length/\ ∀(j:Nat) (a:Nat×Nat×SV),(xI e l)[j]? =ahi a-> ∃b,(l.map fun p=>(p.1,p.2.1,p.2.2.ev pe))[j]? =ahi (a.1,a.2.1,b)/\R s a.2.2 b)
 | []=>⟨rfl,fun j a h=>by simp [xI] at h⟩
 |p::l=>by
  obtain ⟨h1,h2⟩:=JX hE l;refine ⟨by simp [xI] at h1 ⊢;omega,fun j a h=>?_⟩;cases j with
  |zero=>simp [xI] at h;subst h;exact ⟨_,rfl,dh hE _⟩
  |succ j=>simp only [xI,aaF] at h;obtain ⟨b,h3,h4⟩:=h2 j a h;exact ⟨b,by simpa using h3,h4⟩
theorem Pr (hE:dA s e pe) (hS:cj s ps) {zero:List PV} {parts:List (Nat×Nat×fj)} (h:l9 e s z (.build zero parts) k ρ w=ahi y):gJ s ps (bo pe ps z (.build zero parts)) k ρ w y:=by simp only [l9] at h;obtain ⟨cs,hc,h⟩:=bB h;obtain ⟨q,hq,hr⟩:=A6 (JX hE parts) (vu s zero) hc;exact gJ.val hS h (by simp only [bo,hq];rfl) ⟨q,rfl,hr⟩
theorem UN (hE:dA s e pe) (hS:cj s ps) {x:fj} (h:l9 e s z (.box x) k ρ w=ahi y):gJ s ps (bo pe ps z (.box x)) k ρ w y:=by simp only [l9] at h;obtain ⟨cs,hc,h⟩:=bB h;obtain ⟨q,hq,hr⟩:=(dh hE x).stored hc;refine ⟨_,_,?_,Good.new hS (b:= .box cs) (q:= .box q) (v:= .bp (ahh s) (ahh cs) 0) (p:= .ptr (ahh s) (ahh cs) 0 0) (rd:=[]) ⟨q,rfl,hr.ext (Fr.app _ _ _)⟩ rfl,h⟩;simp only [bo,hq,hS.len,hr.mI]
theorem Ps (hS:cj s ps) {cells:List PV} (h:l9 e s z (.alloc cells) k ρ w=ahi y):gJ s ps (bo pe ps z (.alloc cells)) k ρ w y:=by simp only [l9] at h;refine ⟨_,_,?_,Good.new hS (b:= .box (AW cells)) (q:= .box cells) (v:= .bp (ahh s) (ahh cells) 0) (p:= .ptr (ahh s) (ahh cells) 0 0) (rd:=[]) ⟨cells,rfl,vu _ _⟩ rfl,h⟩;simp only [bo,hS.len]
theorem RK (hE:dA s e pe) (hS:cj s ps) {x:fj} (h:l9 e s z (.I4 x) k ρ w=ahi y):gJ s ps (bo pe ps z (.I4 x)) k ρ w y:=by
 simp only [l9] at h;have hx:=dh hE x;generalize bG e x=v at h hx;cases v with
 |pa t r i a o=>exact gJ.val hS h (by simp only [bo,hx.1]) ⟨rfl,hx.2⟩
 |pb t i o=>obtain ⟨e',h1,h2⟩:=hx;exact gJ.val hS h (by simp only [bo,h1]) ⟨e',rfl,h2⟩
 |bp t n o=>exact gJ.val hS h (by simp only [bo,show x.ev pe=_ from hx]) rfl
 |bu c o=>obtain ⟨q,h1,h2⟩:=hx;exact gJ.val hS h (by simp only [bo,h1]) ⟨q,rfl,h2⟩
 |eh f a b=>obtain ⟨pa,pb,h1,h2⟩:=hx;exact gJ.val hS h (by simp only [bo,h1]) ⟨pa,pb,rfl,h2⟩
 |_=>cases h
theorem RM (hE:dA s e pe) (hS:cj s ps) {off:Nat} {x:fj} (h:l9 e s z (.I5 off x) k ρ w=ahi y):gJ s ps (bo pe ps z (.I5 off x)) k ρ w y:=by
 simp only [l9] at h;have hx:=dh hE x;generalize bG e x=v at h hx;cases v with
 |pa t r i a o=>exact gJ.val hS h (by simp only [bo,hx.1]) ⟨rfl,hx.2⟩
 |pb t i o=>obtain ⟨e',h1,h2⟩:=hx;exact gJ.val hS h (by simp only [bo,h1]) ⟨e',rfl,h2⟩
 |bp t n o=>exact gJ.val hS h (by simp only [bo,show x.ev pe=_ from hx]) rfl
 |bu c o=>obtain ⟨q,h1,h2⟩:=hx;exact gJ.val hS h (by simp only [bo,h1]) ⟨q,rfl,h2⟩
 |_=>cases h
theorem UO (hE:dA s e pe) (hS:cj s ps) {agg:Option Nat} {off:Nat} {x:fj} (h:l9 e s z (.iD agg off x) k ρ w=ahi y):gJ s ps (bo pe ps z (.iD agg off x)) k ρ w y:=by
 simp only [l9] at h;generalize hv:bG e x=v at h;cases v with
 |agg cs=>obtain ⟨v,h1,h⟩:=bB h;obtain ⟨q,h2,h3⟩:=Pq hE hv;obtain ⟨p,h4,h5⟩:=sW h3 h1;exact gJ.val hS h (by simp only [bo,h2,h4];rfl) h5
 |_=>cases h
theorem UP (hE:dA s e pe) (hS:cj s ps) {i:Nat} {x:fj} (h:l9 e s z (.ext i x) k ρ w=ahi y):gJ s ps (bo pe ps z (.ext i x)) k ρ w y:=by
 simp only [l9] at h;generalize hv:bG e x=v at h;cases v with
 |bS cs=>obtain ⟨v,h1,h⟩:=bB h;obtain ⟨q,h2,h3⟩:=Pq hE hv;obtain ⟨p,h4,h5⟩:=h3.nth h1;exact gJ.val hS h (by simp only [bo,h2,h4];rfl) h5
 |_=>cases h
theorem UQ (hE:dA s e pe) (hS:cj s ps) {f:FuncId} {a b:List fj} (h:l9 e s z (.mkf f a b) k ρ w=ahi y):gJ s ps (bo pe ps z (.mkf f a b)) k ρ w y:=by simp only [l9] at h;exact gJ.val hS h rfl ⟨_,_,rfl,yG hE a,yG hE b⟩
theorem UR (hS:cj s ps) {m:Option PV} (h:l9 e s z (.mkm m) k ρ w=ahi y):gJ s ps (bo pe ps z (.mkm m)) k ρ w y:=by
 simp only [l9] at h;cases m with
 |none=>refine ⟨_,_,?_,Good.new hS (b:= .set []) (q:= .map []) (v:= .mp (ahh s)) (p:= .mp (ahh s)) (rd:=[]) rfl rfl,h⟩;simp only [bo,hS.len]
 |some m=>obtain ⟨p,_,h⟩:=bB h;refine ⟨_,_,?_,Good.new hS (b:= .bD p []) (q:= .map []) (v:= .mp (ahh s)) (p:= .mp (ahh s)) (rd:=[]) rfl rfl,h⟩;simp only [bo,hS.len]
theorem aaW: ∀{l:List SV} {q:List PV} {m:Bool} {a:IntKind} {n:Int} {v:SV},RL s l q->mmS m a n l=ahi v-> ∃p,mmE m a n q=ahi p/\R s v p
 | [],q,m,a,n,v,hl,h=>by rw [show q=[] from hl];injection h with h;subst h;exact ⟨_,rfl,rfl⟩
 |x::l,q,m,a,n,v,hl,h=>by
  obtain ⟨p,q,rfl,h1,h2⟩:=hl.cons_inv;simp only [mmS] at h;split at h
  · rename_i b c
    have Lj:p= .int b c:=h1;subst Lj;cases hk:eZ a b with
    |true=>rw [hk] at h;obtain ⟨p,h3,h4⟩:=aaW h2 h;refine ⟨p,?_,h4⟩;simp only [mmE,hk,if_true];rw [<- h3];cases m<;>rfl
    |false=>rw [hk] at h;cases h
  cases h
theorem ab8 (hE:dA s e pe) (hS:cj s ps) {m:Bool} {x:fj} {xs:List fj} (h:l9 e s z (.mm m x xs) k ρ w=ahi y):gJ s ps (bo pe ps z (.mm m x xs)) k ρ w y:=by
 simp only [l9] at h;generalize hv:bG e x=v at h;cases v with
 |int a n=>obtain ⟨v,h1,h⟩:=bB h;obtain ⟨p,h2,h3⟩:=aaW (yG hE xs) h1;exact gJ.val hS h (by simp only [bo,mL hE hv,h2];rfl) h3
 |_=>cases h
theorem RN (hE:dA s e pe) (hS:cj s ps) {c a b:fj} (h:l9 e s z (.pick c a b) k ρ w=ahi y):gJ s ps (bo pe ps z (.pick c a b)) k ρ w y:=by
 simp only [l9] at h;generalize hv:bG e c=v at h;cases v with
 |bool x=>
  rcases eJ h with ⟨rfl,h⟩|⟨rfl,h⟩
  · exact gJ.val hS h (by simp only [bo,A5 hE hv]) (dh hE a)
  exact gJ.val hS h (by simp only [bo,A5 hE hv]) (dh hE b)
 |_=>cases h
end
end Go.Vm
/- Operation by operation, second part: elements, blocks, slices, sets. -/
namespace Go.Vm
section
variable {R' ρ : Type} {w : R' -> ρ} {y : ρ} {s : List SB} {ps : bW} {e : SE} {pe : Env} {z : List Nat} {k : fJ -> fZ R'}
theorem cj.arr (hS:cj s ps) {t:Nat} {r:List PT} {l:List (RT r)} (h:s[t]? =ahi (.arr r l)):ps[t]? =ahi (.arr (ahh r) (l.map (RT.pv r))):=by obtain ⟨q,h1,h2⟩:=hS.at_ t _ h;rw [show q=_ from h2] at h1;exact h1
theorem cj.box (hS:cj s ps) {t:Nat} {cs:List SV} (h:s[t]? =ahi (.box cs)): ∃q,ps[t]? =ahi (.box q)/\RL s cs q:=by obtain ⟨q,h1,q',rfl,h2⟩:=hS.at_ t _ h;exact ⟨q',h1,h2⟩
theorem cj.aiD (hS:cj s ps) {t:Nat} {l:List (List Int)} (h:s[t]? =ahi (.set l)):ps[t]? =ahi (.map (l.map A3)):=by obtain ⟨q,h1,h2⟩:=hS.at_ t _ h;rw [show q=_ from h2] at h1;exact h1
theorem cj.US (hS:cj s ps) {t:Nat} {p:PT} {l:List (RT [.i .i64,p])} (h:s[t]? =ahi (.bD p l)):ps[t]? =ahi (.map (l.map (Ds p))):=by obtain ⟨q,h1,h2⟩:=hS.at_ t _ h;rw [show q=_ from h2] at h1;exact h1
theorem OwnAt.inv {t e n:Nat} {r:List PT} {l:List (RT r)} (h:OwnAt s t e n) (hs:s[t]? =ahi (.arr r l)):e=ahh r/\n=(ahh l):=by
 rcases h with ⟨q,m,h1,rfl,rfl⟩|h1
 · rw [hs] at h1;injection h1 with h1;cases h1;exact ⟨rfl,rfl⟩
 rw [hs] at h1;cases h1
theorem zl.inv {t e:Nat} {r:List PT} {l:List (RT r)} (h:zl s t e) (hs:s[t]? =ahi (.arr r l)):e=(ahh r):=by
 rcases h with ⟨q,m,h1,rfl⟩|h1|⟨cs,h1,_⟩
 · rw [hs] at h1;injection h1 with h1;cases h1;rfl
 · rw [hs] at h1;cases h1
 rw [hs] at h1;cases h1
theorem RF.inv {t:Nat} {q r:List PT} {i:Int} {a:RT q} {l:List (RT r)} (h:RF s t q i a) (hs:s[t]? =ahi (.arr r l)): ∃e:q=r,aG l i=ahi (e▸a):=by
 rcases h with ⟨m,h1,h2⟩|h1
 · rw [hs] at h1;injection h1 with h1;cases h1;exact ⟨rfl,h2⟩
 rw [hs] at h1;cases h1
theorem ab6.inv {t:Nat} {r:List PT} {i:Int} {l:List (RT r)} (h:ab6 s t i) (hs:s[t]? =ahi (.arr r l)):(aG l i).isSome=ahk:=by
 rcases h with ⟨q,m,h1,h2⟩|h1
 · rw [hs] at h1;injection h1 with h1;cases h1;exact h2
 rw [hs] at h1;cases h1
theorem fD {α:Type} {l:List α} {n:Nat} {i:Int} {a:α} (h:aG (l.take n) i=ahi a): ∃m:Nat,i=aaX m/\m<n/\l[m]? =ahi a:=by
 obtain ⟨m,rfl,hm⟩:=mZ h;have df:=(AC.1 hm).1;rw [aav] at df;have hmn:m<n:=by omega
 rw [M2 hmn] at hm;exact ⟨m,rfl,hmn,hm⟩
theorem RO (hE:dA s e pe) (hS:cj s ps) {esz:Nat} {x i:fj} (h:l9 e s z (.I6 esz x i) k ρ w=ahi y):gJ s ps (bo pe ps z (.I6 esz x i)) k ρ w y:=by
 simp only [l9] at h;generalize hi:bG e i=vi at h;cases vi with
 |int ki n=>
  have hi:=mL hE hi;have hx:=dh hE x;dsimp only at h;unfold aaO at h;generalize bG e x=v at h hx;cases v with
  |sl r l=>
   obtain ⟨he,h⟩:=cu h;obtain ⟨a,ha,hk⟩:=cq h;obtain ⟨m,rfl,hm⟩:=mZ ha;refine gJ.val hS (p:= .bu (RT.pv r a) 0) hk ?_ ⟨_,rfl,G0 r a⟩;have hr:(l.map (RT.pv r))[m]? =ahi (RT.pv r a):=by simp [hm]
   simp only [bo,hi,jM,show x.ev pe=_ from hx,hr,he,if_true]
  |own t ex=>
   simp only [bQ] at h;generalize bM:s[t]? =b at h;cases b with
   |none=>cases h
   |some b=>
    cases b with
    |arr r l=>
     obtain ⟨he,h⟩:=cu h;obtain ⟨a,ha,hk⟩:=cq h;obtain ⟨m,rfl,hm⟩:=mZ ha;obtain ⟨e',n',hx,cJ⟩:=hx;obtain ⟨rfl,rfl⟩:=cJ.inv bM;have df:=(AC.1 hm).1;have h1:adc m (ahh l)=ahk:=by simpa using df
     refine gJ.val hS (p:= .ptr t (ahh r) m 0) hk ?_ ⟨rfl,.inl ⟨l,bM,ha⟩⟩;simp only [bo,hi,jM,hx,h1,he,aar,if_true,abp]
    |_=>cases h
  |pre t len cap ex=>
   simp only [bQ] at h;generalize bM:s[t]? =b at h;cases b with
   |none=>cases h
   |some b=>
    cases b with
    |arr r l=>
     obtain ⟨he,h⟩:=cu h;obtain ⟨a,ha,hk⟩:=cq h;obtain ⟨m,rfl,df,hm⟩:=fD ha;obtain ⟨e',hx,cJ⟩:=hx;have:=cJ.inv bM;subst this;have h1:adc m len=ahk:=by simpa using df
     refine gJ.val hS (p:= .ptr t (ahh r) m 0) hk ?_ ⟨rfl,.inl ⟨l,bM,hm⟩⟩;simp only [bo,hi,jM,hx,h1,he,aar,if_true,abp]
    |_=>cases h
  |part t off len cap ex=>
   simp only [bQ] at h;generalize bM:s[t]? =b at h;cases b with
   |none=>cases h
   |some b=>
    cases b with
    |arr r l=>
     obtain ⟨he,h⟩:=cu h;obtain ⟨a,ha,hk⟩:=cq h;obtain ⟨m,rfl,df,hm⟩:=fD ha;rw [List.getElem?_drop] at hm;obtain ⟨e',hx,cJ⟩:=hx;have:=cJ.inv bM;subst this;have h1:adc m len=ahk:=by simpa using df
     refine gJ.val hS (p:= .ptr t (ahh r) (off+m) 0) hk ?_ ⟨rfl,.inl ⟨l,bM,hm⟩⟩;simp only [bo,hi,jM,hx,h1,he,aar,if_true]
    |_=>cases h
  |_=>cases h
 |_=>cases h
theorem z7 {n:Nat} {i:Int} {j:Nat} {f:Nat->fZ R'}:JO n i j f ρ w=ahi y-> ∃m,i=aaX m/\j<=m/\m<j+n/\f m ρ w=ahi y:=by
 induction n generalizing j with
 |zero=>intro h;cases h
 |succ n ih=>
  intro h;rcases eJ h with ⟨h1,h2⟩|⟨_,h2⟩
  · exact ⟨j,by simpa using h1,acr _,by omega,h2⟩
  obtain ⟨m,h3,h4,h5,h6⟩:=ih h2
  exact ⟨m,h3,by omega,by omega,h6⟩
theorem Pu (hE:dA s e pe) (hS:cj s ps) {n esz:Nat} {p i:fj} (h:l9 e s z (.CN n esz p i) k ρ w=ahi y):gJ s ps (bo pe ps z (.CN n esz p i)) k ρ w y:=by
 simp only [l9] at h;generalize hi:bG e i=vi at h;cases vi with
 |int ki j=>
  have hi:=mL hE hi;have hx:=dh hE p;generalize bG e p=v at h hx;cases v with
  |bp t m o=>
   obtain ⟨j',rfl,_,h2,h⟩:=z7 h;have h1:adc j' n=ahk:=by simp;omega
   exact gJ.val hS h (by simp only [bo,hi,jM,h1,if_true,show p.ev pe=_ from hx]) rfl
  |bu c o=>
   obtain ⟨j',rfl,_,h2,h⟩:=z7 h;have h1:adc j' n=ahk:=by simp;omega
   obtain ⟨q,hq,hr⟩:=hx;exact gJ.val hS h (by simp only [bo,hi,jM,h1,if_true,hq]) ⟨q,rfl,hr⟩
  |_=>cases h
 |_=>cases h
theorem UT (hE:dA s e pe) (hS:cj s ps) {n esz:Nat} {agg:Option Nat} {x i:fj} (h:l9 e s z (.idx n esz agg x i) k ρ w=ahi y):gJ s ps (bo pe ps z (.idx n esz agg x i)) k ρ w y:=by
 simp only [l9] at h;generalize hi:bG e i=vi at h;cases vi with
 |int ki j=>
  have hi:=mL hE hi;generalize hx:bG e x=v at h;cases v with
  |agg cs=>
   obtain ⟨j',rfl,_,h2,h⟩:=z7 h;have h1:adc j' n=ahk:=by simp;omega
   obtain ⟨v,hv,h⟩:=bB h;obtain ⟨q,hq,hr⟩:=Pq hE hx;obtain ⟨p,hp,hpr⟩:=sW hr hv;exact gJ.val hS h (by simp only [bo,hi,jM,h1,if_true,hq,hp];rfl) hpr
  |_=>cases h
 |_=>cases h
theorem RP (hE:dA s e pe) (hS:cj s ps) {x i:fj} (h:l9 e s z (.I7 x i) k ρ w=ahi y):gJ s ps (bo pe ps z (.I7 x i)) k ρ w y:=by
 simp only [l9] at h;generalize hi:bG e i=vi at h;cases vi with
 |int ki j=>
  have hi:=mL hE hi;generalize hx:bG e x=v at h;cases v with
  |str t=>
   obtain ⟨b,hb,h⟩:=cq h;have hx:=Pq hE hx;cases j with
   |negSucc _=>cases hb
   |ofNat m=>simp only [aaN,aat] at hb;obtain ⟨c,hc,rfl⟩:=hb;exact gJ.val hS h (by simp only [bo,hi,jM,show x.ev pe=_ from hx,hc]) rfl
  |_=>cases h
 |_=>cases h
theorem RQ (hE:dA s e pe) (hS:cj s ps) {agg:Option Nat} {p:fj} (h:l9 e s z (.load agg p) k ρ w=ahi y):gJ s ps (bo pe ps z (.load agg p)) k ρ w y:=by
 simp only [l9] at h;have hx:=dh hE p;unfold aaP at h;generalize bG e p=v at h hx;cases v with
 |bp t n off=>
  simp only [bQ] at h;generalize bM:s[t]? =b at h;cases b with
  |none=>cases h
  |some b=>
   cases b with
   |box cs=>obtain ⟨v,hv,h⟩:=bB h;obtain ⟨q,h1,h2⟩:=hS.box bM;obtain ⟨u,h3,h4⟩:=sW h2 hv;refine gJ.rd hS h ?_ h4;show ox ps agg (p.ev pe)=_;rw [show p.ev pe=_ from hx];simp only [ox,h1,aas,if_true,h3];rfl
   |_=>cases h
 |pa t r i a off=>
  simp only [bQ] at h;generalize bM:s[t]? =b at h;cases b with
  |none=>cases h
  |some b=>
   cases b with
   |arr q l=>
    obtain ⟨v,hv,hk⟩:=bB h;obtain ⟨hx,cJ⟩:=hx;obtain ⟨rfl,hg⟩:=cJ.inv bM;obtain ⟨u,h3,h4⟩:=sW (G0 r a) hv;obtain ⟨m,rfl,hm⟩:=mZ hg;refine gJ.rd hS hk ?_ h4;show ox ps agg (p.ev pe)=_;rw [hx];have zR:(l.map (RT.pv r))[m]? =ahi (RT.pv r a):=by simp [hm]
    have e1:(aaX m).toNat=m:=rfl;simp only [ox,hS.arr bM,e1,zR,h3];rfl
   |_=>cases h
 |pb t i off=>
  simp only [bQ] at h;generalize bM:s[t]? =b at h;cases b with
  |none=>cases h
  |some b=>
   cases b with
   |arr r l=>
    obtain ⟨a,ha,h⟩:=cq h;obtain ⟨v,hv,hk⟩:=bB h;obtain ⟨e',hx,cJ⟩:=hx;obtain ⟨u,h3,h4⟩:=sW (G0 r a) hv;obtain ⟨m,rfl,hm⟩:=mZ ha;refine gJ.rd hS hk ?_ h4;show ox ps agg (p.ev pe)=_;rw [hx];have zR:(l.map (RT.pv r))[m]? =ahi (RT.pv r a):=by simp [hm]
    have e1:(aaX m).toNat=m:=rfl;simp only [ox,hS.arr bM,e1,zR,h3];rfl
   |_=>cases h
 |bu cs off=>obtain ⟨v,hv,h⟩:=bB h;obtain ⟨q,hq,hr⟩:=hx;obtain ⟨u,h3,h4⟩:=sW hr hv;refine gJ.val hS h ?_ h4;show ox ps agg (p.ev pe)=_;rw [hq];simp only [ox,h3];rfl
 |_=>cases h
theorem Ib (hS:cj s ps) {t:Nat} {r:List PT} {l:List (RT r)} (bM:s[t]? =ahi (.arr r l)) {i:Int} {b:RT r} {rd:List Nat}:
 Good s ps {v:= .undef,wr:=[(t,.arr r (bO l i b))],rd} {v:= .undef,wr:=[(t,.arr (ahh r) ((l.map (RT.pv r)).set i.toNat (RT.pv r b)))],rd}:=
 Good.RG hS bM (.inl ⟨_,rfl,by simp⟩) (by show _=_;simp [bO,agB])
theorem Pv (hE:dA s e pe) (hS:cj s ps) {sz:Nat} {p x:fj} (h:l9 e s z (.store sz p x) k ρ w=ahi y):gJ s ps (bo pe ps z (.store sz p x)) k ρ w y:=by
 simp only [l9] at h;have hx:=dh hE p;have hv:=dh hE x;unfold Rp at h;generalize bG e p=v at h hx;generalize bG e x=u at h hv;cases v with
 |bp t n off=>
  simp only [bQ] at h;generalize bM:s[t]? =b at h;cases b with
  |none=>cases h
  |some b=>
   cases b with
   |box cs=>
    obtain ⟨w',hw,h⟩:=bB h;obtain ⟨hc,h⟩:=cu h;obtain ⟨q,h1,h2⟩:=hv.stored hw;obtain ⟨b,h3,h4⟩:=hS.box bM;have qt:=Fr.dg (ts:=[t]) (Fr.set (b:= .box (pf off w' cs)) bM (.inl ⟨_,rfl⟩));refine ⟨_,_,?_,Good.RG hS (b:= .box (pf off w' cs)) (q:= .box (nA off q b)) (rd:=[]) bM (.inl ⟨_,rfl⟩) ⟨_,rfl,RL.fr qt (yI h2 h4)⟩,h⟩
    show rG ps z sz (x.ev pe) (p.ev pe)=_
    rw [show p.ev pe=_ from hx];simp only [rG,h3,h1,h2.mI,h4.mI];rw [rc (by simpa using hc)]
   |_=>cases h
 |pa t r i a off=>
  simp only [bQ] at h;generalize bM:s[t]? =b at h;cases b with
  |none=>cases h
  |some b=>
   cases b with
   |arr q l=>
    obtain ⟨hc,h⟩:=cu h;obtain ⟨a',I1,hk⟩:=bB h;obtain ⟨hx,cJ⟩:=hx;obtain ⟨rfl,hg⟩:=cJ.inv bM;obtain ⟨m,rfl,hm⟩:=mZ hg;refine ⟨_,_,?_,Ib hS bM (rd:=[]),hk⟩;show rG ps z sz (x.ev pe) (p.ev pe)=_;rw [hx];have zR:(l.map (RT.pv r))[m]? =ahi (RT.pv r a):=by simp [hm]
    have e1:(aaX m).toNat=m:=rfl;simp only [ww,aaj] at hc;obtain ⟨⟨c1,c2⟩,c3⟩:=hc;have hj:u≠ .gP:=by
     intro e;subst e;have:=RT.ph I1;have hq:=congrArg (fun l=>l[off]?) this;have kY:=aa6 c2;have oz:sz=1:=by have:=v6 c1;simpa [SV.cells] using this.symm
     have df:off<(ahh r):=by omega
     have M9:off<(RT.sv r a).length:=by rw [RT.H9];exact df
     simp only [pf,SV.cells] at hq;rw [Do (by simp;omega),EQ (by simp;omega)] at hq;simp only [aav,acl (agD M9),ahf,abW] at hq;have: ∀(r:List PT) (b:RT r) (n:Nat),(RT.sv r b)[n]?≠ahi .gP:=by
      intro r
      induction r with
      |nil=>intro b n h;simp [RT.sv] at h
      |cons p rest ih=>
       intro b n;cases rest with
       |nil=>cases n<;>cases p<;>simp [RT.sv,PT.sv]
       |cons p2 aiE=>cases n with
        |zero=>cases p<;>simp [RT.sv,PT.sv]
        |succ n=>simpa [RT.sv] using ih b.2 n
     exact this r a' off hq.symm
    have ES:=hv.cells hj;have mg:=RT.ph I1;have h5:RL s (RT.sv r a') (nA off (x.ev pe).cells (RT.pv r a)):=by rw [<- mg];exact yI ES (G0 r a)
    have h6:=yH r a' h5;have L6:(x.ev pe).cb=ahi (x.ev pe).cells:=by unfold PV.cb;rw [rc ?_];have nI:=RT.plain r a';rw [<- h6] at nI;unfold nA at nI;simp only [ahb,ww] at nI;exact nI.1.2
    simp only [rG,hS.arr bM,e1,zR,L6,ES.mI,RT.vt];rw [rc (by simp [c1,c2,c3])];simp only [h6]
   |_=>cases h
 |pb t i off=>
  simp only [bQ] at h;generalize bM:s[t]? =b at h;cases b with
  |none=>cases h
  |some b=>
   cases b with
   |arr r l=>
    obtain ⟨hc,h⟩:=cu h;obtain ⟨e',hx,cJ⟩:=hx;have wX:=cJ.inv bM;rw [abQ] at wX;obtain ⟨a0,hg⟩:=wX;obtain ⟨m,rfl,hm⟩:=mZ hg;have zR:(l.map (RT.pv r))[m]? =ahi (RT.pv r a0):=by simp [hm]
    have e1:(aaX m).toNat=m:=rfl;simp only [ww,aaj] at hc;obtain ⟨⟨c1,c2⟩,c3⟩:=hc;cases oz:UV sz (ahh r) with
    |true=>
     rw [oz] at h;obtain ⟨a',I1,hk⟩:=bB h;obtain ⟨hp,hl⟩:=hv.ofRow I1;have Lu:=v6 oz;have Dk:off=0:=by have:=aa6 c2;omega
     subst Dk;refine ⟨_,_,?_,Ib hS bM (rd:=[]),hk⟩;show rG ps z sz (x.ev pe) (p.ev pe)=_;rw [hx];simp only [rG,hS.arr bM,e1,zR,hp,RT.vt];rw [rc (by rw [abp,Lu];simp [c3])];have:nA 0 (RT.pv r a') (RT.pv r a0)=RT.pv r a':=by unfold nA;rw [RT.vt,List.drop_of_length_le (by rw [RT.vt];omega)];simp
     rw [this]
    |false=>
     rw [oz] at h;obtain ⟨a,ha,h⟩:=cq h;obtain ⟨a',I1,hk⟩:=bB h;rw [hg] at ha;injection ha with ha;subst ha;refine ⟨_,_,?_,Ib hS bM (rd:=[]),hk⟩;show rG ps z sz (x.ev pe) (p.ev pe)=_;rw [hx];have hj:u≠ .gP:=by
      intro e;subst e;have:=RT.ph I1;have hq:=congrArg (fun l=>l[off]?) this;have kY:=aa6 c2;have oz:sz=1:=by have:=v6 c1;simpa [SV.cells] using this.symm
      have df:off<(ahh r):=by omega
      have M9:off<(RT.sv r a0).length:=by rw [RT.H9];exact df
      simp only [pf,SV.cells] at hq;rw [Do (by simp;omega),EQ (by simp;omega)] at hq;simp only [aav,acl (agD M9),ahf,abW] at hq;have: ∀(r:List PT) (b:RT r) (n:Nat),(RT.sv r b)[n]?≠ahi .gP:=by
       intro r
       induction r with
       |nil=>intro b n h;simp [RT.sv] at h
       |cons p rest ih=>
        intro b n;cases rest with
        |nil=>cases n<;>cases p<;>simp [RT.sv,PT.sv]
        |cons p2 aiE=>cases n with
         |zero=>cases p<;>simp [RT.sv,PT.sv]
         |succ n=>simpa [RT.sv] using ih b.2 n
      exact this r a' off hq.symm
     have ES:=hv.cells hj;have mg:=RT.ph I1;have h5:RL s (RT.sv r a') (nA off (x.ev pe).cells (RT.pv r a0)):=by rw [<- mg];exact yI ES (G0 r a0)
     have h6:=yH r a' h5;have L6:(x.ev pe).cb=ahi (x.ev pe).cells:=by unfold PV.cb;rw [rc ?_];have nI:=RT.plain r a';rw [<- h6] at nI;unfold nA at nI;simp only [ahb,ww] at nI;exact nI.1.2
     simp only [rG,hS.arr bM,e1,zR,L6,ES.mI,RT.vt];rw [rc (by simp [c1,c2,c3])];simp only [h6]
   |_=>cases h
 |_=>cases h
end
end Go.Vm
/- Operation by operation, third part: slices, new blocks, append, sets; all of them together. -/
namespace Go.Vm
section
variable {R' ρ : Type} {w : R' -> ρ} {y : ρ} {s : List SB} {ps : bW} {e : SE} {pe : Env} {z : List Nat} {k : fJ -> fZ R'}
def ET (pe:Env) (o:Option fj):Option (Option Nat):=match o with|none=>ahi ahj|some a=>(jM (a.ev pe)).map ahi
theorem uH (hE:dA s e pe) {o:Option fj} {d a:Int} {n:Nat} (h:Ca e d o=ahi a) (hd:d=aaX n) (h0:0<=a): ∃b,ET pe o=ahi b/\b.getD n=a.toNat:=by
 cases o with
 |none=>injection h with h;subst h hd;exact ⟨ahj,rfl,rfl⟩
 |some x=>
  simp only [Ca] at h;split at h
  · rename_i ka m hx
    injection h with h;subst h;obtain ⟨b,rfl⟩:=aa9 h0;refine ⟨ahi b,?_,rfl⟩;simp only [ET,mL hE hx];rfl
  cases h
theorem z8 {esz:Nat} {x:fj} {lo hi mx:Option fj} {l h m:Option Nat} {v:PV} (he:uo esz (x.ev pe)=ahk) (h1:ET pe lo=ahi l) (h2:ET pe hi=ahi h) (h3:ET pe mx=ahi m) (hv:qp (x.ev pe) l h m=ahi v):
 bo pe ps z (.OG esz x lo hi mx)=ahi {v:=v}:=by
 have e:bo pe ps z (.OG esz x lo hi mx)=(match ET pe lo,ET pe hi,ET pe mx with|some l,ahi h,ahi m=>(qp (x.ev pe) l h m).map fun v=>({v}:nB)|_,_,_=>ahj):=by simp only [bo,he,agd,aa2,if_false];rfl
 rw [e,h1,h2,h3];simp only [hv];rfl
theorem EU {α:Type} {l r:List α} {lo hi:Int} (h:gO l lo hi=ahi r): ∃a b:Nat,lo=aaX a/\hi=aaX b/\a<=b/\b<=ahh l/\r=(l.drop a).take (b-a):=by
 unfold gO at h;split at h
 · rename_i hc
   obtain ⟨a,rfl⟩:=aa9 hc.1;obtain ⟨b,rfl⟩:=aa9 (abE hc.1 hc.2.1);injection h with h;exact ⟨a,b,rfl,rfl,by omega,by omega,by rw [<- h];simp⟩
 cases h
theorem Ic (hE:dA s e pe) (hS:cj s ps) {esz t off len cap:Nat} {ex:Bool} {x:fj} {lo hi mx:Option fj} (hx:x.ev pe= .own t esz off len cap ex) (cJ:zl s t esz) (h:LS e t off len cap ex lo hi mx k ρ w=ahi y):
 gJ s ps (bo pe ps z (.OG esz x lo hi mx)) k ρ w y:=by
 unfold LS at h;obtain ⟨a,ha,h⟩:=bB h;obtain ⟨b,hb,h⟩:=bB h;have he:uo esz (x.ev pe)=ahk:=by rw [hx];simp [uo]
 cases mx with
 |none=>
  obtain ⟨hc,h⟩:=hM h;simp only [ww,decide_eq_true_eq] at hc;obtain ⟨⟨c1,c2⟩,c3⟩:=hc;obtain ⟨l,h1,h2⟩:=uH hE (n:=0) ha rfl c1;obtain ⟨u,h3,h4⟩:=uH hE (n:=len) hb rfl (abE c1 c2);refine gJ.val hS h (z8 he h1 h3 (m:=ahj) rfl ?_) ⟨esz,rfl,cJ⟩;rw [hx];have c4:(PP a.toNat b.toNat&&PP b.toNat cap)=ahk:=by have c3':b<=(cap:Int):=c3;simp;omega
  simp only [qp,h2,h4,c4,if_true]
 |some mo=>
  dsimp only at h;generalize hm:bG e mo=vm at h;cases vm with
  |int km c=>
   obtain ⟨hc,h⟩:=hM h;simp only [ww,decide_eq_true_eq] at hc;obtain ⟨⟨⟨c1,c2⟩,c3⟩,c4⟩:=hc;obtain ⟨l,h1,h2⟩:=uH hE (n:=0) ha rfl c1;obtain ⟨u,h3,h4⟩:=uH hE (n:=len) hb rfl (abE c1 c2);have Gg:0<=c:=abE (abE c1 c2) c3;obtain ⟨c,rfl⟩:=aa9 Gg;refine gJ.val hS h (z8 he h1 h3 (m:=ahi c) (by simp only [ET,mL hE hm];rfl) ?_) ⟨esz,rfl,cJ⟩;rw [hx];have c5:(PP a.toNat b.toNat&&PP b.toNat c&&PP c cap)=ahk:=by have c4':(c:Int)<=(cap:Int):=c4;simp;omega
   simp only [qp,h2,h4,c5,if_true];rfl
  |_=>cases h
theorem UU (hE:dA s e pe) (hS:cj s ps) {esz:Nat} {x:fj} {lo hi mx:Option fj} (h:l9 e s z (.OG esz x lo hi mx) k ρ w=ahi y):gJ s ps (bo pe ps z (.OG esz x lo hi mx)) k ρ w y:=by
 simp only [l9] at h;have hx:=dh hE x;unfold aiz at h;generalize bG e x=v at h hx;cases v with
 |sl r l=>
  cases mx with
  |some _=>cases h
  |none=>
   dsimp only at h;obtain ⟨he,h⟩:=cu h;have he:=v6 he;obtain ⟨a,ha,h⟩:=bB h;obtain ⟨b,hb,h⟩:=bB h;obtain ⟨m,hm,hk⟩:=cq h;obtain ⟨n1,n2,rfl,rfl,c1,c2,rfl⟩:=EU hm;obtain ⟨u1,h1,h2⟩:=uH hE (n:=0) ha rfl (by simp);obtain ⟨u2,h3,h4⟩:=uH hE (n:=ahh l) hb rfl (by simp);have hx':x.ev pe= .sl (ahh r) ahl (l.map (RT.pv r)):=hx;subst he;refine gJ.val hS (p:= .sl (ahh r) ahl ((((l.drop n1).take (n2-n1))).map (RT.pv r))) hk (z8 (m:=ahj) (by rw [hx'];simp [uo]) h1 h3 rfl ?_) rfl;rw [hx'];have Pp:u1.getD 0=n1:=by rw [h2];rfl
   have h4':u2.getD (l.map (RT.pv r)).length=n2:=by rw [aap,h4];rfl
   have c3:(PP n1 n2&&PP n2 (l.map (RT.pv r)).length)=ahk:=by simp [c1,c2]
   simp only [qp,Pp,h4',c3,if_true,Bool.false_and,aaw,abe]
 |own t ex=>
  simp only [bQ] at h;generalize bM:s[t]? =b at h;cases b with
  |none=>cases h
  |some b=>
   cases b with
   |arr r l=>
    dsimp only at h;obtain ⟨he,hk⟩:=cu h;have he:=v6 he;obtain ⟨e',n',hx,cJ⟩:=hx;obtain ⟨rfl,rfl⟩:=cJ.inv bM;subst he;have Dl:zl s t (ahh r):= .inl ⟨r,l,bM,rfl⟩;have gen:LS e t 0 (ahh l) (ahh l) ex lo hi mx k ρ w=ahi y->gJ s ps (bo pe ps z (.OG (ahh r) x lo hi mx)) k ρ w y:=fun h=>Ic hE hS hx Dl h
    have he:uo (ahh r) (x.ev pe)=ahk:=by rw [hx];simp [uo]
    cases mx with
    |some m=>cases lo<;>cases hi<;>exact gen hk
    |none=>
     cases lo with
     |some _=>cases hi<;>exact gen hk
     |none=>
      cases hi with
      |none=>refine gJ.val hS hk (z8 (l:=ahj) (h:=ahj) (m:=ahj) he rfl rfl rfl ?_) ⟨ahh r,ahh l,rfl,cJ⟩;rw [hx];simp [qp]
      |some ho=>
       dsimp only at hk;generalize hh:bG e ho=vh at hk;cases vh with
       |int kh b=>
        obtain ⟨m,hm,hk⟩:=cq hk;obtain ⟨n1,n2,h0,rfl,c1,c2,rfl⟩:=EU hm;refine gJ.val hS hk (z8 (l:=ahj) (h:=ahi n2) (m:=ahj) he rfl (by simp only [ET,mL hE hh];rfl) rfl ?_) ⟨ahh r,rfl,Dl⟩;rw [hx];have c3:(PP 0 n2&&PP n2 (ahh l))=ahk:=by simp [c2]
        simp only [qp,abY,ah6,c3,if_true];rfl
       |_=>cases hk
   |_=>cases h
 |pre t len cap ex=>
  simp only [bQ] at h;generalize bM:s[t]? =b at h;cases b with
  |none=>cases h
  |some b=>
   cases b with
   |arr r l=>
    dsimp only at h;obtain ⟨he,hk⟩:=cu h;have he:=v6 he;obtain ⟨e',hx,cJ⟩:=hx;have:=cJ.inv bM;subst this;subst he;have gen:LS e t 0 len cap ex lo hi mx k ρ w=ahi y->gJ s ps (bo pe ps z (.OG (ahh r) x lo hi mx)) k ρ w y:=fun h=>Ic hE hS hx cJ h
    have he:uo (ahh r) (x.ev pe)=ahk:=by rw [hx];simp [uo]
    cases mx with
    |some m=>cases lo<;>cases hi<;>exact gen hk
    |none=>
     cases lo with
     |some _=>cases hi<;>exact gen hk
     |none=>
      cases hi with
      |none=>
       obtain ⟨hlc,hk⟩:=hM hk;refine gJ.val hS hk (z8 (l:=ahj) (h:=ahj) (m:=ahj) he rfl rfl rfl ?_) ⟨ahh r,rfl,cJ⟩;rw [hx];have c3:(PP 0 len&&PP len cap)=ahk:=by simp [hlc]
       simp only [qp,abY,c3,if_true];simp
      |some ho=>
       dsimp only at hk;generalize hh:bG e ho=vh at hk;cases vh with
       |int kh b=>
        obtain ⟨hc,hk⟩:=hM hk;simp only [ww,decide_eq_true_eq] at hc;obtain ⟨c1,c2⟩:=hc;obtain ⟨b,rfl⟩:=aa9 c1;refine gJ.val hS hk (z8 (l:=ahj) (h:=ahi b) (m:=ahj) he rfl (by simp only [ET,mL hE hh];rfl) rfl ?_) ⟨ahh r,rfl,cJ⟩;rw [hx];have c3:(PP 0 b&&PP b cap)=ahk:=by have c2':(b:Int)<=(cap:Int):=c2;simp;omega
        simp only [qp,abY,ah6,c3,if_true];rfl
       |_=>cases hk
   |_=>cases h
 |part t off len cap ex=>
  simp only [bQ] at h;generalize bM:s[t]? =b at h;cases b with
  |none=>cases h
  |some b=>
   cases b with
   |arr r l=>dsimp only at h;obtain ⟨he,hk⟩:=cu h;have he:=v6 he;obtain ⟨e',hx,cJ⟩:=hx;have:=cJ.inv bM;subst this;subst he;exact Ic hE hS hx cJ hk
   |_=>cases h
 |_=>cases h
theorem mh {b:SB}:(s++[b])[ahh s]? =ahi b:=by simp
theorem fu: ∀{v:PV} {p:PT},cd v=ahi p->p.pv p.zero=v
 | .int k n,p,h=>by
  simp only [cd] at h;split at h
  · injection h with h;subst h;rfl
  cases h
 | .bool b,p,h=>by
  simp only [cd] at h;split at h
  · injection h with h;subst h;rfl
  cases h
 | .undef,_,h| .jl,_,h| .str _,_,h| .agg _,_,h| .bS _,_,h| .sl _ _ _,_,h| .own _ _ _ _ _ _,_,h| .ptr _ _ _ _,_,h| .bu _ _,_,h| .mp _,_,h| .eh _ _ _,_,h| .dz,_,h=>by cases h
theorem A7 : ∀ {l : List PV} {r : List PT}, EG l = ahi r -> RT.pv r (RT.zero r) = l
  | [], r, h => by injection h with h; subst h; rfl
  | v :: vs, r, h => by
    simp only [EG] at h
    split at h
    · rename_i p q h1 h2
      injection h with h; subst h
      have e1 := fu h1
      have e2 := A7 h2
      cases q with
      | nil =>
        have : vs = [] := by
          cases vs with
          | nil => rfl
          | cons a b => simp only [RT.pv] at e2; cases e2
        subst this
        show [p.pv p.zero] = _
        rw [e1]
      | cons p2 q2 =>
        show p.pv p.zero :: RT.pv (p2 :: q2) (RT.zero (p2 :: q2)) = _
        rw [e1, e2]
    cases h
theorem UW (hE:dA s e pe) (hS:cj s ps) {esz:Nat} {zero:Row} {l c:fj} (h:l9 e s z (.mks esz zero l c) k ρ w=ahi y):gJ s ps (bo pe ps z (.mks esz zero l c)) k ρ w y:=by
 simp only [l9] at h;generalize hl:bG e l=vl at h;cases vl with
 |int kl n=>
  generalize hc:bG e c=vc at h;cases vc with
  |int kc m=>
   obtain ⟨hnm,h1⟩:=hM h;obtain ⟨r,hr,h2⟩:=bB h1;obtain ⟨he,h3⟩:=cu h2;obtain ⟨x,hx,hk⟩:=cq h3;have hnm:n=m:=by simpa using hnm
   subst hnm;have he:=v6 he;subst he;unfold wN at hx;split at hx
   · rename_i Gd
     injection hx with hx;subst hx;obtain ⟨a,rfl⟩:=aa9 Gd.1;have h1:(PP a a&&PP a lI)=ahk:=by simp [lI];omega
     refine ⟨_,_,?_,Good.new hS (b:= .arr r (aau (aaX a).toNat (RT.zero r))) (q:= .arr (ahh r) (aau a zero)) (v:= .own (ahh s) ahk) (p:= .own (ahh s) (ahh r) 0 a a ahk) (rd:=[]) ?_ ?_,hk⟩
     · have e1:jM (.int kl (a:Int))=ahi a:=rfl
       have e2:jM (.int kc (a:Int))=ahi a:=rfl;simp only [bo,mL hE hl,mL hE hc,e1,e2];rw [rc h1,hS.len]
     · show _=_
       simp [A7 hr]
     exact ⟨ahh r,a,rfl,.inl ⟨r,_,mh,rfl,by simp⟩⟩
   cases hx
  |_=>cases h
 |_=>cases h
def vz {α:Type}:List α->List (Nat×α)->List α
 |l,[]=>l
 |l,(i,a)::r=>vz (l.set i a) r
theorem EV {α : Type} : ∀ (q : List (Nat × α)) (l : List α) (i : Nat), (vz l q)[i]? = (l[i]?).map fun z => rowAt i z q
  | [], l, i => by simp [vz, rowAt]
  | (j, a) :: q, l, i => by
    simp only [vz, rowAt]
    rw [EV q (l.set j a) i, NE]
    by_cases Uk : j = i
    · subst Uk
      cases hl : l[j]? with
      | none =>
        have : ¬ j < (ahh l) := by intro h; rw [IR h] at hl; cases hl
        simp [this]
      | some z =>
        have : j < (ahh l) := (AC.1 hl).1
        simp [this]
    have : UV j i = ahl := by
      cases hb : UV j i with
      | false => rfl
      | true => exact absurd (v6 hb) Uk
    simp [Uk, this]
theorem JY {α:Type} (f:Nat->α): ∀(n i j:Nat),(H5 f i n)[j]? =if j<n then ahi (f (i+j)) else ahj
 |0,i,j=>by simp [H5]
 |n+1,i,0=>by simp [H5]
 |n+1,i,j+1=>by
  simp only [H5,aaF];rw [JY f n (i+1) j,show i+1+j=i+(j+1) by omega]
  by_cases h:j<n
  · simp [h]
  simp [h]
theorem EW {α:Type} (z:α) (n:Nat) (q:List (Nat×α)):vz (aau n z) q=H5 (fun i=>rowAt i z q) 0 n:=by
 apply agF;intro i;rw [EV,JY]
 by_cases h:i<n
 · simp [h]
 simp [h]
theorem EX (hE:dA s e pe) {r:List PT} {n:Nat}: ∀{parts:List (Nat×fj)} {q:List (Nat×RT r)} {l:List (RT r)},Nv r e n parts=ahi q->ahh l=n->
 pK (parts.map fun p=>(p.1,p.2.ev pe)) (l.map (RT.pv r)) (ahh r)=ahi ((vz l q).map (RT.pv r))
 | [],q,l,h,hl=>by injection h with h;subst h;rfl
 |p::parts,q,l,h,hl=>by
  simp only [Nv] at h;split at h
  · rename_i a q' h1 h2
    cases hb:adc p.1 n with
    |false=>rw [hb] at h;cases h
    |true=>rw [hb] at h;injection h with h;subst h;have hp:=((dh hE p.2).ofRow h1).1;simp only [aaq,pK,hp,RT.vt,aap,hl,hb,aas,aar,if_true,vz];rw [<- agB];exact EX hE h2 (by simp [hl])
  cases h
theorem Pw (hE:dA s e pe) (hS:cj s ps) {esz n:Nat} {zero:Row} {parts:List (Nat×fj)} (h:l9 e s z (.Az esz n zero parts) k ρ w=ahi y):gJ s ps (bo pe ps z (.Az esz n zero parts)) k ρ w y:=by
 simp only [l9] at h;obtain ⟨r,hr,h1⟩:=bB h;obtain ⟨he,h2⟩:=cu h1;obtain ⟨q,hq,hk⟩:=bB h2;have he:=v6 he;subst he;have hf:=EX hE (l:=aau n (RT.zero r)) hq (by simp);rw [EW] at hf;have hz:(aau n (RT.zero r)).map (RT.pv r)=aau n zero:=by simp [A7 hr]
 rw [hz] at hf;refine ⟨_,_,?_,Good.new hS (b:= .arr r (H5 (fun i=>rowAt i (RT.zero r) q) 0 n)) (q:= .arr (ahh r) ((H5 (fun i=>rowAt i (RT.zero r) q) 0 n).map (RT.pv r))) (v:= .own (ahh s) ahk) (p:= .own (ahh s) (ahh r) 0 n n ahk) (rd:=[]) rfl ?_,hk⟩
 · simp only [bo,hf,hS.len]
   rfl
 refine ⟨ahh r,n,rfl,.inl ⟨r,_,mh,rfl,?_⟩⟩
 rw [<- EW];have: ∀(q:List (Nat×RT r)) (l:List (RT r)),(vz l q).length=(ahh l):=by
  intro q
  induction q with
  |nil=>intro l;rfl
  |cons p q ih=>intro l;simp [vz,ih]
 rw [this];simp
theorem NK: ∀{cs:List SV} {q:List PV} {l:List Int},RL s cs q->Nw cs=ahi l->q=l.map (.int .i64)
 | [],q,l,h,hi=>by injection hi with hi;subst hi;exact h
 |x::xs,q,l,h,hi=>by
  obtain ⟨p,q,rfl,h1,h2⟩:=h.cons_inv;simp only [Nw] at hi;split at hi
  · rename_i n l' hx
    injection hi with hi;subst hi;rw [show p= .int .i64 n from h1,NK h2 hx];rfl
  cases hi
theorem RR {v:SV} {p:PV} {n:Option Nat} {l:List Int} (h:R s v p) (hk:UA n v=ahi l):p=sI l/\js n (sI l)=ahk/\(sI l).cb=ahi (sI l).cells/\(sI l).cells=l.map (.int .i64)/\(n=ahj->ahh l=1)/\(∀m,n=ahi m->ahh l=m/\m≠1):=by
 cases n with
 |none=>
  cases v with
  |int kk a=>
   cases kk with
   |i64=>injection hk with hk;subst hk;exact ⟨h,rfl,rfl,rfl,fun _=>rfl,fun m hm=>by cases hm⟩
   |_=>cases hk
  |_=>cases hk
 |some m=>
  cases v with
  |agg cs=>
   simp only [UA] at hk;cases hc:(UV (ahh cs) m&&!Nat.beq m 1) with
   |false=>rw [hc] at hk;cases hk
   |true=>
    rw [hc] at hk;simp only [lw] at hk;simp only [ww,abI,aaj] at hc;obtain ⟨c1,c2⟩:=hc;obtain ⟨q,rfl,hq⟩:=h;have Qm:=NK hq hk;have bY:(ahh l)=m:=by have:=hq.mI;rw [Qm] at this;simp at this;omega
    have hm1:m≠1:=by intro e;subst e;cases c2
    have Qq:sI l= .agg (l.map (.int .i64)):=by
     unfold sI;split
     · simp at bY;omega
     rfl
    refine ⟨by rw [Qq,Qm],by rw [Qq];simp [js,bY],?_,by rw [Qq];rfl,(fun h=>by cases h),fun m' hm=>by injection hm with hm;subst hm;exact ⟨bY,hm1⟩⟩;rw [Qq];unfold PV.cb;rw [rc];simp [PV.cells,PV.plain]
  |_=>cases hk
theorem vA: ∀(a b:List Int),ahh a=ahh b->c8 (a.map (.int .i64)) (b.map (.int .i64))=ahi (a==b)
 | [],[],_=>rfl
 |x::a,y::b,h=>by
  have ih:=vA a b (by simpa using h);simp only [aaq,c8,qo,JW,if_true];cases Ub:x==y with
  |true=>simp only [ih];simp [age,Ub]
  |false=>simp [age,Ub]
 | [],_::_,h=>by simp at h
 |_::_,[],h=>by simp at h
theorem Ch {n : Option Nat} {a : List Int} (ha : (sI a).cells = a.map (.int .i64)) (hn : (n = ahj -> (ahh a) = 1) /\ (∀ m, n = ahi m -> (ahh a) = m /\ m ≠ 1)) : ∀ (l : List (List Int)) (i : Nat), (∀ r, eX n (sI a) (l.map A3) i = ahi r -> (match r with | none => Dr l a = ahl | some j => i <= j /\ Dr l a = ahk /\ l[j - i]? = ahi a))
  | [], i, r, h => by
    simp only [agO, eX, If] at h
    subst h; rfl
  | b :: l, i, r, h => by
    simp only [aaq, A3, eX] at h
    split at h
    · rename_i hk
      have hb : (sI b).cells = b.map (.int .i64) /\ (ahh a) = (ahh b) := by
        cases n with
        | none =>
          have hl := hn.1 rfl
          unfold sI at hk ⊢
          split at hk
          · exact ⟨rfl, by simpa using hl⟩
          cases hk
        | some m =>
          obtain ⟨hl, hm⟩ := hn.2 m rfl
          unfold sI at hk ⊢
          split at hk
          · cases hk
          simp only [js, aap, abI] at hk
          exact ⟨rfl, by omega⟩
      rw [ha, hb.1, vA a b hb.2] at h
      cases GI : a == b with
      | true =>
        rw [GI] at h
        injection h with h; subst h
        have : a = b := by simpa using GI
        subst this
        exact ⟨acr _, by simp [Dr], by simp⟩
      | false =>
        rw [GI] at h
        have := Ch ha hn l (i + 1) r h
        cases r with
        | none => simpa [Dr, GI] using this
        | some j =>
          obtain ⟨h1, h2, h3⟩ := this
          refine ⟨by omega, by simp only [Dr] at h2; simp [Dr, h2], ?_⟩
          rw [show j - i = (j - (i + 1)) + 1 by omega]; simpa using h3
    cases h
theorem A8 {n:Option Nat} {a:List Int} (ha:(sI a).cells=a.map (.int .i64)) (hn:(n=ahj->ahh a=1)/\(∀m,n=ahi m->ahh a=m/\m≠1)) {l:List (List Int)} (hl:l.all (fun b=>js n (sI b))=ahk): ∀i,∃r,eX n (sI a) (l.map A3) i=ahi r:=by
 induction l with
 |nil=>intro i;exact ⟨ahj,rfl⟩
 |cons b l ih=>
  intro i;simp only [agc,ww] at hl;obtain ⟨r,hr⟩:=ih hl.2 (i+1);simp only [aaq,A3,eX,hl.1,if_true];have hb:(sI b).cells=b.map (.int .i64)/\ahh a=(ahh b):=by
   have hk:=hl.1;cases n with
   |none=>
    have kM:=hn.1 rfl;unfold sI at hk ⊢;split at hk
    · exact ⟨rfl,by simpa using kM⟩
    cases hk
   |some m=>
    obtain ⟨kM,hm⟩:=hn.2 m rfl;unfold sI at hk ⊢;split at hk
    · cases hk
    simp only [js,aap,abI] at hk
    exact ⟨rfl,by omega⟩
  rw [ha,hb.1,vA a b hb.2];cases GI:a==b with
  |true=>exact ⟨ahi i,rfl⟩
  |false=>exact ⟨r,hr⟩
theorem C3 {n:Option Nat} {a:List Int} (hn:(n=ahj->ahh a=1)/\(∀m,n=ahi m->ahh a=m/\m≠1)) {l:List (List Int)} (hl: ∀b∈l,ahh b=ahh a):l.all (fun b=>js n (sI b))=ahk:=by
 rw [aaA];intro b hb;have bY:=hl b hb;cases n with
 |none=>
  have h1:=hn.1 rfl;rw [h1] at bY
  match b,bY with
  | [x],_=>rfl
 |some m=>
  obtain ⟨h1,h2⟩:=hn.2 m rfl;unfold sI;split
  · rename_i x;simp at bY;omega
  simp [js];omega
theorem A9 {a:List Int} {l:List (List Int)} (h:nL a l=ahk): ∀b∈l,ahh b=(ahh a):=by intro b hb;exact v6 (aaA.1 h b hb)
theorem PT.aiG {s:List SB} {p:PT} {v:SV} {q:PV} {a:p.T} (h:R s v q) (ho:p.of v=ahi a):q=p.pv a:=by
 cases p with
 |i k=>
  cases v with
  |int l n=>
   simp only [PT.of] at ho;cases hk:eZ l k with
   |false=>rw [hk] at ho;cases ho
   |true=>rw [hk] at ho;obtain rfl:=eH.1 hk;injection ho with ho;subst ho;exact h
  |_=>cases ho
 |b=>
  cases v with
  |bool x=>injection ho with ho;subst ho;exact h
  |_=>cases ho
theorem EY {β:Type} (g:Int×β->PV×PV) (hg: ∀x,(g x).1= .int .i64 x.1) (k:Int): ∀(l:List (Int×β)) (i:Nat),
 (∃j x,eX ahj (.int .i64 k) (l.map g) i=ahi (ahi (i+j))/\l[j]? =ahi x/\(∀z,CW z l k=x.2)/\ ∀a,CX l k a=l.set j (k,a))\/
 (eX ahj (.int .i64 k) (l.map g) i=ahi ahj/\(∀z,CW z l k=z)/\ ∀a,CX l k a=l++[(k,a)])
 | [],i=> .inr ⟨rfl,fun _=>rfl,fun _=>rfl⟩
 |x::l,i=>by
  have hk:js ahj (g x).1=ahk:=by rw [hg];rfl
  have he:c8 (PV.int .i64 k).cells (g x).1.cells=ahi (k==x.1):=by rw [hg];show c8 [.int .i64 k] [.int .i64 x.1]=_;simp only [c8,qo,eZ,if_true];cases k==x.1<;>rfl
  have hf:eX ahj (.int .i64 k) ((x::l).map g) i=(match ahi (k==x.1) with
   |some ahk=>ahi (ahi i)
   |some ahl=>eX ahj (.int .i64 k) (l.map g) (i+1)
   |none=>ahj):=by
   rw [aaq];show (if js ahj (g x).1 then _ else ahj)=_;rw [rc hk,he];cases k==x.1<;>rfl
  cases hb:k==x.1 with
  |true=>rw [hb] at hf;exact .inl ⟨0,x,hf,rfl,fun z=>by simp only [CW,hb,lw],fun a=>by simp only [CX,hb,lw,List.set_cons_zero]⟩
  |false=>
   rw [hb] at hf;rcases EY g hg k l (i+1) with ⟨j,y,h1,h2,h3,h4⟩|⟨h1,h2,h3⟩
   · refine .inl ⟨j+1,y,?_,by simpa using h2,fun z=>?_,fun a=>?_⟩
     · rw [hf];show eX ahj (.int .i64 k) (l.map g) (i+1)=_
       rw [h1,show i+1+j=i+(j+1) by omega]
     · simp only [CW,hb,pp,h3]
     simp only [CX,hb,pp,h4,List.set_cons_succ]
   exact .inr ⟨hf.trans h1,fun z=>by simp only [CW,hb,pp,h2],fun a=>by simp only [CX,hb,pp,h3,acj]⟩
theorem EZ (p:PT) (k:Int) (l:List (RT [.i .i64,p])):
 (∃(j:Nat) (x:RT [.i .i64,p]),eX ahj (.int .i64 k) (l.map (Ds p)) 0=ahi (ahi j)/\l[j]? =ahi x/\(∀z,p.get z l k=x.2)/\ ∀a,p.put l k a=l.set j (k,a))\/
 (eX ahj (.int .i64 k) (l.map (Ds p)) 0=ahi ahj/\(∀z,p.get z l k=z)/\ ∀a,p.put l k a=l++[(k,a)]):=by
 cases p with
 |i d=>
  rcases EY (β:=Int) (Ds (.i d)) (fun _=>rfl) k l 0 with ⟨j,x,h1,h2,h3,h4⟩|h
  · exact .inl ⟨j,x,by rw [h1,abp],h2,h3,h4⟩
  exact .inr h
 |b=>
  rcases EY (β:=Bool) (Ds .b) (fun _=>rfl) k l 0 with ⟨j,x,h1,h2,h3,h4⟩|h
  · exact .inl ⟨j,x,by rw [h1,abp],h2,h3,h4⟩
  exact .inr h
theorem PT.amk {s:List SB} (p:PT) (a:p.T):R s (p.sv a) (p.pv a):=by cases p<;>rfl
theorem PT.JZ (p:PT) (a:p.T):(p.pv a).cb=ahi [p.pv a]:=by cases p<;>rfl
theorem L7 (hE:dA s e pe) (hS:cj s ps) {n:Option Nat} {zero:PV} {ok:Bool} {m q:fj} (h:l9 e s z (.lookup n zero ok m q) k ρ w=ahi y):gJ s ps (bo pe ps z (.lookup n zero ok m q)) k ρ w y:=by
 simp only [l9] at h;have hx:=dh hE m;generalize bG e m=v at h hx;cases v with
 |mp t=>
  simp only [bQ] at h;generalize bM:s[t]? =b at h;cases b with
  |none=>cases h
  |some b=>
   cases b with
   |set l=>
    dsimp only at h;unfold Ny at h;cases zero with
    |bool b=>
     cases b with
     |true=>cases h
     |false=>
      cases ok with
      |true=>cases h
      |false=>
       obtain ⟨a,ha,h1⟩:=bB h;obtain ⟨b,hb,hk⟩:=cq h1;obtain ⟨k1,k2,k3,k4,k5⟩:=RR (dh hE q) ha;unfold JM at hb;cases tF:nL a l with
       |false=>rw [tF] at hb;cases hb
       |true=>
        rw [tF] at hb;injection hb with hb;subst hb;obtain ⟨r,hr⟩:=A8 k4 k5 (C3 k5 (A9 tF)) 0;have hf:=Ch k4 k5 l 0 r hr;refine gJ.rd hS hk ?_ rfl;show sK ps n (.bool ahl) ahl (m.ev pe) (q.ev pe)=_;rw [show m.ev pe=_ from hx,k1];simp only [sK,hS.aiD bM,k2,if_true,hr];cases r with
        |none=>simp only at hf;simp [hf]
        |some j=>
         obtain ⟨_,h2,h3⟩:=hf;have:(l.map A3)[j]? =ahi (A3 a):=by simp at h3;simp [h3]
         simp [this,h2,A3]
    |_=>cases h
   |bD p l=>
    dsimp only at h;unfold Nz at h;cases n with
    |some _=>cases h
    |none=>
     cases ok with
     |true=>cases h
     |false=>
      have hq:=dh hE q;generalize bG e q=u at h hq;cases u with
      |int d a=>
       cases d with
       |i64=>
        obtain ⟨zv,hz,hk⟩:=bB h;have aiH:=PT.aiG (L4 s zero) hz;refine gJ.rd hS hk ?_ (PT.amk p _);show sK ps ahj zero ahl (m.ev pe) (q.ev pe)=_;rw [show m.ev pe=_ from hx,show q.ev pe=_ from hq];rcases EZ p a l with ⟨j,x,h1,h2,h3,_⟩|⟨h1,h2,_⟩
        · have h5:(l.map (Ds p))[j]? =ahi (Ds p x):=by simp [h2]
          simp only [sK,hS.US bM,js,if_true,h1,h5,h3,Ds,aa2,if_false]
        simp only [sK,hS.US bM,js,if_true,h1,h2,aiH,aa2,if_false]
       |_=>cases h
      |_=>cases h
   |_=>cases h
 |_=>cases h
theorem RS (hE:dA s e pe) (hS:cj s ps) {n:Option Nat} {m q x:fj} (h:l9 e s z (.HA n m q x) k ρ w=ahi y):gJ s ps (bo pe ps z (.HA n m q x)) k ρ w y:=by
 simp only [l9] at h;have hx:=dh hE m;generalize bG e m=v at h hx;cases v with
 |mp t=>
  simp only [bQ] at h;generalize bM:s[t]? =b at h;cases b with
  |none=>cases h
  |some b=>
   cases b with
   |set l=>
    obtain ⟨hz,h0⟩:=ry h;unfold Rr at h0;have hv:=dh hE x;generalize bG e x=u at h0 hv;cases u with
    |bool b=>
     cases b with
     |false=>cases h0
     |true=>
      obtain ⟨a,ha,h1⟩:=bB h0;obtain ⟨b,hb,hk⟩:=cq h1;obtain ⟨k1,k2,k3,k4,k5⟩:=RR (dh hE q) ha;unfold JN at hb;cases tF:nL a l with
      |false=>rw [tF] at hb;cases hb
      |true=>
       rw [tF] at hb;injection hb with hb;subst hb;obtain ⟨r,hr⟩:=A8 k4 k5 (C3 k5 (A9 tF)) 0;have hf:=Ch k4 k5 l 0 r hr;refine ⟨_,_,?_,Good.RG hS (b:= .set (LQ l a)) (q:= .map ((LQ l a).map A3)) (rd:=[]) bM trivial rfl,hk⟩;show CP ps z n (m.ev pe) (q.ev pe) (x.ev pe)=_;rw [show m.ev pe=_ from hx,k1,show x.ev pe= .bool ahk from hv];have p2:(PV.bool ahk).cb=ahi [.bool ahk]:=rfl;simp only [CP,hS.aiD bM,k2,hz,ab0,aar,if_true,k3,p2,hr];cases r with
       |none=>simp only at hf;simp [LQ,hf,A3]
       |some j=>
        obtain ⟨_,h2,h3⟩:=hf;have h5:l[j]? =ahi a:=by simpa using h3
        have:(l.map A3).set j (sI a,.bool ahk)=l.map A3:=by
         apply agF;intro i;rw [NE];split
         · rename_i k9
           subst k9;have df:=(AC.1 h5).1;have h6:l[j]=a:=(AC.1 h5).2;simp [df,h6,A3]
         rfl
        simp [LQ,h2,this]
    |_=>cases h0
   |bD p l=>
    obtain ⟨hz,h0⟩:=ry h;unfold Rs at h0;cases n with
    |some _=>cases h0
    |none=>
     have hq:=dh hE q;generalize bG e q=u at h0 hq;cases u with
     |int d a=>
      cases d with
      |i64=>
       obtain ⟨xv,hxv,hk⟩:=bB h0;have Px:=PT.aiG (dh hE x) hxv;refine ⟨_,_,?_,Good.RG hS (b:= .bD p (p.put l a xv)) (q:= .map ((p.put l a xv).map (Ds p))) (rd:=[]) bM trivial rfl,hk⟩;show CP ps z ahj (m.ev pe) (q.ev pe) (x.ev pe)=_;rw [show m.ev pe=_ from hx,show q.ev pe=_ from hq,Px];have p1:(PV.int .i64 a).cb=ahi [.int .i64 a]:=rfl;rcases EZ p a l with ⟨j,x,h1,_,_,h3⟩|⟨h1,_,h3⟩
       · simp only [CP,hS.US bM,js,hz,ab0,aar,if_true,p1,PT.JZ,h1,h3,agB,Ds]
       simp only [CP,hS.US bM,js,hz,ab0,aar,if_true,p1,PT.JZ,h1,h3,aaS,aaq,agO,Ds]
      |_=>cases h0
     |_=>cases h0
   |_=>cases h
 |_=>cases h
theorem zl.fr' {s s':List SB} {bad:List Nat} {t e:Nat} (h:zl s t e) (hf:Fr bad s s'):zl s' t e:=by
 rcases h with ⟨r,l,h1,h2⟩|h1|⟨cs,h1,h2⟩
 · rcases hf t _ h1 with ⟨l',k1,_,_⟩|k1
   · exact .inl ⟨r,l',k1,h2⟩
   exact .inr (.inl k1)
 · exact .inr (.inl (hf t _ h1))
 rcases hf t _ h1 with ⟨c2,k1⟩|k1
 · exact .inr (.inr ⟨c2,k1,h2⟩)
 exact .inr (.inl k1)
theorem Aa {α:Type} {l r:List α} (h:bP l=ahi r):r=l/\ahh l<=1048576:=by
 unfold bP at h;split at h
 · injection h with h;exact ⟨h.symm,by assumption⟩
 cases h
theorem xN {α:Type} {l m r:List α} (h:bm l m=ahi r):r=l++m/\ahh l+ahh m<=1048576:=by
 unfold bm at h;split at h
 · injection h with h;exact ⟨h.symm,by assumption⟩
 cases h
theorem sX: ∀(m l:List Row) (n:Nat),n+ahh m<=ahh l->kK n m l=fa l n m
 | [],l,n,h=>by simp [kK,fa]
 |a::m,l,n,h=>by
  simp only [aak] at h;rw [kK,sX m (l.set n a) (n+1) (by simp;omega)];unfold fa;rw [List.take_set,List.drop_set];have hn:n<(ahh l):=by omega
  have h1: ¬(n+1+ahh m<=n):=by omega
  rw [rc (by omega)];have:(l.take (n+1)).set n a=l.take n++[a]:=by rw [List.take_succ_eq_append_getElem hn,List.set_append_right _ _ (by simp;omega)];simp [acl (agD hn)]
  rw [this];simp only [aal,acj,List.nil_append,aak];rw [show n+1+ahh m=n+(ahh m+1) by omega]
theorem E0 {α β:Type} (f:α->β) (l m:List α) (n:Nat):(fa l n m).map f=fa (l.map f) n (m.map f):=by simp [fa,aaw,abe]
theorem A' {α:Type} (l m:List α) (n:Nat) (h:n+ahh m<=ahh l):(fa l n m).length=(ahh l):=by simp [fa];omega
theorem L8 (hE:dA s e pe) (hS:cj s ps) {esz:Nat} {x yy:fj} (h:l9 e s z (.append esz x yy) k ρ w=ahi y):gJ s ps (bo pe ps z (.append esz x yy)) k ρ w y:=by
 simp only [l9] at h;have hx:=dh hE x;have Q8:=dh hE yy;unfold Nx at h;generalize bG e yy=vy at h Q8;cases hc:zj s vy with
 |none=>rw [hc] at h;cases h
 |some cc=>
  obtain ⟨q,m⟩:=cc;rw [hc] at h;dsimp only at h;obtain ⟨he,h⟩:=cu h;have he:=v6 he;obtain ⟨zb,Ay⟩:=NI hS Q8 hc;rw [he] at zb;have vB:bo pe ps z (.append esz x yy)=iQ ps z esz (x.ev pe) (yy.ev pe):=rfl;generalize bG e x=v at h hx;cases v with
  |nil e' c=>
   dsimp only at h;obtain ⟨GD,h⟩:=cu h;obtain ⟨m',zR,hk⟩:=cq h;obtain ⟨rfl,kY⟩:=Aa zR;refine ⟨_,_,?_,Good.new hS (b:= .arr q m') (q:= .arr esz (m'.map (RT.pv q))) (v:= .own (ahh s) ahl) (p:= .own (ahh s) esz 0 (ahh m') (ahh m') ahl) (rd:=vp vy) (by rw [<- he];rfl) ⟨esz,ahh m',rfl,.inl ⟨q,m',mh,he.symm,rfl⟩⟩,hk⟩;rw [vB];have aml:c=ahk:=GD;subst aml;rw [show x.ev pe= .sl e' ahk [] from hx];unfold iQ;rw [zb];cases m' with
   |nil=>simp [hS.len,Ay]
   |cons a m'=>
    have h2:PP ((a::m').length) lI=ahk:=by simp [lI] at kY ⊢;omega
    simp only [aak] at h2;simp [hS.len,Ay,h2]
  |own t ex=>
   dsimp only at h;simp only [bQ] at h;generalize bM:s[t]? =b at h;cases b with
   |none=>cases h
   |some b=>
    cases b with
    |arr r l=>
     dsimp only at h;cases RU:rM q r m with
     |none=>rw [RU] at h;cases h
     |some m2=>
      rw [RU] at h;dsimp only at h;obtain ⟨rfl,hmp,y6⟩:=A2 RU;obtain ⟨e',n',hx,cJ⟩:=hx;obtain ⟨rfl,rfl⟩:=cJ.inv bM;rw [<- hmp] at zb;have Gq:=hS.arr bM;cases ex with
      |true=>
       dsimp only at h;rcases eJ h with ⟨hl,h⟩|⟨hl,h⟩
       · obtain ⟨m',zR,hk⟩:=cq h
         obtain ⟨rfl,kY⟩:=Aa zR;have hl:l=[]:=by simpa using hl
         subst hl;refine ⟨_,_,?_,Good.new hS (b:= .arr q m') (q:= .arr (ahh q) (m'.map (RT.pv q))) (v:= .own (ahh s) ahl) (p:= .own (ahh s) (ahh q) 0 (ahh m') (ahh m') ahl) (rd:=t::vp vy) rfl ⟨ahh q,ahh m',rfl,.inl ⟨q,m',mh,rfl,rfl⟩⟩,hk⟩;rw [vB,hx];unfold iQ;rw [zb];subst he;cases m' with
         |nil=>simp [hS.len,Ay]
         |cons a m'=>
          have h2:PP ((a::m').length) lI=ahk:=by simp [lI] at kY ⊢;omega
          simp only [aak] at h2;simp [hS.len,Ay,h2,Gq]
       have hl:l≠[]:=by intro e;subst e;cases hl
       have IZ:(ahh l)≠0:=by intro e;exact hl (abo.1 e)
       have hb0:UV (ahh l) 0=ahl:=by
        cases hb:UV (ahh l) 0 with
        |false=>rfl
        |true=>exact absurd (v6 hb) IZ
       rcases eJ h with ⟨hm,h⟩|⟨hm,h⟩
       · have hm:m2=[]:=by simpa using hm
         subst hm;refine gJ.rd hS h ?_ ⟨_,_,rfl,cJ⟩;rw [vB,hx];unfold iQ;rw [zb];simp [hb0,Ay]
       obtain ⟨l',kM,hk⟩:=cq h
       obtain ⟨rfl,kY⟩:=xN kM;refine ⟨_,_,?_,Good.new hS (b:= .arr q (l++m2)) (q:= .arr (ahh q) ((l++m2).map (RT.pv q))) (v:= .own (ahh s) ahl) (p:= .own (ahh s) (ahh q) 0 (l++m2).length (l++m2).length ahl) (rd:=t::vp vy) rfl ⟨ahh q,(l++m2).length,rfl,.inl ⟨q,l++m2,mh,rfl,rfl⟩⟩,hk⟩;rw [vB,hx];unfold iQ;rw [zb];subst he;cases m2 with
       |nil=>cases hm
       |cons a m2=>
        have h2:PP (ahh l+(a::m2).length) lI=ahk:=by simp [lI] at kY ⊢;omega
        have h3:PP (ahh l+(ahh m2+1)) (ahh l)=ahl:=by
         cases hb:PP (ahh l+(ahh m2+1)) (ahh l) with
         |false=>rfl
         |true=>have:=aa6 hb;omega
        simp only [aak] at h2;simp [hS.len,Ay,h2,h3,Gq,aay]
      |false=>
       dsimp only at h;rcases eJ h with ⟨hm,h⟩|⟨hm,h⟩
       · have hm:m2=[]:=by simpa using hm
         subst hm;refine gJ.rd hS h ?_ ⟨_,_,rfl,cJ⟩;rw [vB,hx];unfold iQ;rw [zb];simp [Ay]
       obtain ⟨hz,h⟩:=ry h
       obtain ⟨l',kM,hk⟩:=cq h;obtain ⟨rfl,kY⟩:=xN kM;have bY:(BK [t] (s.set t .dead)).length=(ahh s):=by rw [vv];simp
       refine ⟨_,_,?_,Good.put hS (b:= .dead) (q:= .dead) (l:=[.arr q (l++m2)]) (ql:=[.arr (ahh q) ((l++m2).map (RT.pv q))]) (v:= .own (ahh s) ahl) (p:= .own (ahh s) (ahh q) 0 (l++m2).length (l++m2).length ahl) (rd:=vp vy) bM (.inr rfl) rfl rfl
        (fun j b hj=>by
         cases j with
         |zero=>simp at hj;subst hj;exact ⟨_,rfl,rfl⟩
         |succ j=>simp at hj)
        ⟨ahh q,(l++m2).length,rfl,.inl ⟨q,l++m2,by rw [<- bY];exact mh,rfl,rfl⟩⟩,hk⟩
       rw [vB,hx];unfold iQ;rw [zb];subst he;cases m2 with
       |nil=>cases hm
       |cons a m2=>
        have h2:PP (ahh l+(a::m2).length) lI=ahk:=by simp [lI] at kY ⊢;omega
        have h3:PP (ahh l+(ahh m2+1)) (ahh l)=ahl:=by
         cases hb:PP (ahh l+(ahh m2+1)) (ahh l) with
         |false=>rfl
         |true=>have:=aa6 hb;omega
        simp only [aak] at h2;simp [hS.len,Ay,h2,h3,Gq,hz,aay]
    |_=>cases h
  |pre t len cap ex=>
   dsimp only at h;simp only [bQ] at h;generalize bM:s[t]? =b at h;cases b with
   |none=>cases h
   |some b=>
    cases b with
    |arr r l=>
     dsimp only at h;cases RU:rM q r m with
     |none=>rw [RU] at h;cases h
     |some m2=>
      rw [RU] at h;dsimp only at h;obtain ⟨rfl,hmp,y6⟩:=A2 RU;obtain ⟨e',hx,cJ⟩:=hx;have:=cJ.inv bM;subst this;rw [<- hmp] at zb;have Gq:=hS.arr bM;obtain ⟨hex,h⟩:=ry h;subst hex;rcases eJ h with ⟨hm,h⟩|⟨hm,h⟩
      · have hm:m2=[]:=by simpa using hm
        subst hm;refine gJ.rd hS h ?_ ⟨_,rfl,cJ⟩;rw [vB,hx];unfold iQ;rw [zb];simp [Ay]
      rcases eJ h with ⟨c1,h⟩|⟨c1,h⟩
      · obtain ⟨Gd,hk⟩:=hM h
        simp only [ww,aaj] at Gd;obtain ⟨c2,c3⟩:=Gd;have c2':=aa6 c2;refine ⟨_,_,?_,Good.put hS (b:= .arr q (fa l len m2)) (q:= .arr (ahh q) ((fa l len m2).map (RT.pv q))) (l:=[]) (ql:=[]) (v:= .pre t (len+ahh m2) cap ahl) (p:= .own t (ahh q) 0 (len+ahh m2) cap ahl) (rd:=vp vy) bM (.inl ⟨_,rfl,A' _ _ _ c2'⟩) rfl rfl
         (fun j b hj=>by simp at hj) ⟨ahh q,rfl,?_⟩,hk⟩
        · rw [vB,hx]
          unfold iQ;rw [zb];subst he;have j8:kK (0+len) (m2.map (RT.pv q)) (l.map (RT.pv q))=(fa l len m2).map (RT.pv q):=by rw [sX _ _ _ (by simp;omega),E0,abp]
          cases m2 with
          |nil=>cases hm
          |cons a m2=>simp only [aak] at c1;simp only [aaq] at j8 ⊢;simp only [Gq,aas,agd,aa2,if_false,aak,aap,c1,if_true,c3,j8,Ay]
        have:=zl.fr' (s:=s) (s':=BK [t] (s.set t (.arr q (fa l len m2)))++[]) cJ ((Fr.dg (ts:=[t]) (Fr.set bM (.inl ⟨_,rfl,A' _ _ _ c2'⟩))).trans (Fr.app [t] _ []))
        exact this
      obtain ⟨hz0,h⟩:=ry h
      have hz:has z t=ahl:=by
       cases hh:has z t with
       |false=>rfl
       |true=>rw [hh] at hz0;cases hz0
      obtain ⟨l',kM,h⟩:=cq h;obtain ⟨zJ,hk⟩:=hM h;obtain ⟨amm,kY⟩:=xN kM;subst amm;have arJ:=aa6 zJ;have O7:(l.take len).length=len:=by rw [aav];omega
      rw [O7] at kY;have bY:(BK [t] (s.set t .dead)).length=(ahh s):=by rw [vv];simp
      have hal:(l.take len++m2).length=len+(ahh m2):=by rw [abK,O7]
      refine ⟨_,_,?_,Good.put hS (b:= .dead) (q:= .dead) (l:=[.arr q (l.take len++m2)]) (ql:=[.arr (ahh q) ((l.take len++m2).map (RT.pv q))]) (v:= .own (ahh s) ahl) (p:= .own (ahh s) (ahh q) 0 (l.take len++m2).length (l.take len++m2).length ahl) (rd:=vp vy) bM (.inr rfl) rfl rfl
       (fun j b hj=>by
        cases j with
        |zero=>simp at hj;subst hj;exact ⟨_,rfl,rfl⟩
        |succ j=>simp at hj)
       ⟨ahh q,(l.take len++m2).length,rfl,.inl ⟨q,l.take len++m2,by rw [<- bY];exact mh,rfl,rfl⟩⟩,hk⟩
      rw [vB,hx];unfold iQ;rw [zb];subst he;cases m2 with
      |nil=>cases hm
      |cons a m2=>
       have h2:PP (len+(ahh m2+1)) lI=ahk:=by simp [lI] at kY ⊢;omega
       simp only [aak] at c1 hal;simp only [aaq,aak,aap,Gq,aas,agd,aa2,if_false,c1,h2,hz,hS.len,Ay,hal,aaE,aaS,aaw]
    |_=>cases h
  |_=>cases h
end
end Go.Vm
/- Operation by operation: all of them. -/
namespace Go.Vm
section
variable {R' ρ : Type} {w : R' -> ρ} {y : ρ} {s : List SB} {ps : bW} {e : SE} {pe : Env} {z : List Nat} {k : fJ -> fZ R'}
theorem Py (hE:dA s e pe) (hS:cj s ps) {esz:Nat} {zero:Row} {x:fj} (h:l9 e s z (.clear esz zero x) k ρ w=ahi y):gJ s ps (bo pe ps z (.clear esz zero x)) k ρ w y:=by
 simp only [l9] at h;have hx:=dh hE x;unfold Rq at h;generalize bG e x=v at h hx;cases v with
 |part t off len cap ex=>
  simp only [bQ] at h;generalize bM:s[t]? =b at h;cases b with
  |none=>cases h
  |some b=>
   cases b with
   |arr r l=>
    dsimp only at h;cases hq:EG zero with
    |none=>rw [hq] at h;cases h
    |some q=>
     rw [hq] at h;dsimp only at h;obtain ⟨hc,h1⟩:=cu h;simp only [ww] at hc;obtain ⟨hqr,he⟩:=hc;have hqr:=uF hqr;have he:=v6 he;obtain ⟨e',hx,cJ⟩:=hx;have:=cJ.inv bM;subst this;subst hqr;subst he;rcases eJ h1 with ⟨hl,hk⟩|⟨hl,hk⟩
     · have hl:=v6 hl
       subst hl;exact gJ.val hS hk (by simp only [bo,hx]) rfl
     obtain ⟨Gd,hk⟩:=hM hk
     simp only [ww,aaj] at Gd;obtain ⟨c1,c2⟩:=Gd;have c1':=aa6 c1;have bY:=A' l (aau len (RT.zero q)) off (by simpa using c1');refine ⟨_,_,?_,Good.RG hS (b:= .arr q (fa l off (aau len (RT.zero q)))) (q:= .arr (ahh q) ((fa l off (aau len (RT.zero q))).map (RT.pv q))) (rd:=[]) bM (.inl ⟨_,rfl,bY⟩) rfl,hk⟩;cases len with
     |zero=>cases hl
     |succ len=>
      have j8:kK off (aau (len+1) zero) (l.map (RT.pv q))=(fa l off (aau (len+1) (RT.zero q))).map (RT.pv q):=by rw [E0,sX _ _ _ (by simpa using c1')];simp [A7 hq]
      simp only [bo,hx,hS.arr bM,aas,c2,ab0,aar,if_true,j8]
   |_=>cases h
 |_=>cases h
theorem Ab (hS:cj s ps) {t off len cap:Nat} {ex:Bool} {r:List PT} {l:List (RT r)} {x yy:fj} {vy:SV} (bM:s[t]? =ahi (.arr r l)) (hx:x.ev pe= .own t (ahh r) off len cap ex) (Q8:R s vy (yy.ev pe))
 (h:EH s z t r l off len vy k ρ w=ahi y):gJ s ps (bo pe ps z (.copy (ahh r) x yy)) k ρ w y:=by
 unfold EH at h;cases hc:zj s vy with
 |none=>rw [hc] at h;cases h
 |some cc=>
  obtain ⟨q,m⟩:=cc;rw [hc] at h;dsimp only at h;cases RU:rM q r m with
  |none=>rw [RU] at h;cases h
  |some m2=>
   rw [RU] at h;dsimp only at h;obtain ⟨hqr,hmp,y6⟩:=A2 RU;subst hqr;obtain ⟨zb,Ay⟩:=NI hS Q8 hc;rw [<- hmp] at zb;have E1:(m2.map (RT.pv q)).take len=(m2.take len).map (RT.pv q):=by rw [aaw]
   generalize m2.take len=mm at h E1;rcases eJ h with ⟨hm,hk⟩|⟨hm,hk⟩
   · have hm:mm=[]:=by simpa using hm
     subst hm;refine gJ.rd hS hk ?_ rfl;simp only [bo,zb,hx,E1,agO,Ay]
   obtain ⟨Gd,hk⟩:=hM hk
   simp only [ww,aaj] at Gd;obtain ⟨c1,c2⟩:=Gd;have c1':=aa6 c1;have bY:=A' l mm off c1';refine ⟨_,_,?_,Good.put hS (b:= .arr q (fa l off mm)) (q:= .arr (ahh q) ((fa l off mm).map (RT.pv q))) (l:=[]) (ql:=[]) (v:= .int .i64 (.ofNat (ahh mm))) (p:= .int .i64 (.ofNat (ahh mm))) (rd:=vp vy) bM (.inl ⟨_,rfl,bY⟩) rfl rfl (fun j b hj=>by simp at hj) rfl,hk⟩;have j8:kK off (mm.map (RT.pv q)) (l.map (RT.pv q))=(fa l off mm).map (RT.pv q):=by rw [E0,sX _ _ _ (by simpa using c1')]
   cases mm with
   |nil=>cases hm
   |cons a mm=>simp only [aaq] at j8 E1;simp only [bo,zb,hx,E1,hS.arr bM,aas,c2,ab0,aar,if_true,j8,Ay,aap,aak]
theorem RW (hE:dA s e pe) (hS:cj s ps) {esz:Nat} {x yy:fj} (h:l9 e s z (.copy esz x yy) k ρ w=ahi y):gJ s ps (bo pe ps z (.copy esz x yy)) k ρ w y:=by
 simp only [l9] at h;have hx:=dh hE x;have Q8:=dh hE yy;unfold aaQ at h;generalize bG e yy=vy at h Q8;generalize bG e x=v at h hx;cases v with
 |own t ex=>
  simp only [bQ] at h;generalize bM:s[t]? =b at h;cases b with
  |none=>cases h
  |some b=>
   cases b with
   |arr r l=>obtain ⟨he,hk⟩:=cu h;have he:=v6 he;subst he;obtain ⟨e',n',hx,cJ⟩:=hx;obtain ⟨rfl,rfl⟩:=cJ.inv bM;exact Ab hS bM hx Q8 hk
   |_=>cases h
 |pre t len cap ex=>
  simp only [bQ] at h;generalize bM:s[t]? =b at h;cases b with
  |none=>cases h
  |some b=>
   cases b with
   |arr r l=>obtain ⟨he,hk⟩:=cu h;have he:=v6 he;subst he;obtain ⟨e',hx,cJ⟩:=hx;have:=cJ.inv bM;subst this;exact Ab hS bM hx Q8 hk
   |_=>cases h
 |part t off len cap ex=>
  simp only [bQ] at h;generalize bM:s[t]? =b at h;cases b with
  |none=>cases h
  |some b=>
   cases b with
   |arr r l=>obtain ⟨he,hk⟩:=cu h;have he:=v6 he;subst he;obtain ⟨e',hx,cJ⟩:=hx;have:=cJ.inv bM;subst this;exact Ab hS bM hx Q8 hk
   |_=>cases h
 |_=>cases h
theorem Pz (hE:dA s e pe) (hS:cj s ps) {x1 x2:fj} (h:l9 e s z (.CL x1 x2) k ρ w=ahi y):gJ s ps (bo pe ps z (.CL x1 x2)) k ρ w y:=by
 simp only [l9] at h;have hx:=dh hE x1;have hy:=dh hE x2;generalize bG e x1=v at h hx;generalize bG e x2=u at h hy;cases v with
 |sl r l=>
  cases u with
  |sl q m=>have hx:x1.ev pe= .sl (ahh r) ahl (l.map (RT.pv r)):=hx;have hy:x2.ev pe= .sl (ahh q) ahl (m.map (RT.pv q)):=hy;refine ⟨_,_,?_,Good.new hS (b:= .box [.sl r l,.sl q m]) (q:= .box [.sl (ahh r) ahl (l.map (RT.pv r)),.sl (ahh q) ahl (m.map (RT.pv q))]) (v:= .part (ahh s) 0 2 2 ahk) (p:= .own (ahh s) 1 0 2 2 ahk) (rd:=[]) ⟨_,rfl,_,_,rfl,rfl,_,_,rfl,rfl,rfl⟩ ⟨1,rfl,.inr (.inr ⟨_,mh,rfl⟩)⟩,h⟩;simp only [bo,hx,hy,hS.len];rfl
  |_=>cases h
 |_=>cases h
theorem UX (hE:dA s e pe) (hS:cj s ps) {op:kG} (h:l9 e s z op k ρ w=ahi y):gJ s ps (bo pe ps z op) k ρ w y:=by
 cases op with
 |Ql x=>exact gJ.val hS h rfl (dh hE x)
 |pick c a b=>exact RN hE hS h
 |bin op a b=>exact UJ hE hS h
 |I3 n a b=>exact RH hE hS h
 |eqc n g a b=>exact UK hE hS h
 |un op a=>exact ab7 hE hS h
 |conv a x=>exact RJ hE hS h
 |len x=>exact UL hE hS h
 |Ll n=>exact gJ.val hS h rfl rfl
 |box x=>exact UN hE hS h
 |alloc c=>exact Ps hS h
 |build z p=>exact Pr hE hS h
 |Az a b c d=>exact Pw hE hS h
 |CL a b=>exact Pz hE hS h
 |load a p=>exact RQ hE hS h
 |store a p x=>exact Pv hE hS h
 |I4 x=>exact RK hE hS h
 |I5 o x=>exact RM hE hS h
 |iD a o x=>exact UO hE hS h
 |I6 a x i=>exact RO hE hS h
 |CN n a x i=>exact Pu hE hS h
 |idx n a g x i=>exact UT hE hS h
 |I7 x i=>exact RP hE hS h
 |OG a x l h' m=>exact UU hE hS h
 |mks a z l c=>exact UW hE hS h
 |mkf f a b=>exact UQ hE hS h
 |mkm m=>exact UR hS h
 |lookup n z o m q=>exact L7 hE hS h
 |HA n m q x=>exact RS hE hS h
 |ext i x=>exact UP hE hS h
 |append a x b=>exact L8 hE hS h
 |copy a x b=>exact RW hE hS h
 |clear a z x=>exact Py hE hS h
 |mm m x xs=>exact ab8 hE hS h
 |call m f a=>cases h
 |wF x a=>cases h
 |bad=>cases h
mutual
theorem aiK {bx:Nat->Option (List SV)} {RX:Nat->Option (List PV)} (hS:cj s ps) (hb: ∀t l,bx t=ahi l-> ∃q,RX t=ahi q/\oA l=ahi q): ∀{v u:SV} {p:PV},R s v p->GU s bx v=ahi u-> ∃q,BN ps RX p=ahi q/\qS u=ahi q
 | .int k n,u,p,h,hx=>by injection hx with hx;subst hx;rw [show p=_ from h];exact ⟨_,rfl,rfl⟩
 | .bool b,u,p,h,hx=>by injection hx with hx;subst hx;rw [show p=_ from h];exact ⟨_,rfl,rfl⟩
 | .str x,u,p,h,hx=>by injection hx with hx;subst hx;rw [show p=_ from h];exact ⟨_,rfl,rfl⟩
 | .dz,u,p,h,hx=>by injection hx with hx;subst hx;rw [show p=_ from h];exact ⟨_,rfl,rfl⟩
 | .agg cs,u,p,h,hx=>by
  obtain ⟨q,rfl,h⟩:=h;simp only [GU] at hx;split at hx
  · rename_i l hl
    injection hx with hx;subst hx;obtain ⟨q',h1,h2⟩:=tI hS hb h hl;exact ⟨.agg q',by simp only [BN,h1];rfl,by simp only [qS,h2]⟩
  cases hx
 | .bS cs,u,p,h,hx=>by
  obtain ⟨q,rfl,h⟩:=h;simp only [GU] at hx;split at hx
  · rename_i l hl
    injection hx with hx;subst hx;obtain ⟨q',h1,h2⟩:=tI hS hb h hl;exact ⟨.bS q',by simp only [BN,h1];rfl,by simp only [qS,h2]⟩
  cases hx
 | .sl r l,u,p,h,hx=>by injection hx with hx;subst hx;rw [show p=_ from h];exact ⟨_,rfl,rfl⟩
 | .nil e c,u,p,h,hx=>by injection hx with hx;subst hx;rw [show p=_ from h];exact ⟨_,rfl,rfl⟩
 | .own t ex,u,p,h,hx=>by
  simp only [GU,bQ] at hx;split at hx
  · rename_i r l bM
    injection hx with hx;subst hx;obtain ⟨e,n,rfl,cJ⟩:=h;obtain ⟨rfl,rfl⟩:=cJ.inv bM;refine ⟨.sl (ahh r) ahl (l.map (RT.pv r)),?_,rfl⟩;simp only [BN,hS.arr bM,aaE];rw [aay (by simp)]
  cases hx
 | .pre t len cap ex,u,p,h,hx=>by
  simp only [GU,bQ] at hx;split at hx
  · rename_i r l bM
    injection hx with hx;subst hx;obtain ⟨e,rfl,cJ⟩:=h;have:=cJ.inv bM;subst this;refine ⟨.sl (ahh r) ahl ((l.take len).map (RT.pv r)),?_,rfl⟩;simp only [BN,hS.arr bM,aaE,aaw]
  cases hx
 | .part t off len cap ex,u,p,h,hx=>by
  simp only [GU,bQ] at hx;split at hx
  · rename_i r l bM
    injection hx with hx;subst hx;obtain ⟨e,rfl,cJ⟩:=h;have:=cJ.inv bM;subst this;refine ⟨.sl (ahh r) ahl (((l.drop off).take len).map (RT.pv r)),?_,rfl⟩;simp only [BN,hS.arr bM,aaw,abe]
  cases hx
 | .pa t r i a off,u,p,h,hx=>by
  simp only [GU,bQ] at hx;split at hx
  · rename_i q l bM
    injection hx with hx;subst hx;obtain ⟨rfl,cJ⟩:=h;obtain ⟨rfl,hg⟩:=cJ.inv bM;obtain ⟨m,rfl,hm⟩:=mZ hg;refine ⟨.bu (RT.pv r a) off,?_,by simp only [qS,RT.GX]⟩;have zR:(l.map (RT.pv r))[m]? =ahi (RT.pv r a):=by simp [hm]
    have e1:(aaX m).toNat=m:=rfl;simp only [BN,hS.arr bM,e1,zR];rfl
  cases hx
 | .bp t n off,u,p,h,hx=>by
  simp only [GU,bQ] at hx;split at hx
  · rename_i cs bM
    split at hx
    · rename_i l hl
      injection hx with hx;subst hx;rw [show p=_ from h];obtain ⟨q,h1,h2⟩:=hb t l hl;obtain ⟨c,h3,_⟩:=hS.box bM;refine ⟨.bu q off,?_,by simp only [qS,h2]⟩;simp only [BN,h3,aas,if_true,h1];rfl
    cases hx
  cases hx
 | .bu cs off,u,p,h,hx=>by
  obtain ⟨q,rfl,h⟩:=h;simp only [GU] at hx;split at hx
  · rename_i l hl
    injection hx with hx;subst hx;obtain ⟨q',h1,h2⟩:=tI hS hb h hl;exact ⟨.bu q' off,by simp only [BN,h1];rfl,by simp only [qS,h2]⟩
  cases hx
 | .eh f a b,u,p,h,hx=>by
  obtain ⟨pa,pb,rfl,h1,h2⟩:=h;simp only [GU] at hx;split at hx
  · rename_i x y' h3 h4
    injection hx with hx;subst hx;obtain ⟨qa,h5,h6⟩:=tI hS hb h1 h3;obtain ⟨qb,h7,h8⟩:=tI hS hb h2 h4;exact ⟨.eh f qa qb,by simp only [BN,h5,h7],by simp only [qS,h6,h8]⟩
  cases hx
 | .gP,_,_,_,hx| .undef,_,_,_,hx| .jl,_,_,_,hx| .pb _ _ _,_,_,_,hx| .mp _,_,_,_,hx=>by cases hx
theorem tI {bx:Nat->Option (List SV)} {RX:Nat->Option (List PV)} (hS:cj s ps) (hb: ∀t l,bx t=ahi l-> ∃q,RX t=ahi q/\oA l=ahi q): ∀{v u:List SV} {p:List PV},RL s v p->rN s bx v=ahi u-> ∃q,BH ps RX p=ahi q/\oA u=ahi q
 | [],u,p,h,hx=>by injection hx with hx;subst hx;rw [show p=_ from h];exact ⟨_,rfl,rfl⟩
 |x::xs,u,p,h,hx=>by
  obtain ⟨q,qs,rfl,h1,h2⟩:=h.cons_inv;simp only [rN] at hx;split at hx
  · rename_i y' ys h3 h4
    injection hx with hx;subst hx;obtain ⟨a,h5,h6⟩:=aiK hS hb h1 h3;obtain ⟨as,h7,h8⟩:=tI hS hb h2 h4;exact ⟨a::as,by simp only [BH,h5,h7],dV.2 ⟨a,as,rfl,h6,h8⟩⟩
  cases hx
end
theorem DP (hS:cj s ps): ∀(n t:Nat) (l:List SV),kv s n t=ahi l-> ∃q,wU ps n t=ahi q/\oA l=ahi q
 |0,t,l,h=>by cases h
 |n+1,t,l,h=>by
  simp only [kv,bQ] at h;split at h
  · rename_i cs bM
    obtain ⟨q,h1,h2⟩:=hS.box bM;obtain ⟨u,h3,h4⟩:=tI hS (DP hS n) h2 h;exact ⟨u,by simp only [wU,h1,h3],h4⟩
  cases h
mutual
theorem RY {bx RX:Nat->List Nat} (hb: ∀t,bx t=RX t): ∀{v:SV} {p:PV},R s v p->v.sure=ahk->LV bx v=ja RX p
 | .gP,_,_,h=>by cases h
 | .undef,p,h,_| .jl,p,h,_| .dz,p,h,_| .int _ _,p,h,_| .bool _,p,h,_| .str _,p,h,_| .sl _ _,p,h,_| .nil _ _,p,h,_=>by rw [show p=_ from h];rfl
 | .agg cs,p,h,hs=>by obtain ⟨q,rfl,h⟩:=h;exact Ac hb h hs
 | .bS cs,p,h,hs=>by obtain ⟨q,rfl,h⟩:=h;exact Ac hb h hs
 | .own t ex,p,h,_=>by obtain ⟨e,n,rfl,_⟩:=h;rfl
 | .pre t a b c,p,h,_=>by obtain ⟨e,rfl,_⟩:=h;rfl
 | .part t o a b c,p,h,_=>by obtain ⟨e,rfl,_⟩:=h;rfl
 | .pa t r i a o,p,h,_=>by obtain ⟨rfl,_⟩:=h;simp only [LV,ja,hb]
 | .pb t i o,p,h,_=>by obtain ⟨e,rfl,_⟩:=h;simp only [LV,ja,hb]
 | .bp t n o,p,h,_=>by rw [show p=_ from h];simp only [LV,ja,hb]
 | .bu cs o,p,h,hs=>by obtain ⟨q,rfl,h⟩:=h;exact Ac hb h hs
 | .mp t,p,h,_=>by rw [show p=_ from h];rfl
 | .eh f a b,p,h,hs=>by obtain ⟨pa,pb,rfl,h1,h2⟩:=h;simp only [SV.sure,ww] at hs;simp only [LV,ja,Ac hb h1 hs.1,Ac hb h2 hs.2]
theorem Ac {bx RX:Nat->List Nat} (hb: ∀t,bx t=RX t): ∀{v:List SV} {p:List PV},RL s v p->lY v=ahk->qP bx v=cW RX p
 | [],p,h,_=>by rw [show p=_ from h];rfl
 |x::xs,p,h,hs=>by obtain ⟨q,qs,rfl,h1,h2⟩:=h.cons_inv;simp only [lY,ww] at hs;simp only [qP,cW,RY hb h1 hs.1,Ac hb h2 hs.2]
end
end
end Go.Vm
/- The head of a loop: what the typed machine keeps there, the logical machine keeps there. -/
namespace Go.Vm
section
variable {s : List SB} {ps : bW}
mutual
theorem aiL {n:Nat} (hS:cj s ps) (hB: ∀t l,kv s n t=ahi l->wY s n t=cK ps n t): ∀{v u:SV} {p:PV},R s v p->GU s (kv s n) v=ahi u->LV (wY s n) v=ja (cK ps n) p
 | .int _ _,_,p,h,_| .bool _,_,p,h,_| .str _,_,p,h,_| .dz,_,p,h,_| .sl _ _,_,p,h,_| .nil _ _,_,p,h,_=>by rw [show p=_ from h];rfl
 | .agg cs,u,p,h,hx=>by
  obtain ⟨q,rfl,h⟩:=h;simp only [GU] at hx;split at hx
  · rename_i l hl;exact zm hS hB h hl
  cases hx
 | .bS cs,u,p,h,hx=>by
  obtain ⟨q,rfl,h⟩:=h;simp only [GU] at hx;split at hx
  · rename_i l hl;exact zm hS hB h hl
  cases hx
 | .own t ex,_,p,h,_=>by obtain ⟨e,n,rfl,_⟩:=h;rfl
 | .pre t a b c,_,p,h,_=>by obtain ⟨e,rfl,_⟩:=h;rfl
 | .part t o a b c,_,p,h,_=>by obtain ⟨e,rfl,_⟩:=h;rfl
 | .pa t r i a o,_,p,h,hx=>by
  obtain ⟨rfl,cJ⟩:=h;simp only [GU,bQ] at hx;split at hx
  · rename_i q l bM
    simp only [LV,ja];cases n with
    |zero=>rfl
    |succ n=>simp only [wY,cK,bQ,bM,hS.arr bM]
  cases hx
 | .bp t m o,u,p,h,hx=>by
  rw [show p=_ from h];simp only [GU,bQ] at hx;split at hx
  · split at hx
    · rename_i l hl
      simp only [LV,ja,hB t l hl]
    cases hx
  cases hx
 | .bu cs o,u,p,h,hx=>by
  obtain ⟨q,rfl,h⟩:=h;simp only [GU] at hx;split at hx
  · rename_i l hl;exact zm hS hB h hl
  cases hx
 | .eh f a b,u,p,h,hx=>by
  obtain ⟨pa,pb,rfl,h1,h2⟩:=h;simp only [GU] at hx;split at hx
  · rename_i x y h3 h4
    simp only [LV,ja,zm hS hB h1 h3,zm hS hB h2 h4]
  cases hx
 | .gP,_,_,_,hx| .undef,_,_,_,hx| .jl,_,_,_,hx| .pb _ _ _,_,_,_,hx| .mp _,_,_,_,hx=>by cases hx
theorem zm {n:Nat} (hS:cj s ps) (hB: ∀t l,kv s n t=ahi l->wY s n t=cK ps n t): ∀{v u:List SV} {p:List PV},RL s v p->rN s (kv s n) v=ahi u->qP (wY s n) v=cW (cK ps n) p
 | [],_,p,h,_=>by rw [show p=_ from h];rfl
 |x::xs,u,p,h,hx=>by
  obtain ⟨q,qs,rfl,h1,h2⟩:=h.cons_inv;simp only [rN] at hx;split at hx
  · rename_i a b h3 h4
    simp only [qP,cW,aiL hS hB h1 h3,zm hS hB h2 h4]
  cases hx
end
theorem RZ {n:Nat} (hS:cj s ps) (hB: ∀t l,kv s n t=ahi l->wY s n t=cK ps n t): ∀{v:List SV} {p:List PV},RL s v p->LU s (kv s n) v=ahk->qP (wY s n) v=cW (cK ps n) p
 | [],p,h,_=>by rw [show p=[] from h];rfl
 |x::xs,p,h,hx=>by
  obtain ⟨a,as,rfl,h1,h2⟩:=h.cons_inv;have other: ∀u,GU s (kv s n) x=ahi u->LU s (kv s n) xs=ahk->qP (wY s n) (x::xs)=cW (cK ps n) (a::as):=fun u h3 h4=>by simp only [qP,cW,aiL hS hB h1 h3,RZ hS hB h2 h4]
  unfold LU at hx;split at hx
  · rename_i t
    rw [show a= .mp t from h1];simp only [qP,cW,LV,ja,RZ hS hB h2 hx]
  split at hx
  · rename_i u h3
    exact other u h3 hx
  cases hx
theorem E2 (hS:cj s ps): ∀(n t:Nat) (l:List SV),kv s n t=ahi l->wY s n t=cK ps n t
 |0,t,l,h=>rfl
 |n+1,t,l,h=>by
  simp only [kv,bQ] at h;split at h
  · rename_i cs bM
    obtain ⟨q,h1,h2⟩:=hS.box bM;simp only [wY,cK,bQ,bM,h1];exact zm hS (E2 hS n) h2 h
  cases h
theorem Ie {b:SB} {q:jL} (h:RB s b q) (hs:yD b=ahk):EI b=qH q:=by
 cases b with
 |box cs=>obtain ⟨c,rfl,h⟩:=h;exact Ac (fun _=>rfl) h hs
 |arr r l=>rw [show q=_ from h];rfl
 |set l=>rw [show q=_ from h];rfl
 |bD p l=>rw [show q=_ from h];rfl
 |dead=>rw [show q=_ from h];rfl
theorem E3 (hS:cj s ps): ∀(n:Nat) (ts seen m:List Nat),Cb s n ts seen=ahi m->reach ps n ts seen=ahi m
 |n,[],seen,m,h=>by cases n<;>(simp only [Cb] at h;exact h)
 |0,_::_,_,_,h=>by cases h
 |n+1,t::ts,seen,m,h=>by
  simp only [Cb,bQ] at h;simp only [reach];cases hh:has seen t with
  |true=>rw [hh] at h;simp only [lw] at h;simp only [if_true];exact E3 hS n ts seen m h
  |false=>
   rw [hh] at h;simp only [pp] at h;simp only [aa2,if_false];split at h
   · rename_i b bM
     obtain ⟨q,h1,h2⟩:=hS.at_ t b bM;cases hb:yD b with
     |false=>rw [hb] at h;cases h
     |true=>rw [hb] at h;simp only [lw] at h;rw [h1,Ie h2 hb] at*;exact E3 hS n _ _ m h
   cases h
theorem E4: ∀{t u:Nat} {m:List Nat},idxOf t m=ahi u->m[u]? =ahi t
 |t,u,[],h=>by cases h
 |t,u,x::m,h=>by
  simp only [idxOf] at h;cases hb:UV x t with
  |true=>rw [hb] at h;simp at h;subst h;simp [v6 hb]
  |false=>rw [hb] at h;simp only [aa2,if_false,aat] at h;obtain ⟨v,hv,rfl⟩:=h;simpa using E4 hv
def E5 (m:List Nat) (s s':List SB):Prop:= ∀(t u:Nat) (b:SB),idxOf t m=ahi u->s[t]? =ahi b->match b with
 | .arr r l=>s'[u]? =ahi (.arr r l)
 | .dead=>s'[u]? =ahi .dead
 | .box _=> ∃cs,s'[u]? =ahi (.box cs)
 |_=>True
mutual
theorem R0 {m:List Nat} {s':List SB} (hr:E5 m s s'): ∀{v u:SV} {p:PV},R s v p->pQ m v=ahi u-> ∃q,ui m p=ahi q/\R s' u q
 | .gP,_,_,_,hx=>by cases hx
 | .undef,u,p,h,hx| .jl,u,p,h,hx| .dz,u,p,h,hx| .int _ _,u,p,h,hx| .bool _,u,p,h,hx| .str _,u,p,h,hx| .sl _ _,u,p,h,hx| .nil _ _,u,p,h,hx=>by injection hx with hx;subst hx;rw [show p=_ from h];exact ⟨_,rfl,rfl⟩
 | .agg cs,u,p,h,hx=>by
  obtain ⟨q,rfl,h⟩:=h;simp only [pQ] at hx;split at hx
  · rename_i l hl
    injection hx with hx;subst hx;obtain ⟨q',h1,h2⟩:=sY hr h hl;exact ⟨.agg q',by simp only [ui,h1];rfl,q',rfl,h2⟩
  cases hx
 | .bS cs,u,p,h,hx=>by
  obtain ⟨q,rfl,h⟩:=h;simp only [pQ] at hx;split at hx
  · rename_i l hl
    injection hx with hx;subst hx;obtain ⟨q',h1,h2⟩:=sY hr h hl;exact ⟨.bS q',by simp only [ui,h1];rfl,q',rfl,h2⟩
  cases hx
 | .own t ex,u,p,h,hx=>by
  obtain ⟨e,n,rfl,cJ⟩:=h;simp only [pQ] at hx;split at hx
  · rename_i v hv
    injection hx with hx;subst hx;refine ⟨.own v e 0 n n ex,by simp only [ui,hv];rfl,e,n,rfl,?_⟩;rcases cJ with ⟨r,l,h1,h2,h3⟩|h1
    · exact .inl ⟨r,l,hr t v _ hv h1,h2,h3⟩
    exact .inr (hr t v _ hv h1)
  cases hx
 | .pre t len cap ex,u,p,h,hx=>by
  obtain ⟨e,rfl,cJ⟩:=h;simp only [pQ] at hx;split at hx
  · rename_i v hv
    injection hx with hx;subst hx;refine ⟨.own v e 0 len cap ex,by simp only [ui,hv];rfl,e,rfl,?_⟩;rcases cJ with ⟨r,l,h1,h2⟩|h1|⟨cs,h1,h2⟩
    · exact .inl ⟨r,l,hr t v _ hv h1,h2⟩
    · exact .inr (.inl (hr t v _ hv h1))
    obtain ⟨c2,h3⟩:=hr t v _ hv h1
    exact .inr (.inr ⟨c2,h3,h2⟩)
  cases hx
 | .part t off len cap ex,u,p,h,hx=>by
  obtain ⟨e,rfl,cJ⟩:=h;simp only [pQ] at hx;split at hx
  · rename_i v hv
    injection hx with hx;subst hx;refine ⟨.own v e off len cap ex,by simp only [ui,hv];rfl,e,rfl,?_⟩;rcases cJ with ⟨r,l,h1,h2⟩|h1|⟨cs,h1,h2⟩
    · exact .inl ⟨r,l,hr t v _ hv h1,h2⟩
    · exact .inr (.inl (hr t v _ hv h1))
    obtain ⟨c2,h3⟩:=hr t v _ hv h1
    exact .inr (.inr ⟨c2,h3,h2⟩)
  cases hx
 | .pa t r i a off,u,p,h,hx=>by
  obtain ⟨rfl,cJ⟩:=h;simp only [pQ] at hx;split at hx
  · rename_i v hv
    injection hx with hx;subst hx;refine ⟨.ptr v (ahh r) i.toNat off,by simp only [ui,hv];rfl,ahh r,rfl,?_⟩;rcases cJ with ⟨l,h1,h2⟩|h1
    · exact .inl ⟨r,l,hr t v _ hv h1,by rw [h2];rfl⟩
    exact .inr (hr t v _ hv h1)
  cases hx
 | .pb t i off,u,p,h,hx=>by
  obtain ⟨e,rfl,cJ⟩:=h;simp only [pQ] at hx;split at hx
  · rename_i v hv
    injection hx with hx;subst hx;refine ⟨.ptr v e i.toNat off,by simp only [ui,hv];rfl,e,rfl,?_⟩;rcases cJ with ⟨r,l,h1,h2⟩|h1
    · exact .inl ⟨r,l,hr t v _ hv h1,h2⟩
    exact .inr (hr t v _ hv h1)
  cases hx
 | .bp t n off,u,p,h,hx=>by
  rw [show p=_ from h];simp only [pQ] at hx;split at hx
  · rename_i v hv
    injection hx with hx;subst hx;exact ⟨.ptr v n 0 off,by simp only [ui,hv];rfl,rfl⟩
  cases hx
 | .bu cs off,u,p,h,hx=>by
  obtain ⟨q,rfl,h⟩:=h;simp only [pQ] at hx;split at hx
  · rename_i l hl
    injection hx with hx;subst hx;obtain ⟨q',h1,h2⟩:=sY hr h hl;exact ⟨.bu q' off,by simp only [ui,h1];rfl,q',rfl,h2⟩
  cases hx
 | .mp t,u,p,h,hx=>by
  rw [show p=_ from h];simp only [pQ] at hx;split at hx
  · rename_i v hv
    injection hx with hx;subst hx;exact ⟨.mp v,by simp only [ui,hv];rfl,rfl⟩
  cases hx
 | .eh f a b,u,p,h,hx=>by
  obtain ⟨pa,pb,rfl,h1,h2⟩:=h;simp only [pQ] at hx;split at hx
  · rename_i x y h3 h4
    injection hx with hx;subst hx;obtain ⟨qa,h5,h6⟩:=sY hr h1 h3;obtain ⟨qb,h7,h8⟩:=sY hr h2 h4;exact ⟨.eh f qa qb,by simp only [ui,h5,h7],qa,qb,rfl,h6,h8⟩
  cases hx
theorem sY {m:List Nat} {s':List SB} (hr:E5 m s s'): ∀{v u:List SV} {p:List PV},RL s v p->sU m v=ahi u-> ∃q,yZ m p=ahi q/\RL s' u q
 | [],u,p,h,hx=>by injection hx with hx;subst hx;rw [show p=_ from h];exact ⟨_,rfl,rfl⟩
 |x::xs,u,p,h,hx=>by
  obtain ⟨q,qs,rfl,h1,h2⟩:=h.cons_inv;simp only [sU] at hx;split at hx
  · rename_i a b h3 h4
    injection hx with hx;subst hx;obtain ⟨a',h5,h6⟩:=R0 hr h1 h3;obtain ⟨b',h7,h8⟩:=sY hr h2 h4;exact ⟨a'::b',by simp only [yZ,h5,h7],RL.cons h6 h8⟩
  cases hx
end
theorem ab9 {m:List Nat} {s':List SB} (hr:E5 m s s') {b c:SB} {q:jL} (h:RB s b q) (hx:LX m b=ahi c): ∃q',nC m q=ahi q'/\RB s' c q':=by
 cases b with
 |box cs=>
  obtain ⟨p,rfl,h⟩:=h;simp only [LX] at hx;split at hx
  · rename_i l hl
    injection hx with hx;subst hx;obtain ⟨q',h1,h2⟩:=sY hr h hl;exact ⟨.box q',by simp only [nC,h1];rfl,q',rfl,h2⟩
  cases hx
 |arr r l=>injection hx with hx;subst hx;rw [show q=_ from h];exact ⟨_,rfl,rfl⟩
 |set l=>injection hx with hx;subst hx;rw [show q=_ from h];exact ⟨_,rfl,rfl⟩
 |bD p l=>injection hx with hx;subst hx;rw [show q=_ from h];exact ⟨_,rfl,rfl⟩
 |dead=>injection hx with hx;subst hx;rw [show q=_ from h];exact ⟨_,rfl,rfl⟩
theorem xO {m:List Nat}: ∀{ts:List Nat} {s1:List SB},Gs s m ts=ahi s1->ahh s1=ahh ts/\ ∀(j t:Nat),ts[j]? =ahi t-> ∃b c,s[t]? =ahi b/\LX m b=ahi c/\s1[j]? =ahi c
 | [],s1,h=>by injection h with h;subst h;exact ⟨rfl,fun j t h=>by simp at h⟩
 |t::ts,s1,h=>by
  simp only [Gs,bQ] at h;split at h
  · rename_i b hb
    split at h
    · rename_i c r hc hr
      injection h with h;subst h;obtain ⟨h1,h2⟩:=xO hr;refine ⟨by simp [h1],fun j u hj=>?_⟩;cases j with
      |zero=>simp at hj;subst hj;exact ⟨b,c,hb,hc,rfl⟩
      |succ j=>simpa using h2 j u (by simpa using hj)
    cases h
  cases h
theorem Ci (hS:cj s ps) {m:List Nat} {s':List SB} (hr:E5 m s s'): ∀{ts:List Nat} {s1:List SB},Gs s m ts=ahi s1-> ∃p1,xf ps m ts=ahi p1/\ahh p1=ahh s1/\ ∀(j:Nat) (b:SB),s1[j]? =ahi b-> ∃q,p1[j]? =ahi q/\RB s' b q
 | [],s1,h=>by injection h with h;subst h;exact ⟨[],rfl,rfl,fun j b h=>by simp at h⟩
 |t::ts,s1,h=>by
  simp only [Gs,bQ] at h;split at h
  · rename_i b hb
    split at h
    · rename_i c r hc hr'
      injection h with h;subst h;obtain ⟨q,h1,h2⟩:=hS.at_ t b hb;obtain ⟨q',h3,h4⟩:=ab9 hr h2 hc;obtain ⟨p1,h5,h6,h7⟩:=Ci hS hr hr';refine ⟨q'::p1,by simp only [xf,h1,h3,h5],by simp [h6],fun j x hj=>?_⟩;cases j with
      |zero=>simp at hj;subst hj;exact ⟨q',rfl,h4⟩
      |succ j=>simpa using h7 j x (by simpa using hj)
    cases h
  cases h
theorem E5.of {m:List Nat} {s1 l:List SB} (h:Gs s m m=ahi s1):E5 m s (s1++l):=fun t u b hu hb=>by
 have hm:=E4 hu;obtain ⟨h1,h2⟩:=xO h;obtain ⟨b',c,h3,h4,h5⟩:=h2 u t hm;rw [hb] at h3;injection h3 with h3;subst h3;have df:=(AC.1 h5).1;cases b with
 |arr r l'=>injection h4 with h4;subst h4;rw [Do df];exact h5
 |dead=>injection h4 with h4;subst h4;rw [Do df];exact h5
 |box cs=>
  simp only [LX] at h4;split at h4
  · injection h4 with h4;subst h4;exact ⟨_,by rw [Do df];exact h5⟩
  cases h4
 |_=>trivial
theorem uI: ∀(rk:List (Nat×List PT)) (n:Nat),(rowOf rk n).length=n
 | [],n=>by simp [rowOf]
 |(m,r)::q,n=>by
  simp only [rowOf];cases hc:(UV m n&&UV (ahh r) n) with
  |true=>simp only [ww] at hc;exact v6 hc.2
  |false=>exact uI q n
theorem Cj {rk:List (Nat×List PT)} {e:SE} {m:List Nat}: ∀{live:List (Nat×Option Nat)} {nx:Nat} {e1:SE} {s2:List SB},wO rk e m nx live=ahi (e1,s2)-> ∀(j:Nat) (b:SB),s2[j]? =ahi b-> ∃r,b= .arr r []
 | [],nx,e1,s2,h,j,b,hj=>by simp only [wO,If,aai] at h;rw [<- h.2] at hj;simp at hj
 |(t,k)::live,nx,e1,s2,h,j,b,hj=>by
  simp only [wO] at h;split at h
  · split at h
    · rename_i p hp
      simp only [If,aai] at h;obtain ⟨rfl,rfl⟩:=h;cases j with
      |zero=>simp at hj;exact ⟨_,hj.symm⟩
      |succ j=>exact Cj (e1:=p.1) (s2:=p.2) hp j b (by simpa using hj)
    cases h
  split at h
  · rename_i v' p hv hp
    simp only [If,aai] at h;obtain ⟨rfl,rfl⟩:=h;exact Cj (e1:=p.1) (s2:=p.2) hp j b hj
  cases h
mutual
theorem Ck {m:List Nat}: ∀{v u:SV},pQ m v=ahi u->u.sure=ahk
 | .gP,_,h=>by cases h
 | .undef,u,h| .jl,u,h| .dz,u,h| .int _ _,u,h| .bool _,u,h| .str _,u,h| .sl _ _,u,h| .nil _ _,u,h=>by injection h with h;subst h;rfl
 | .agg cs,u,h=>by
  simp only [pQ] at h;split at h
  · rename_i l hl;injection h with h;subst h;exact mM hl
  cases h
 | .bS cs,u,h=>by
  simp only [pQ] at h;split at h
  · rename_i l hl;injection h with h;subst h;exact mM hl
  cases h
 | .bu cs _,u,h=>by
  simp only [pQ] at h;split at h
  · rename_i l hl;injection h with h;subst h;exact mM hl
  cases h
 | .own _ _,u,h=>by simp only [pQ] at h;split at h<;>first|(injection h with h;subst h;rfl)|cases h
 | .pre _ _ _ _,u,h=>by simp only [pQ] at h;split at h<;>first|(injection h with h;subst h;rfl)|cases h
 | .part _ _ _ _ _,u,h=>by simp only [pQ] at h;split at h<;>first|(injection h with h;subst h;rfl)|cases h
 | .pa _ _ _ _ _,u,h=>by simp only [pQ] at h;split at h<;>first|(injection h with h;subst h;rfl)|cases h
 | .pb _ _ _,u,h=>by simp only [pQ] at h;split at h<;>first|(injection h with h;subst h;rfl)|cases h
 | .bp _ _ _,u,h=>by simp only [pQ] at h;split at h<;>first|(injection h with h;subst h;rfl)|cases h
 | .mp _,u,h=>by simp only [pQ] at h;split at h<;>first|(injection h with h;subst h;rfl)|cases h
 | .eh f a b,u,h=>by
  simp only [pQ] at h;split at h
  · rename_i x y h1 h2
    injection h with h;subst h;simp only [SV.sure,mM h1,mM h2,aar]
  cases h
theorem mM {m:List Nat}: ∀{v u:List SV},sU m v=ahi u->lY u=ahk
 | [],u,h=>by injection h with h;subst h;rfl
 |x::xs,u,h=>by
  simp only [sU] at h;split at h
  · rename_i a b h1 h2
    injection h with h;subst h;simp only [lY,Ck h1,mM h2,aar]
  cases h
end
theorem UY {s:List SB} {v:SV} {p:PV} (h:R s v p): ∀k:Option Nat,v.sure=ahk->R s (H6 k v) (Gy k p)
 |none,_=>h
 |some _,hs=>by
  cases v with
  |own t ex=>obtain ⟨e,n,rfl,h⟩:=h;exact ⟨e,n,rfl,h⟩
  |pre t l c ex=>obtain ⟨e,rfl,h⟩:=h;exact ⟨e,rfl,h⟩
  |part t o l c ex=>obtain ⟨e,rfl,h⟩:=h;exact ⟨e,rfl,h⟩
  |gP=>cases hs
  |undef|jl|dz|int _ _|bool _|str _|bp _ _ _|mp _|sl _ _|nil _ _=>rw [show p=_ from h];rfl
  |agg _|bS _|bu _ _=>obtain ⟨q,rfl,h⟩:=h;exact ⟨q,rfl,h⟩
  |eh _ _ _=>obtain ⟨q,q2,rfl,h⟩:=h;exact ⟨q,q2,rfl,h⟩
  |pa _ _ _ _ _=>obtain ⟨rfl,h⟩:=h;exact ⟨rfl,h⟩
  |pb _ _ _=>obtain ⟨q,rfl,h⟩:=h;exact ⟨q,rfl,h⟩
theorem L9 {v:SV} (h:v.sure=ahk) (k:Option Nat):(H6 k v).sure=ahk:=by unfold H6;split<;>first|rfl|exact h
theorem Ig {rk:List (Nat×List PT)} {e:SE} {pe:Env} (hE:dA s e pe) {m:List Nat} {s':List SB} (hr:E5 m s s'): ∀{live:List (Nat×Option Nat)} {nx:Nat} {e1:SE} {s2:List SB},wO rk e m nx live=ahi (e1,s2)->(∀(j:Nat) (b:SB),s2[j]? =ahi b->s'[nx+j]? =ahi b)->
 ∃p1 q2,qI pe m nx live=ahi (p1,q2)/\dA s' e1 p1/\ahh q2=ahh s2/\ ∀(j:Nat) (b:SB),s2[j]? =ahi b-> ∃q,q2[j]? =ahi q/\RB s' b q
 | [],nx,e1,s2,h,_=>by simp only [wO,If,aai] at h;obtain ⟨rfl,rfl⟩:=h;exact ⟨[],[],rfl,rfl,rfl,fun j b h=>by simp at h⟩
 |(t,k)::live,nx,e1,s2,h,hs=>by
  have tF:=hE.lk t;simp only [wO] at h;split at h
  · rename_i kk esz en hv
    split at h
    · rename_i p hp
      simp only [If,aai] at h;obtain ⟨rfl,rfl⟩:=h;rw [hv] at tF;obtain ⟨p1,q2,h1,h2,h3,h4⟩:=Ig (live:=live) (nx:=nx+1) (e1:=p.1) (s2:=p.2) hE hr hp (fun j b hj=>by have:=hs (j+1) b (by simpa using hj);rw [show nx+1+j=nx+(j+1) by omega];exact this);refine ⟨(t,.own nx esz 0 0 0 ahl)::p1,.arr esz []::q2,?_,⟨_,_,rfl,⟨esz,0,rfl,.inl ⟨rowOf rk esz,[],by simpa using hs 0 _ rfl,(uI rk esz).symm,rfl⟩⟩,h2⟩,by simp [h3],fun j b hj=>?_⟩
      · have aca:lk t pe= .sl en ahk []:=tF
        simp only [qI,aca,h1];rfl
      cases j with
      |zero=>simp at hj;subst hj;exact ⟨_,rfl,by show _=_;rw [uI];rfl⟩
      |succ j=>simpa using h4 j b (by simpa using hj)
    cases h
  rename_i dE
  split at h
  · rename_i v' p hv hp
    simp only [If,aai] at h;obtain ⟨rfl,rfl⟩:=h;obtain ⟨q',h5,h6⟩:=R0 hr tF hv;obtain ⟨p1,q2,h1,h2,h3,h4⟩:=Ig (live:=live) (e1:=p.1) (s2:=p.2) hE hr hp hs;refine ⟨(t,Gy _ q')::p1,q2,?_,⟨_,_,rfl,UY h6 _ (Ck hv),h2⟩,h3,h4⟩;simp only [qI];split
    · rename_i esz x hx
      exfalso;rw [hx] at tF;generalize CY t e=v0 at tF hv dE;cases v0 with
      |gP=>cases hv
      |nil e' c=>have aca:PV.sl x ahk []= .sl e' c []:=tF;injection aca with h1 h2;subst h2;exact dE _ _ rfl rfl
      |undef|jl|dz|int _ _|bool _|str _|bp _ _ _|mp _=>cases (show PV.sl x ahk []=_ from tF)
      |sl r l=>cases (show PV.sl x ahk []=_ from tF)
      |agg _|bS _|bu _ _=>obtain ⟨q,hq,_⟩:=tF;cases hq
      |eh _ _ _=>obtain ⟨q,q2,hq,_⟩:=tF;cases hq
      |own _ _=>obtain ⟨q,q2,hq,_⟩:=tF;cases hq
      |pre _ _ _ _=>obtain ⟨q,hq,_⟩:=tF;cases hq
      |part _ _ _ _ _=>obtain ⟨q,hq,_⟩:=tF;cases hq
      |pa _ _ _ _ _=>obtain ⟨hq,_⟩:=tF;cases hq
      |pb _ _ _=>obtain ⟨q,hq,_⟩:=tF;cases hq
    simp only [h5,h1]
  cases h
def aaY (s:List SB):Prop:= ∀(t:Nat) (cs:List SV),s[t]? =ahi (.box cs)->lY cs=ahk
def G1:SE->Prop
 | []=>True
 |(_,v)::r=>v.sure=ahk/\G1 r
theorem G1.lk: ∀{e:SE},G1 e-> ∀t,(CY t e).sure=ahk
 | [],_,t=>rfl
 |(u,v)::r,h,t=>by
  simp only [CY];cases hb:UV u t with
  |true=>exact h.1
  |false=>exact G1.lk h.2 t
theorem Ad {rk:List (Nat×List PT)} {e:SE} {m:List Nat}: ∀{live:List (Nat×Option Nat)} {nx:Nat} {e1:SE} {s2:List SB},wO rk e m nx live=ahi (e1,s2)->G1 e1
 | [],nx,e1,s2,h=>by simp only [wO,If,aai] at h;rw [<- h.1];trivial
 |(t,k)::live,nx,e1,s2,h=>by
  simp only [wO] at h;split at h
  · split at h
    · rename_i p hp
      simp only [If,aai] at h;obtain ⟨rfl,rfl⟩:=h;exact ⟨rfl,Ad (e1:=p.1) (s2:=p.2) hp⟩
    cases h
  split at h
  · rename_i v' p hv hp
    simp only [If,aai] at h;obtain ⟨rfl,rfl⟩:=h;exact ⟨L9 (Ck hv) _,Ad (e1:=p.1) (s2:=p.2) hp⟩
  cases h
theorem G2: ∀{l:List SV},lY l=ahk-> ∀{n:Nat} {v:SV},nth l n=ahi v->v.sure=ahk
 | [],_,_,_,h=>by cases h
 |x::xs,hs,0,v,h=>by injection h with h;subst h;simp only [lY,ww] at hs;exact hs.1
 |x::xs,hs,n+1,v,h=>by simp only [lY,ww] at hs;exact G2 hs.2 (n:=n) h
theorem G3: ∀{l:List SV},lY l=ahk-> ∀(n:Nat) {v:SV},v.sure=ahk->lY (l.set n v)=ahk
 | [],_,n,v,_=>rfl
 |x::xs,hs,0,v,h=>by simp only [lY,ww] at hs;simp [lY,h,hs.2]
 |x::xs,hs,n+1,v,h=>by simp only [lY,ww] at hs;simp [lY,hs.1,G3 hs.2 n h]
theorem RL.set {s:List SB}: ∀{xs:List SV} {ps:List PV},RL s xs ps-> ∀(n:Nat) {v:SV} {p:PV},R s v p->RL s (xs.set n v) (ps.set n p)
 | [],ps,h,n,v,p,_=>by rw [show ps=[] from h];exact RL.nil
 |x::xs,ps,h,0,v,p,hv=>by obtain ⟨a,q,rfl,h1,h2⟩:=h.cons_inv;exact RL.cons hv h2
 |x::xs,ps,h,n+1,v,p,hv=>by obtain ⟨a,q,rfl,h1,h2⟩:=h.cons_inv;exact RL.cons h1 (RL.set h2 n hv)
structure UZ (st:oF) (p:St):Prop where
 r:yF st p
 s:aaY st.aA
 e:G1 st.env
theorem L' {rk:List (Nat×List PT)} {st:oF} {p:St} (h:UZ st p) (t c esz:Nat):UZ (EJ rk st t c esz) (qJ p t c esz):=by
 unfold EJ qJ;rw [bQ];cases bM:st.aA[t]? with
 |none=>
  have:p.aA[t]? =ahj:=by rw [aba] at bM ⊢;rw [h.r.aA.len];exact bM
  rw [this];exact h
 |some b=>
  obtain ⟨q,h1,h2⟩:=h.r.aA.at_ t b bM;rw [h1];cases b with
  |arr r l=>rw [show q=_ from h2];exact h
  |set l=>rw [show q=_ from h2];exact h
  |bD p l=>rw [show q=_ from h2];exact h
  |dead=>rw [show q=_ from h2];exact h
  |box cs=>
   obtain ⟨pc,rfl,h3⟩:=h2;dsimp only;cases hc:nth cs c with
   |none=>
    have:pc[c]? =ahj:=by rw [bQ,aba] at hc;rw [aba,h3.mI];exact hc
    rw [this];exact h
   |some v=>
    obtain ⟨pv,h4,h5⟩:=h3.nth hc;rw [h4];have aiM:=G2 (h.s t cs bM) hc;have qC:=h.s t cs bM;have other:(∀e,pv≠ .sl e ahk [])->(∀e,v≠ .nil e ahk)->UZ (match ahi v with
     |some (.nil _ ahk)=>{st with aA:=st.aA.set t (.box (cs.set c (.own (ahh st.aA) ahl)))++[.arr (rowOf rk esz) []]}
     |_=>st) (match ahi pv with
     |some (.sl _ ahk [])=>{p with aA:=p.aA.set t (.box (pc.set c (.own (ahh p.aA) esz 0 0 0 ahl)))++[.arr esz []]}
     |_=>p):=by
     intro n1 n2;split
     · rename_i e he;injection he with he;exact absurd he (n2 e)
     split
     · rename_i e he;injection he with he;exact absurd he (n1 e)
     exact h
    cases v with
    |gP=>cases aiM
    |nil e' cl=>
     have h5':pv= .sl e' cl []:=h5;subst h5';cases cl with
     |false=>exact other (fun e he=>by cases he) (fun e he=>by cases he)
     |true=>
      dsimp only;have df:=(AC.1 bM).1;have qt:Fr [] st.aA (st.aA.set t (.box (cs.set c (.own (ahh st.aA) ahl)))++[.arr (rowOf rk esz) []]):=fun u x hu=>by
       by_cases Lk:t=u
       · subst Lk;rw [bM] at hu;injection hu with hu;subst hu;exact .inl ⟨_,by rw [Do (by simpa using df),NE];simp [df];rfl⟩
       have NL:=(AC.1 hu).1
       have:(st.aA.set t (.box (cs.set c (.own (ahh st.aA) ahl)))++[.arr (rowOf rk esz) []])[u]? =ahi x:=by rw [Do (by simpa using NL),NE];simp [Lk,hu]
       cases x with
       |arr r l=>exact .inl ⟨l,this,rfl,fun _=>rfl⟩
       |dead=>exact this
       |box c2=>exact .inl ⟨c2,this⟩
       |_=>trivial
      have bY:(st.aA.set t (.box (cs.set c (.own (ahh st.aA) ahl)))).length=(ahh st.aA):=by simp
      have acb:R (st.aA.set t (.box (cs.set c (.own (ahh st.aA) ahl)))++[.arr (rowOf rk esz) []]) (.own (ahh st.aA) ahl) (.own (ahh p.aA) esz 0 0 0 ahl):=by refine ⟨esz,0,by rw [h.r.aA.len],.inl ⟨rowOf rk esz,[],?_,(uI rk esz).symm,rfl⟩⟩;rw [EQ (by simp)];simp
      refine ⟨⟨dA.ext qt h.r.env,⟨by simp [h.r.aA.len],fun u x hu=>?_⟩,h.r.fz,h.r.kn⟩,fun u x hu=>?_,h.e⟩
      · rcases ab5 u (ahh st.aA) with NL|NL
        · rw [Do (by simpa using NL),NE] at hu
          by_cases Lk:t=u
          · subst Lk
            simp [df] at hu;subst hu;refine ⟨.box (pc.set c (.own (ahh p.aA) esz 0 0 0 ahl)),?_,_,rfl,RL.set (RL.ext qt h3) c acb⟩;rw [Do (by simp [h.r.aA.len,NL]),NE];simp [h.r.aA.len,NL]
          simp [Lk] at hu
          obtain ⟨q,h6,h7⟩:=h.r.aA.at_ u x hu;refine ⟨q,?_,h7.ext qt⟩;rw [Do (by simp [h.r.aA.len,NL]),NE];simp [Lk,h6]
        rw [EQ (by simpa using NL)] at hu
        simp only [bY] at hu;have Ui:u-(ahh st.aA)=0:=by
         rcases agm (u-(ahh st.aA)) with h|h
         · exact h
         rw [List.getElem?_eq_none (by simp;omega)] at hu;cases hu
        rw [Ui] at hu;simp at hu;subst hu;refine ⟨.arr esz [],?_,by show _=_;rw [uI];rfl⟩;rw [EQ (by simp [h.r.aA.len];omega)];simp [h.r.aA.len,Ui]
      rcases ab5 u (ahh st.aA) with NL|NL
      · rw [Do (by simpa using NL),NE] at hu
        by_cases Lk:t=u
        · subst Lk
          simp [df] at hu;subst hu;exact G3 qC c rfl
        simp [Lk] at hu;exact h.s u x hu
      rw [EQ (by simpa using NL)] at hu
      cases hj:u- (st.aA.set t (.box (cs.set c (.own (ahh st.aA) ahl)))).length with
      |zero=>rw [hj] at hu;simp at hu
      |succ j=>rw [hj] at hu;simp at hu
    |undef|jl|dz|int _ _|bool _|str _|bp _ _ _|mp _=>exact other (fun e he=>by rw [show pv=_ from h5] at he;cases he) (fun e he=>by cases he)
    |sl r l=>exact other (fun e he=>by rw [show pv=_ from h5] at he;cases he) (fun e he=>by cases he)
    |agg _|bS _|bu _ _=>exact other (fun e he=>by obtain ⟨q,hq,_⟩:=h5;rw [hq] at he;cases he) (fun e he=>by cases he)
    |eh _ _ _=>exact other (fun e he=>by obtain ⟨q,q2,hq,_⟩:=h5;rw [hq] at he;cases he) (fun e he=>by cases he)
    |own _ _=>exact other (fun e he=>by obtain ⟨q,q2,hq,_⟩:=h5;rw [hq] at he;cases he) (fun e he=>by cases he)
    |pre _ _ _ _|part _ _ _ _ _|pb _ _ _=>exact other (fun e he=>by obtain ⟨q,hq,_⟩:=h5;rw [hq] at he;cases he) (fun e he=>by cases he)
    |pa _ _ _ _ _=>exact other (fun e he=>by obtain ⟨hq,_⟩:=h5;rw [hq] at he;cases he) (fun e he=>by cases he)
theorem Ih {p:St} {t c esz:Nat} (h: ∀cs,p.aA[t]?≠ahi (.box cs)):qJ p t c esz=p:=by
 unfold qJ;split
 · rename_i cs qC;exact absurd qC (h cs)
 rfl
theorem R1 {st:oF} {p:St} (h:UZ st p) {v:SV} {q:PV} (hv:R st.aA v q) (hs:v≠ .gP):(∃t,Ru v=ahi t/\D4 q=ahi t)\/(Ru v=ahj/\ ∀t,D4 q=ahi t-> ∀cs,p.aA[t]?≠ahi (.box cs)):=by
 cases v with
 |gP=>exact absurd rfl hs
 |bp u m off=>
  have hq:q= .ptr u m 0 off:=hv;subst hq;cases off with
  |zero=>exact .inl ⟨u,rfl,rfl⟩
  |succ off=>exact .inr ⟨rfl,fun t ht=>by cases ht⟩
 |pb u i off=>
  obtain ⟨e',hq,cJ⟩:=hv;subst hq;refine .inr ⟨rfl,fun t ht cs qC=>?_⟩;have:t=u:=by
   unfold D4 at ht;split at ht
   · rename_i heq;injection heq with e1;injection ht with ht;rw [<- ht,e1]
   cases ht
  subst this;rcases cJ with ⟨r,l,h1,_⟩|h1
  · rw [h.r.aA.arr h1] at qC;cases qC
  obtain ⟨q,h2,h3⟩:=h.r.aA.at_ t _ h1
  rw [qC] at h2;injection h2 with h2;subst h2;cases (show jL.box cs= .dead from h3)
 |pa u r i a off=>
  obtain ⟨hq,cJ⟩:=hv;subst hq;refine .inr ⟨rfl,fun t ht cs qC=>?_⟩;have:t=u:=by
   unfold D4 at ht;split at ht
   · rename_i heq;injection heq with e1;injection ht with ht;rw [<- ht,e1]
   cases ht
  subst this;rcases cJ with ⟨l,h1,_⟩|h1
  · rw [h.r.aA.arr h1] at qC;cases qC
  obtain ⟨q,h2,h3⟩:=h.r.aA.at_ t _ h1
  rw [qC] at h2;injection h2 with h2;subst h2;cases (show jL.box cs= .dead from h3)
 |undef|jl|dz|int _ _|bool _|str _|mp _|sl _ _|nil _ _=>exact .inr ⟨rfl,fun t ht=>by rw [show q=_ from hv] at ht;cases ht⟩
 |agg _|bS _|bu _ _=>exact .inr ⟨rfl,fun t ht=>by obtain ⟨_,rfl,_⟩:=hv;cases ht⟩
 |eh _ _ _=>exact .inr ⟨rfl,fun t ht=>by obtain ⟨_,_,rfl,_⟩:=hv;cases ht⟩
 |own _ _=>exact .inr ⟨rfl,fun t ht=>by obtain ⟨_,_,rfl,_⟩:=hv;cases ht⟩
 |pre _ _ _ _|part _ _ _ _ _=>exact .inr ⟨rfl,fun t ht=>by obtain ⟨_,rfl,_⟩:=hv;cases ht⟩
theorem acd {st:oF} {p:St} (h:UZ st p) {v:SV} {q:PV} (hv:R st.aA v q) (hs:v.sure=ahk):(∃t,UB v=ahi t/\I8 q=ahi t)\/(UB v=ahj/\ ∀t,I8 q=ahi t-> ∀cs,p.aA[t]?≠ahi (.box cs)):=by
 have hj:v≠ .gP:=fun e=>by subst e;cases hs
 by_cases hc: ∃f a b,v= .eh f a b
 · obtain ⟨f,a,b,rfl⟩:=hc
   obtain ⟨pa,pb,rfl,h1,h2⟩:=hv;cases b with
   |nil=>have:pb=[]:=h2;subst this;exact .inr ⟨rfl,fun t ht=>by cases ht⟩
   |cons y ys=>obtain ⟨z,zs,rfl,g1,g2⟩:=h2;exact R1 h g1 (fun e=>by subst e;simp [SV.sure,lY] at hs)
 have e1:UB v=Ru v:=by
  cases v with
  |eh f a b=>exact absurd ⟨f,a,b,rfl⟩ hc
  |_=>rfl
 have e2:I8 q=D4 q:=by
  cases q with
  |eh f a b=>
   exfalso;cases v with
   |gP=>exact hj rfl
   |eh f a b=>exact hc ⟨f,a,b,rfl⟩
   |bp _ _ _|undef|jl|dz|int _ _|bool _|str _|mp _|sl _ _|nil _ _=>cases (show PV.eh f a b=_ from hv)
   |agg _|bS _|bu _ _|pre _ _ _ _|part _ _ _ _ _|pb _ _ _=>obtain ⟨_,hq,_⟩:=hv;cases hq
   |own _ _=>obtain ⟨_,_,hq,_⟩:=hv;cases hq
   |pa _ _ _ _ _=>obtain ⟨hq,_⟩:=hv;cases hq
  |_=>rfl
 rw [e1,e2];exact R1 h hv hj
theorem nb {rk:List (Nat×List PT)}: ∀(live:List (Nat×Option Nat)) {st:oF} {p:St},UZ st p->UZ (lK rk live st) (j9 live p)
 | [],st,p,h=>h
 |(t,k)::live,st,p,h=>by
  cases k with
  |none=>simp only [lK,j9];exact nb live h
  |some n=>
   simp only [lK,j9];cases hn:PP 1000 n with
   |false=>simp only [pp,aa2,if_false];exact nb live h
   |true=>
    simp only [lw,if_true];have tF:=h.r.env.lk t;have hsu:=h.e.lk t;rcases acd h tF hsu with ⟨u,e1,e2⟩|⟨e1,e2⟩
    · rw [e1,e2]
      exact nb live (L' h u _ _)
    rw [e1]
    cases hb:I8 (lk t p.env) with
    |none=>exact nb live h
    |some u=>show UZ (lK rk live st) (j9 live (qJ p u (n / 1000-1) (n%1000)));rw [Ih (e2 u hb)];exact nb live h
theorem J0 {e:SE} {pe:Env} (hE:dA s e pe): ∀{live:List (Nat×Option Nat)},AY e live=ahk->EK e live=live.flatMap fun p=>ja sC (lk p.1 pe)
 | [],_=>rfl
 |(t,k)::live,h=>by simp only [AY,ww] at h;simp only [EK,agP,J0 hE h.2];rw [RY (fun _=>rfl) (hE.lk t) h.1]
theorem R2: ∀{s':List SB} {s:List SB} {ps:bW} (n:Nat),(ahh ps=ahh s/\ ∀(t:Nat) (b:SB),s[t]? =ahi b-> ∃q,ps[t]? =ahi q/\RB s' b q)->EL s n=ahk->LY s n=(ps.take n).flatMap qH
 |s',[],ps,n,h,_=>by have:ps=[]:=abo.1 (by simpa using h.1);subst this;cases n<;>simp [LY]
 |s',b::s,ps,0,h,_=>by simp [LY]
 |s',b::s,ps,n+1,h,hk=>by
  cases ps with
  |nil=>have:=h.1;simp at this
  |cons q ps=>simp only [EL,ww] at hk;obtain ⟨q',h1,h2⟩:=h.2 0 b rfl;simp at h1;subst h1;simp only [LY,agb,agP,Ie h2 hk.1];rw [R2 (s':=s') (ps:=ps) n ⟨by simpa using h.1,fun t x hx=>by simpa using h.2 (t+1) x (by simpa using hx)⟩ hk.2]
theorem NM {s:List SB} {v:SV} {p:PV} (h:R s v p):R s (GV s v) p:=by
 unfold GV;split
 · rename_i t ex
   rw [bQ];split
   · rename_i r l bM
     obtain ⟨e,n,rfl,cJ⟩:=h;obtain ⟨rfl,rfl⟩:=cJ.inv bM;exact ⟨ahh r,rfl,.inl ⟨r,l,bM,rfl⟩⟩
   exact h
 exact h
theorem NN {s:List SB} (c:Nat): ∀{e:SE} {p:Env},dA s e p->dA s (NA s c e) p
 | [],_,h=>h
 |(t,v)::r,_,h=>by
  obtain ⟨q,qs,rfl,h1,h2⟩:=h;simp only [NA];cases hb:UV t c with
  |true=>exact ⟨q,qs,rfl,NM h1,h2⟩
  |false=>exact ⟨q,qs,rfl,h1,NN c h2⟩
theorem Cl: ∀(live:List (Nat×Option Nat)) {st:oF} {p:St},yF st p->yF (AX live st) p
 | [],st,p,h=>h
 |(t,k)::r,st,p,h=>by
  simp only [AX];cases hn:PP 1000000 t with
  |true=>exact Cl r ⟨NN _ h.env,h.aA,h.fz,h.kn⟩
  |false=>exact Cl r h
theorem J1 {rk:List (Nat×List PT)} {live:List (Nat×Option Nat)} {st st1:oF} {p:St} (h:yF st p) (hn:EM rk live st=ahi st1): ∃p1,D5 live p=ahi p1/\yF st1 p1:=by
 unfold EM at hn;cases hc:(AY st.env live&&EL st.aA st.kn) with
 |false=>rw [hc] at hn;cases hn
 |true=>
  rw [hc] at hn;simp only [lw] at hn;simp only [ww] at hc;split at hn
  · cases hn
  rename_i m hm
  split at hn
  · rename_i s1 e1 s2 h1 h2
    injection hn with hn;subst hn;have ht:LY st.aA st.kn++EK st.env live=(p.aA.take p.kn).flatMap qH++live.flatMap fun q=>ja sC (lk q.1 p.env):=by rw [J0 h.env hc.1,R2 (s':=st.aA) st.kn ⟨h.aA.len,h.aA.at_⟩ hc.2,h.kn]
    rw [ht] at hm;have zR:=E3 h.aA _ _ _ _ hm;have hr:E5 m st.aA (s1++s2):=E5.of h1;obtain ⟨p1,a1,a2,a3⟩:=Ci h.aA hr h1;have bY:(ahh s1)=(ahh m):=(xO h1).1;obtain ⟨pe1,q2,b1,b2,b3,b4⟩:=Ig h.env hr h2 (fun j b hj=>by rw [<- bY,EQ (by omega)];simpa using hj);have pO:cj (s1++s2) (p1++q2):=⟨by simp [a2,b3],fun t b ht=>by
     rcases ab5 t (ahh s1) with hl|hl
     · rw [Do hl] at ht
       obtain ⟨q,c1,c2⟩:=a3 t b ht;exact ⟨q,by rw [Do (by omega)];exact c1,c2⟩
     rw [EQ hl] at ht
     obtain ⟨q,c1,c2⟩:=b4 _ b ht;exact ⟨q,by rw [EQ (by omega),a2];exact c1,c2⟩⟩
    have hs:aaY (s1++s2):=fun t cs ht=>by
     rcases ab5 t (ahh s1) with hl|hl
     · rw [Do hl] at ht
       obtain ⟨b,c,d1,d2,d3⟩:=(xO h1).2 t (m[t]'(by omega)) (IR (by omega));rw [ht] at d3;injection d3 with d3;subst d3;cases b with
       |box x=>
        simp only [LX] at d2;split at d2
        · rename_i l kM;injection d2 with d2;injection d2 with d2;subst d2;exact mM kM
        cases d2
       |arr _ _=>injection d2 with d2;cases d2
       |set _=>injection d2 with d2;cases d2
       |bD _ _=>injection d2 with d2;cases d2
       |dead=>injection d2 with d2;cases d2
     rw [EQ hl] at ht
     obtain ⟨r,hr'⟩:=Cj h2 _ _ ht;cases hr'
    have hR:UZ {env:=e1,aA:=s1++s2,fz:=xg st.fz 0 m,kn:=st.kn} {env:=pe1,aA:=p1++q2,fz:=xg p.fz 0 m,kn:=p.kn}:=
     ⟨⟨b2,pO,by rw [h.fz],h.kn⟩,hs,Ad h2⟩
    refine ⟨_,?_,Cl live (nb live hR).r⟩;unfold D5;rw [h.kn] at zR;rw [h.kn];rw [zR];dsimp only;rw [a1,b1]
  cases hn
theorem NO {rk:List (Nat×List PT)} {live:List (Nat×Option Nat)} {st st1:oF} {p:St} (h:yF st p) (hn:EN rk live st=ahi st1): ∃p1,norm live p=ahi p1/\yF st1 p1:=by
 unfold EN at hn;cases h1:EM rk live st with
 |none=>rw [h1] at hn;cases hn
 |some s=>
  rw [h1] at hn;dsimp only at hn;obtain ⟨p1,h2,h3⟩:=J1 h h1;unfold norm;rw [h2];dsimp only;cases ha:(live.any fun p=>p.2.isSome) with
  |true=>rw [ha] at hn;simp only [lw] at hn;rw [rc rfl];exact J1 h3 hn
  |false=>rw [ha] at hn;injection hn with hn;subst hn;exact ⟨p1,by rw [ut (by simp)],h3⟩
mutual
theorem DQ: ∀{a b:SV} (q:List w9),wP a b=ahk->sH a (Cc b++q)=(b,q)
 | .undef,.undef,q,_=>rfl
 | .jl,.jl,q,_=>rfl
 | .dz,.dz,q,_=>rfl
 | .int k _,.int l n,q,h=>by rw [eH.1 h];rfl
 | .bool _,.bool _,q,_=>rfl
 | .agg a,.agg b,q,h=>by simp only [sH,Cc,nN q h]
 | .bS a,.bS b,q,h=>by simp only [sH,Cc,nN q h]
 | .sl r _,.sl r' l,q,h=>rfl
 | .nil e c,.nil f d,q,h=>by simp only [wP,ww,beq_iff_eq] at h;rw [v6 h.1,h.2];rfl
 | .own t x,.own u y,q,h=>by simp only [wP,ww,beq_iff_eq] at h;rw [v6 h.1,h.2];rfl
 | .pre t _ _ x,.pre u _ _ y,q,h=>by simp only [wP,ww,beq_iff_eq] at h;rw [v6 h.1,h.2];rfl
 | .part t _ _ _ x,.part u _ _ _ y,q,h=>by simp only [wP,ww,beq_iff_eq] at h;rw [v6 h.1,h.2];rfl
 | .pb t _ o,.pb u _ p,q,h=>by simp only [wP,ww] at h;rw [v6 h.1,v6 h.2];rfl
 | .bp t n o,.bp u m p,q,h=>by simp only [wP,ww] at h;rw [v6 h.1.1,v6 h.1.2,v6 h.2];rfl
 | .bu a o,.bu b p,q,h=>by simp only [wP,ww] at h;simp only [sH,Cc,nN q h.1,v6 h.2]
 | .eh f a b,.eh g c d,q,h=>by simp only [wP,ww] at h;simp only [sH,Cc,aal,nN _ h.1.2,nN q h.2,v6 h.1.1]
 | .mp t,.mp u,q,h=>by rw [v6 h];rfl
 | .gP,.gP,q,_=>rfl
theorem nN: ∀{a b:List SV} (q:List w9),xK a b=ahk->qR a (Cf b++q)=(b,q)
 | [],[],q,_=>rfl
 |x::xs,y::ys,q,h=>by simp only [xK,ww] at h;simp only [qR,Cf,aal,DQ _ h.1,nN q h.2]
 | [],_::_,_,h=>by cases h
 |_::_,[],_,h=>by cases h
end
theorem R3: ∀{a b:SB} (q:List w9),aaR a b=ahk->LZ a (Rv b++q)=(b,q)
 | .arr r _,.arr r' l,q,h=>rfl
 | .box a,.box b,q,h=>by simp only [LZ,Rv,nN q h]
 | .set _,.set _,q,_=>rfl
 | .bD p _,.bD p' l,q,h=>by obtain rfl:p=p':=PT.Nu h;rfl
 | .dead,.dead,q,_=>rfl
 | .arr _ _,.box _,_,h| .arr _ _,.set _,_,h| .arr _ _,.dead,_,h| .box _,.arr _ _,_,h| .box _,.set _,_,h| .box _,.dead,_,h| .set _,.arr _ _,_,h| .set _,.box _,_,h| .set _,.dead,_,h| .dead,.arr _ _,_,h| .dead,.box _,_,h| .dead,.set _,_,h
 | .bD _ _,.arr _ _,_,h| .bD _ _,.box _,_,h| .bD _ _,.set _,_,h| .bD _ _,.dead,_,h| .arr _ _,.bD _ _,_,h| .box _,.bD _ _,_,h| .set _,.bD _ _,_,h| .dead,.bD _ _,_,h=>by cases h
theorem Ba: ∀{a b:List SB} (q:List w9),EO a b=ahk->zY a (H7 b++q)=(b,q)
 | [],[],q,_=>rfl
 |x::xs,y::ys,q,h=>by simp only [EO,ww] at h;simp only [zY,H7,aal,R3 _ h.1,Ba q h.2]
 | [],_::_,_,h=>by cases h
 |_::_,[],_,h=>by cases h
theorem J2: ∀{a b:SE} (q:List w9),NB a b=ahk->JQ a (Pn b++q)=(b,q)
 | [],[],q,_=>rfl
 |(t,x)::xs,(u,y)::ys,q,h=>by simp only [NB,ww] at h;simp only [JQ,Pn,aal,DQ _ h.1.2,J2 q h.2,v6 h.1.1]
 | [],_::_,_,h=>by cases h
 |_::_,[],_,h=>by cases h
theorem J3: ∀{a b:List Nat},NC a b=ahk->a=b
 | [],[],_=>rfl
 |x::xs,y::ys,h=>by simp only [NC,ww] at h;rw [v6 h.1,J3 h.2]
 | [],_::_,h=>by cases h
 |_::_,[],h=>by cases h
theorem G4 {a b:oF} (h:zX a b=ahk):uG a (nM b)=b:=by obtain ⟨e1,s1,z1,k1⟩:=a;obtain ⟨e2,s2,z2,k2⟩:=b;simp only [zX,ww] at h;obtain ⟨⟨⟨h1,h2⟩,h3⟩,h4⟩:=h;have hs:=Ba [] h2;rw [aam] at hs;simp only [uG,nM,J2 _ h1,hs,J3 h3,v6 h4]
theorem AK.aaZ: ∀{a:AK} {x:w9} {y:a.T},a.of x=ahi y->a.at y=x
 | .i,.i _,y,h=>by injection h with h;subst h;rfl
 | .b,.b _,y,h=>by injection h with h;subst h;rfl
 | .n,.n _,y,h=>by injection h with h;subst h;rfl
 | .l r,.l q x,y,h=>by obtain ⟨rfl,rfl⟩:=oH h;rfl
 | .s,.s _,y,h=>by injection h with h;subst h;rfl
 | .i,.b _,_,h| .i,.n _,_,h| .i,.l _ _,_,h| .i,.s _,_,h| .b,.i _,_,h| .b,.n _,_,h| .b,.l _ _,_,h| .b,.s _,_,h| .n,.i _,_,h| .n,.b _,_,h| .n,.l _ _,_,h| .n,.s _,_,h
 | .l _,.i _,_,h| .l _,.b _,_,h| .l _,.n _,_,h| .l _,.s _,_,h| .s,.i _,_,h| .s,.b _,_,h| .s,.n _,_,h| .s,.l _ _,_,h=>by cases h
theorem oJ: ∀{ks:List AK} {l:List w9} {y:gT ks},lf ks l=ahi y->kQ ks y=l
 | [],[],y,_=>rfl
 | [a],[x],y,h=>by have:=AK.aaZ (a:=a) h;simp only [kQ,this]
 |a::q::r,x::xs,y,h=>by
  simp only [lf] at h;split at h
  · rename_i u v h1 h2
    injection h with h;subst h;simp only [kQ,AK.aaZ h1,oJ h2]
  cases h
 | [],_::_,_,h=>by cases h
 | [_],[],_,h=>by cases h
 | [_],_::_::_,_,h=>by cases h
 |_::_::_,[],_,h=>by cases h
end
end Go.Vm
/- What is known of functions, and what a call of one comes to. -/
namespace Go.Vm
mutual
def Dt:Nat->PV->Option (PV×bW)
 |_,.int k n=>ahi (.int k n,[])
 |_,.bool b=>ahi (.bool b,[])
 |nx,.agg cs=>match E6 nx cs with|some r=>ahi (.agg r.1,r.2)|none=>ahj
 |nx,.bS cs=>match E6 nx cs with|some r=>ahi (.bS r.1,r.2)|none=>ahj
 |nx,.sl e ahl rows=>ahi (.own nx e 0 (ahh rows) (ahh rows) ahl,[.arr e rows])
 |_,_=>ahj
def E6:Nat->List PV->Option (List PV×bW)
 |_,[]=>ahi ([],[])
 |nx,x::xs=>match Dt nx x with
  |some a=>match E6 (nx+ahh a.2) xs with
   |some b=>ahi (a.1::b.1,a.2++b.2)
   |none=>ahj
  |none=>ahj
end
def vC (s:List SB) (n:Nat) (l:List SB):Prop:= ∀(j:Nat) (b:SB),l[j]? =ahi b->s[n+j]? =ahi b
theorem vC.left {s:List SB} {n:Nat} {l m:List SB} (h:vC s n (l++m)):vC s n l:=fun j b hj=>h j b (by rw [Do (AC.1 hj).1];exact hj)
theorem vC.right {s:List SB} {n:Nat} {l m:List SB} (h:vC s n (l++m)):vC s (n+ahh l) m:=fun j b hj=>by
 have:=h (ahh l+j) b (by rw [EQ (by omega)];simpa using hj)
 rwa [Nat.add_assoc]
def Ma (s:List SB) (l:List SB) (q:bW):Prop:=ahh q=ahh l/\ ∀(j:Nat) (b:SB),l[j]? =ahi b-> ∃x,q[j]? =ahi x/\RB s b x
theorem Ma.append {s l m:List SB} {q r:bW} (h:Ma s l q) (k:Ma s m r):Ma s (l++m) (q++r):=by
 refine ⟨by simp [h.1,k.1],fun j b hj=>?_⟩;rcases ab5 j (ahh l) with hl|hl
 · rw [Do hl] at hj
   obtain ⟨x,h1,h2⟩:=h.2 j b hj;exact ⟨x,by rw [Do (by rw [h.1];exact hl)];exact h1,h2⟩
 rw [EQ hl] at hj
 obtain ⟨x,h1,h2⟩:=k.2 _ b hj;exact ⟨x,by rw [EQ (by rw [h.1];exact hl),h.1];exact h1,h2⟩
theorem Ma.nil {s:List SB}:Ma s [] []:=⟨rfl,fun j b h=>by simp at h⟩
theorem Ma.one {s:List SB} {b:SB} {x:jL} (h:RB s b x):Ma s [b] [x]:=⟨rfl,fun j c hc=>by
 cases j with
 |zero=>simp at hc;subst hc;exact ⟨x,rfl,h⟩
 |succ j=>simp at hc⟩
mutual
theorem NP: ∀{v:SV} {nx:Nat} {p0 p:PV} {q:bW},qS v=ahi p0->Dt nx p0=ahi (p,q)-> ∀{s:List SB},vC s nx (xJ nx v).2->R s (xJ nx v).1 p/\Ma s (xJ nx v).2 q
 | .int k n,nx,p0,p,q,h0,h,s,_=>by injection h0 with h0;subst h0;injection h with h;injection h with h1 h2;subst h1 h2;exact ⟨rfl,Ma.nil⟩
 | .bool b,nx,p0,p,q,h0,h,s,_=>by injection h0 with h0;subst h0;injection h with h;injection h with h1 h2;subst h1 h2;exact ⟨rfl,Ma.nil⟩
 | .agg cs,nx,p0,p,q,h0,h,s,hb=>by
  simp only [qS] at h0;split at h0
  · rename_i l hl
    injection h0 with h0;subst h0;simp only [Dt] at h;split at h
    · rename_i r hr
      injection h with h;injection h with h1 h2;subst h1 h2;obtain ⟨h3,h4⟩:=E7 (p:=r.1) (q:=r.2) hl hr hb;exact ⟨⟨r.1,rfl,h3⟩,h4⟩
    cases h
  cases h0
 | .bS cs,nx,p0,p,q,h0,h,s,hb=>by
  simp only [qS] at h0;split at h0
  · rename_i l hl
    injection h0 with h0;subst h0;simp only [Dt] at h;split at h
    · rename_i r hr
      injection h with h;injection h with h1 h2;subst h1 h2;obtain ⟨h3,h4⟩:=E7 (p:=r.1) (q:=r.2) hl hr hb;exact ⟨⟨r.1,rfl,h3⟩,h4⟩
    cases h
  cases h0
 | .sl r l,nx,p0,p,q,h0,h,s,hb=>by injection h0 with h0;subst h0;injection h with h;injection h with h1 h2;subst h1 h2;refine ⟨⟨ahh r,ahh l,by simp,.inl ⟨r,l,hb 0 _ rfl,rfl,rfl⟩⟩,Ma.one rfl⟩
 | .nil e c,nx,p0,p,q,h0,h,s,hb=>by
  injection h0 with h0;subst h0;cases c with
  |true=>simp [Dt] at h
  |false=>injection h with h;injection h with h1 h2;subst h1 h2;exact ⟨⟨e,0,rfl,.inl ⟨_,[],hb 0 _ rfl,by simp,rfl⟩⟩,Ma.one (by show _=_;simp)⟩
 | .str _,nx,p0,p,q,h0,h,s,_=>by injection h0 with h0;subst h0;cases h
 | .dz,nx,p0,p,q,h0,h,s,_=>by injection h0 with h0;subst h0;cases h
 | .bu cs o,nx,p0,p,q,h0,h,s,_=>by
  simp only [qS] at h0;split at h0
  · injection h0 with h0;subst h0;cases h
  cases h0
 | .eh f a b,nx,p0,p,q,h0,h,s,_=>by
  simp only [qS] at h0;split at h0
  · injection h0 with h0;subst h0;cases h
  cases h0
 | .gP,_,_,_,_,h0,_,_,_| .undef,_,_,_,_,h0,_,_,_| .jl,_,_,_,_,h0,_,_,_| .own _ _,_,_,_,_,h0,_,_,_| .pre _ _ _ _,_,_,_,_,h0,_,_,_| .part _ _ _ _ _,_,_,_,_,h0,_,_,_
 | .pa _ _ _ _ _,_,_,_,_,h0,_,_,_| .pb _ _ _,_,_,_,_,h0,_,_,_| .bp _ _ _,_,_,_,_,h0,_,_,_| .mp _,_,_,_,_,h0,_,_,_=>by cases h0
theorem E7: ∀{v:List SV} {nx:Nat} {p0 p:List PV} {q:bW},oA v=ahi p0->E6 nx p0=ahi (p,q)-> ∀{s:List SB},vC s nx (tH nx v).2->RL s (tH nx v).1 p/\Ma s (tH nx v).2 q
 | [],nx,p0,p,q,h0,h,s,_=>by injection h0 with h0;subst h0;injection h with h;injection h with h1 h2;subst h1 h2;exact ⟨rfl,Ma.nil⟩
 |x::xs,nx,p0,p,q,h0,h,s,hb=>by
  obtain ⟨a,as,rfl,h1,h2⟩:=dV.1 h0;simp only [E6] at h;split at h
  · rename_i ra hra
    split at h
    · rename_i rb hrb
      injection h with h;injection h with e1 e2;subst e1 e2;simp only [tH] at hb ⊢;obtain ⟨k1,k2⟩:=NP (p:=ra.1) (q:=ra.2) h1 hra hb.left;rw [k2.1] at hrb;obtain ⟨k3,k4⟩:=E7 (p:=rb.1) (q:=rb.2) h2 hrb hb.right;exact ⟨RL.cons k1 k3,k2.append k4⟩
    cases h
  cases h
end
mutual
theorem R4 {s:List SB} {ps:bW} {z:List Nat} (hS:cj s ps): ∀{v v':SV} {p:PV} {seen seen':List Nat} (nx:Nat),R s v p->Pm s z seen v=ahi (v',seen')-> ∃p0 p' q,qS v'=ahi p0/\Dt nx p0=ahi (p',q)/\yY ps z nx seen p=ahi (p',q,seen')
 | .int k n,v',p,seen,seen',nx,h,hx=>by injection hx with hx;injection hx with h1 h2;subst h1 h2;rw [show p=_ from h];exact ⟨_,_,_,rfl,rfl,rfl⟩
 | .bool k,v',p,seen,seen',nx,h,hx=>by injection hx with hx;injection hx with h1 h2;subst h1 h2;rw [show p=_ from h];exact ⟨_,_,_,rfl,rfl,rfl⟩
 | .agg cs,v',p,seen,seen',nx,h,hx=>by
  obtain ⟨q,rfl,h⟩:=h;simp only [Pm] at hx;split at hx
  · rename_i r hr
    injection hx with hx;injection hx with h1 h2;subst h1 h2;obtain ⟨p0,p',q',h3,h4,h5⟩:=Ii hS (v':=r.1) (seen':=r.2) nx h hr;exact ⟨.agg p0,.agg p',q',by simp only [qS,h3],by simp only [Dt,h4],by simp only [yY,h5];rfl⟩
  cases hx
 | .bS cs,v',p,seen,seen',nx,h,hx=>by
  obtain ⟨q,rfl,h⟩:=h;simp only [Pm] at hx;split at hx
  · rename_i r hr
    injection hx with hx;injection hx with h1 h2;subst h1 h2;obtain ⟨p0,p',q',h3,h4,h5⟩:=Ii hS (v':=r.1) (seen':=r.2) nx h hr;exact ⟨.bS p0,.bS p',q',by simp only [qS,h3],by simp only [Dt,h4],by simp only [yY,h5];rfl⟩
  cases hx
 | .nil e c,v',p,seen,seen',nx,h,hx=>by
  cases c with
  |false=>cases hx
  |true=>injection hx with hx;injection hx with h1 h2;subst h1 h2;rw [show p=_ from h];exact ⟨_,_,_,rfl,rfl,rfl⟩
 | .own t ex,v',p,seen,seen',nx,h,hx=>by
  obtain ⟨e,n,rfl,cJ⟩:=h;simp only [Pm,bQ] at hx;split at hx
  · rename_i r l bM
    obtain ⟨rfl,rfl⟩:=cJ.inv bM;cases hc:(has seen t||has z t) with
    |true=>rw [hc] at hx;cases hx
    |false=>rw [hc] at hx;injection hx with hx;injection hx with h1 h2;subst h1 h2;refine ⟨_,_,_,rfl,rfl,?_⟩;simp only [yY,hS.arr bM,hc];simp
  cases hx
 | .gP,_,_,_,_,_,_,hx| .undef,_,_,_,_,_,_,hx| .jl,_,_,_,_,_,_,hx| .dz,_,_,_,_,_,_,hx| .str _,_,_,_,_,_,_,hx| .sl _ _,_,_,_,_,_,_,hx| .pre _ _ _ _,_,_,_,_,_,_,hx| .part _ _ _ _ _,_,_,_,_,_,_,hx
 | .pa _ _ _ _ _,_,_,_,_,_,_,hx| .pb _ _ _,_,_,_,_,_,_,hx| .bp _ _ _,_,_,_,_,_,_,hx| .bu _ _,_,_,_,_,_,_,hx| .eh _ _ _,_,_,_,_,_,_,hx| .mp _,_,_,_,_,_,_,hx=>by cases hx
theorem Ii {s:List SB} {ps:bW} {z:List Nat} (hS:cj s ps): ∀{v v':List SV} {p:List PV} {seen seen':List Nat} (nx:Nat),RL s v p->JP s z seen v=ahi (v',seen')-> ∃p0 p' q,oA v'=ahi p0/\E6 nx p0=ahi (p',q)/\HB ps z nx seen p=ahi (p',q,seen')
 | [],v',p,seen,seen',nx,h,hx=>by injection hx with hx;injection hx with h1 h2;subst h1 h2;rw [show p=_ from h];exact ⟨_,_,_,rfl,rfl,rfl⟩
 |x::xs,v',p,seen,seen',nx,h,hx=>by
  obtain ⟨a,as,rfl,h1,h2⟩:=h.cons_inv;simp only [JP] at hx;split at hx
  · rename_i r hr
    split at hx
    · rename_i r2 Jz
      injection hx with hx;injection hx with e1 e2;subst e1 e2;obtain ⟨p0,p',q,k1,k2,k3⟩:=R4 hS (v':=r.1) (seen':=r.2) nx h1 hr;obtain ⟨p02,p'2,q2,k4,k5,k6⟩:=Ii hS (v':=r2.1) (seen':=r2.2) (nx+ahh q) h2 Jz;exact ⟨p0::p02,p'::p'2,q++q2,dV.2 ⟨_,_,rfl,k1,k4⟩,by simp only [E6,k2,k5],by simp only [HB,k3,k6]⟩
    cases hx
  cases hx
end
mutual
theorem J4 {s:List SB}: ∀{v:SV} {p:PV},R s v p->zW v=ahk->p.jt=ahk
 | .int _ _,p,h,_| .bool _,p,h,_| .str _,p,h,_=>by rw [show p=_ from h];rfl
 | .agg cs,p,h,hn=>by obtain ⟨q,rfl,h⟩:=h;exact Cm h hn
 | .bS cs,p,h,hn=>by obtain ⟨q,rfl,h⟩:=h;exact Cm h hn
 | .gP,_,_,h| .undef,_,_,h| .jl,_,_,h| .dz,_,_,h| .sl _ _,_,_,h| .nil _ _,_,_,h| .own _ _,_,_,h| .pre _ _ _ _,_,_,h| .part _ _ _ _ _,_,_,h| .pa _ _ _ _ _,_,_,h| .pb _ _ _,_,_,h| .bp _ _ _,_,_,h| .bu _ _,_,_,h| .eh _ _ _,_,_,h| .mp _,_,_,h=>by cases h
theorem Cm {s:List SB}: ∀{v:List SV} {p:List PV},RL s v p->qQ v=ahk->rH p=ahk
 | [],p,h,_=>by rw [show p=_ from h];rfl
 |x::xs,p,h,hn=>by obtain ⟨a,as,rfl,h1,h2⟩:=h.cons_inv;simp only [qQ,ww] at hn;simp only [rH,J4 h1 hn.1,Cm h2 hn.2,aar]
end
mutual
theorem G5 {s:List SB} {u:SV}: ∀{v:SV} {p:PV},R s v p->zW v=ahl->Rt s v=ahi u->p.jt=ahl
 | .int _ _,p,h,hn,_| .bool _,p,h,hn,_| .str _,p,h,hn,_=>by cases hn
 | .agg cs,p,h,hn,hi=>by
  obtain ⟨q,rfl,h⟩:=h;simp only [Rt] at hi;split at hi
  · rename_i l hl;exact Ae h hn hl
  cases hi
 | .bS cs,p,h,hn,hi=>by
  obtain ⟨q,rfl,h⟩:=h;simp only [Rt] at hi;split at hi
  · rename_i l hl;exact Ae h hn hl
  cases hi
 | .sl _ _,p,h,_,_=>by rw [show p=_ from h];rfl
 | .nil _ _,p,h,_,_=>by rw [show p=_ from h];rfl
 | .own _ _,p,h,_,_=>by obtain ⟨e,n,rfl,_⟩:=h;rfl
 | .pre _ _ _ _,p,h,_,_=>by obtain ⟨e,rfl,_⟩:=h;rfl
 | .part _ _ _ _ _,p,h,_,_=>by obtain ⟨e,rfl,_⟩:=h;rfl
 | .gP,_,_,_,h| .undef,_,_,_,h| .jl,_,_,_,h| .dz,_,_,_,h| .pa _ _ _ _ _,_,_,_,h| .pb _ _ _,_,_,_,h| .bp _ _ _,_,_,_,h| .bu _ _,_,_,_,h| .eh _ _ _,_,_,_,h| .mp _,_,_,_,h=>by cases h
theorem Ae {s:List SB}: ∀{v u:List SV} {p:List PV},RL s v p->qQ v=ahl->LW s v=ahi u->rH p=ahl
 | [],u,p,h,hn,_=>by cases hn
 |x::xs,u,p,h,hn,hi=>by
  obtain ⟨a,as,rfl,h1,h2⟩:=h.cons_inv;simp only [LW] at hi;split at hi
  · rename_i y ys h3 h4
    simp only [qQ] at hn;simp only [rH];cases hx:zW x with
    |false=>rw [G5 h1 hx h3];rfl
    |true=>rw [hx] at hn;rw [Ae h2 (by simpa using hn) h4];simp
  cases hi
end
mutual
theorem aa0 {s:List SB} {ps:bW} (hS:cj s ps): ∀{v u:SV} {p:PV},R s v p->Rt s v=ahi u-> ∃q,w5 ps p=ahi q/\qS u=ahi q
 | .int k n,u,p,h,hx=>by injection hx with hx;subst hx;rw [show p=_ from h];exact ⟨_,rfl,rfl⟩
 | .bool b,u,p,h,hx=>by injection hx with hx;subst hx;rw [show p=_ from h];exact ⟨_,rfl,rfl⟩
 | .str x,u,p,h,hx=>by injection hx with hx;subst hx;rw [show p=_ from h];exact ⟨_,rfl,rfl⟩
 | .agg cs,u,p,h,hx=>by
  obtain ⟨q,rfl,h⟩:=h;simp only [Rt] at hx;split at hx
  · rename_i l hl
    injection hx with hx;subst hx;obtain ⟨q',h1,h2⟩:=Mb hS h hl;exact ⟨.agg q',by simp only [w5,h1];rfl,by simp only [qS,h2]⟩
  cases hx
 | .bS cs,u,p,h,hx=>by
  obtain ⟨q,rfl,h⟩:=h;simp only [Rt] at hx;split at hx
  · rename_i l hl
    injection hx with hx;subst hx;obtain ⟨q',h1,h2⟩:=Mb hS h hl;exact ⟨.bS q',by simp only [w5,h1];rfl,by simp only [qS,h2]⟩
  cases hx
 | .sl r l,u,p,h,hx=>by injection hx with hx;subst hx;rw [show p=_ from h];exact ⟨_,rfl,rfl⟩
 | .nil e c,u,p,h,hx=>by injection hx with hx;subst hx;rw [show p=_ from h];exact ⟨_,rfl,rfl⟩
 | .own t ex,u,p,h,hx=>by
  simp only [Rt,bQ] at hx;split at hx
  · rename_i r l bM
    injection hx with hx;subst hx;obtain ⟨e,n,rfl,cJ⟩:=h;obtain ⟨rfl,rfl⟩:=cJ.inv bM;refine ⟨.sl (ahh r) ahl (l.map (RT.pv r)),?_,rfl⟩;simp only [w5,hS.arr bM,aaE];rw [aay (by simp)]
  cases hx
 | .pre t len cap ex,u,p,h,hx=>by
  simp only [Rt,bQ] at hx;split at hx
  · rename_i r l bM
    injection hx with hx;subst hx;obtain ⟨e,rfl,cJ⟩:=h;have:=cJ.inv bM;subst this;refine ⟨.sl (ahh r) ahl ((l.take len).map (RT.pv r)),?_,rfl⟩;simp only [w5,hS.arr bM,aaE,aaw]
  cases hx
 | .part t off len cap ex,u,p,h,hx=>by
  simp only [Rt,bQ] at hx;split at hx
  · rename_i r l bM
    injection hx with hx;subst hx;obtain ⟨e,rfl,cJ⟩:=h;have:=cJ.inv bM;subst this;refine ⟨.sl (ahh r) ahl (((l.drop off).take len).map (RT.pv r)),?_,rfl⟩;simp only [w5,hS.arr bM,aaw,abe]
  cases hx
 | .gP,_,_,_,hx| .undef,_,_,_,hx| .jl,_,_,_,hx| .dz,_,_,_,hx| .pa _ _ _ _ _,_,_,_,hx| .pb _ _ _,_,_,_,hx| .bp _ _ _,_,_,_,hx| .bu _ _,_,_,_,hx| .eh _ _ _,_,_,_,hx| .mp _,_,_,_,hx=>by cases hx
theorem Mb {s:List SB} {ps:bW} (hS:cj s ps): ∀{v u:List SV} {p:List PV},RL s v p->LW s v=ahi u-> ∃q,D3 ps p=ahi q/\oA u=ahi q
 | [],u,p,h,hx=>by injection hx with hx;subst hx;rw [show p=_ from h];exact ⟨_,rfl,rfl⟩
 |x::xs,u,p,h,hx=>by
  obtain ⟨a,as,rfl,h1,h2⟩:=h.cons_inv;simp only [LW] at hx;split at hx
  · rename_i y ys h3 h4
    injection hx with hx;subst hx;obtain ⟨q,h5,h6⟩:=aa0 hS h1 h3;obtain ⟨qs,h7,h8⟩:=Mb hS h2 h4;exact ⟨q::qs,by simp only [D3,h5,h7],dV.2 ⟨_,_,rfl,h6,h8⟩⟩
  cases hx
end
mutual
theorem R5 {s:List SB}: ∀{v:SV} {p:PV},qS v=ahi p->R s v p
 | .int _ _,p,h| .bool _,p,h| .str _,p,h| .dz,p,h| .sl _ _,p,h| .nil _ _,p,h=>by injection h with h;exact h.symm
 | .agg cs,p,h=>by
  simp only [qS] at h;split at h
  · rename_i l hl;injection h with h;exact ⟨l,h.symm,E8 hl⟩
  cases h
 | .bS cs,p,h=>by
  simp only [qS] at h;split at h
  · rename_i l hl;injection h with h;exact ⟨l,h.symm,E8 hl⟩
  cases h
 | .bu cs o,p,h=>by
  simp only [qS] at h;split at h
  · rename_i l hl;injection h with h;exact ⟨l,h.symm,E8 hl⟩
  cases h
 | .eh f a b,p,h=>by
  simp only [qS] at h;split at h
  · rename_i x y h1 h2;injection h with h;exact ⟨x,y,h.symm,E8 h1,E8 h2⟩
  cases h
 | .gP,_,h| .undef,_,h| .jl,_,h| .own _ _,_,h| .pre _ _ _ _,_,h| .part _ _ _ _ _,_,h| .pa _ _ _ _ _,_,h| .pb _ _ _,_,h| .bp _ _ _,_,h| .mp _,_,h=>by cases h
theorem E8 {s:List SB}: ∀{v:List SV} {p:List PV},oA v=ahi p->RL s v p
 | [],p,h=>by injection h with h;exact h.symm
 |x::xs,p,h=>by obtain ⟨a,as,rfl,h1,h2⟩:=dV.1 h;exact RL.cons (R5 h1) (E8 h2)
end
def aa1 (kd:Kd) (n:Nat) (tk:List Nat) (v:SV) (r:nB):Prop:=
 match kd with
 | .pure=> ∃p,qS v=ahi p/\r={v:=p,rd:=tk}
 | .uj=> ∃p,qS v=ahi p/\r={v:=p,rd:=tk,fr:=tk}
 | .own=> ∃p0 p q,qS v=ahi p0/\Dt n p0=ahi (p,q)/\r={v:=p,news:=q,rd:=tk}
def cQ (F : kH) (f : FuncId) (c : ru) : Prop :=
  ∀ (a : c.α) (b : c.β) (as args : List PV) (aA : bW) (fz : List Nat), c.fn a = ahi b -> oA (c.args.enc a) = ahi args -> BH aA (wU aA deep) as = ahi args ->
    ∃ n r, cC F (run F n) c.ow f as aA fz = ahi r /\ aa1 c.kd (ahh aA) (cW (cK aA deep) as) (c.res.enc b) r
def ff.va (c:ff) (a:gT c.ka):List SV:=(qR c.ta (kQ c.ka a)).1
def ff.sa (c:ff) (a:gT c.ka):List SB:=(zY c.tb (qR c.ta (kQ c.ka a)).2).1
def ff.vb (c:ff) (b:gT c.ko):SV:=(sH c.tv (kQ c.ko b)).1
def ff.sb (c:ff) (b:gT c.ko):List SB:=(zY c.to (sH c.tv (kQ c.ko b)).2).1
def R6:SB->SB->Prop
 | .arr r l,.arr q m=>r=q/\ahh m=ahh l
 | .box _,.box _=>True
 | .set _,.set _=>True
 | .bD _ _,.bD _ _=>True
 | .dead,.dead=>True
 |_,_=>False
def qU (F : kH) (f : FuncId) (c : ff) : Prop :=
  ∀ (a : gT c.ka) (b : gT c.ko) (pa : List PV) (ps : bW), c.fn a = ahi b -> RL (c.sa a) (c.va a) pa -> cj (c.sa a) ps ->
    ∃ n v s, run F n (.func f pa ps []) = ahi (.func v s []) /\ gZ (c.sa a).length v s = ahk /\ R (c.sb b) (c.vb b) v /\ cj (c.sb b) (s.take (c.sa a).length) /\ (c.sb b).length = (c.sa a).length /\
      ∀ (t : Nat) (x y : SB), (c.sa a)[t]? = ahi x -> (c.sb b)[t]? = ahi y -> R6 x y
def Af (F:kH):List (Nat×ru)->Prop
 | []=>True
 |(f,c)::r=>cQ F f c/\Af F r
def G6 (F:kH):List (Nat×ff)->Prop
 | []=>True
 |(f,c)::r=>qU F f c/\G6 F r
def Bb (F:kH):List (Nat×Cd)->Prop
 | []=>True
 |(f,x)::r=>F f=ahi x.ent/\Bb F r
structure mi (F:kH) (cx:Ctx):Prop where
 con: ∀f c,c∈cx.con f->cQ F f c
 fpc: ∀f c,c∈cx.fpc f->qU F f c
 code: ∀f x,cx.code f=ahi x->F f=ahi x.ent
theorem Af.mem {F:kH}: ∀{l:List (Nat×ru)},Af F l-> ∀f c,c∈JU l f->cQ F f c
 | [],_,f,c,h=>by cases h
 |(g,d)::r,hl,f,c,h=>by
  simp only [JU] at h;cases hb:UV g f with
  |true=>
   rw [hb] at h;have:=v6 hb;subst this;simp only [lw] at h;rcases h with _|⟨_,h⟩
   · exact hl.1
   exact Af.mem hl.2 _ c h
  |false=>rw [hb] at h;exact Af.mem hl.2 f c h
theorem G6.mem {F:kH}: ∀{l:List (Nat×ff)},G6 F l-> ∀f c,c∈JV l f->qU F f c
 | [],_,f,c,h=>by cases h
 |(g,d)::r,hl,f,c,h=>by
  simp only [JV] at h;cases hb:UV g f with
  |true=>
   rw [hb] at h;have:=v6 hb;subst this;simp only [lw] at h;rcases h with _|⟨_,h⟩
   · exact hl.1
   exact G6.mem hl.2 _ c h
  |false=>rw [hb] at h;exact G6.mem hl.2 f c h
theorem Bb.mem {F:kH}: ∀{l:List (Nat×Cd)},Bb F l-> ∀f x,Ia l f=ahi x->F f=ahi x.ent
 | [],_,f,c,h=>by cases h
 |(g,d)::r,hl,f,c,h=>by
  simp only [Ia] at h;cases hb:UV g f with
  |true=>rw [hb] at h;have:=v6 hb;subst this;injection h with h;subst h;exact hl.1
  |false=>rw [hb] at h;exact Bb.mem hl.2 f c h
theorem mi.make {F:kH} {lp:Option Nat} {c:List (Nat×ru)} {p:List (Nat×ff)} {x:List (Nat×Cd)} {rk:List (Nat×List PT)} (h1:Af F c) (h2:G6 F p) (h3:Bb F x):mi F (qy lp c p x rk):=
 ⟨h1.mem,h2.mem,h3.mem⟩
section
variable {F : kH} {R' ρ : Type} {w : R' -> ρ} {y : ρ} {s : List SB} {ps : bW} {z : List Nat}
theorem xP {f:FuncId} {m:Bool} {tk:List Nat} {vs:List SV} {k:XRS->fZ R'} (hS:cj s ps) {as args:List PV} (hx:BH ps (wU ps deep) as=ahi args) (hv:oA vs=ahi args) (Ay:tk=cW (cK ps deep) as):
 ∀{l:List ru},(∀c∈l,cQ F f c)->L0 f m s tk vs k l ρ w=ahi y-> ∃sr pr,(∃n,cC F (run F n) m f as ps z=ahi pr)/\Good s ps sr pr/\k (.loc sr) ρ w=ahi y
 | [],_,h=>by cases h
 |c::l,hl,h=>by
  simp only [L0] at h;cases hd:c.args.dec vs with
  |none=>rw [hd] at h;exact xP hS hx hv Ay (fun c hc=>hl c (abt _ hc)) h
  |some a=>
   rw [hd] at h;cases hmo:(m==c.ow) with
   |false=>rw [hmo] at h;exact xP hS hx hv Ay (fun c hc=>hl c (abt _ hc)) h
   |true=>
   rw [hmo] at h;obtain ⟨b,hb,h2⟩:=cq h;have hm:m=c.ow:=by simpa using hmo
   subst hm;have amn:=c.args.law hd hv;obtain ⟨n,r,hr,AT⟩:=hl c (abg ..) a b as args ps z hb amn hx;cases hkd:c.kd with
   |pure=>rw [hkd] at h2 AT;obtain ⟨p,h3,rfl⟩:=AT;exact ⟨_,_,⟨n,hr⟩,by rw [<- Ay];exact Good.val hS (R5 h3),h2⟩
   |uj=>rw [hkd] at h2 AT;obtain ⟨p,h3,rfl⟩:=AT;exact ⟨_,_,⟨n,hr⟩,by rw [<- Ay];exact Good.val hS (R5 h3),h2⟩
   |own=>
    rw [hkd] at h2 AT;obtain ⟨p0,p,q,h3,h4,rfl⟩:=AT;rw [hS.len] at h4;have hbh:vC (s++(xJ (ahh s) (c.res.enc b)).2) (ahh s) (xJ (ahh s) (c.res.enc b)).2:=fun j x hj=>by rw [EQ (by omega)];simpa using hj
    obtain ⟨k1,k2⟩:=NP h3 h4 hbh;exact ⟨_,_,⟨n,hr⟩,by rw [<- Ay];exact Good.news hS k2.1 k2.2 k1,h2⟩
end
end Go.Vm
/- A call of a function that works on the blocks that are lent to it. -/
namespace Go.Vm
def qz {α:Type}:List (Nat×α)->List α->List α
 | [],s=>s
 |(t,b)::r,s=>qz r (s.set t b)
theorem vD: ∀(l:List (Nat×SB)) (s:List SB),qx l s=qz l s
 | [],s=>rfl
 |(t,b)::r,s=>by simp only [qx,qz,A4,vD r]
theorem C4: ∀(l:List (Nat×jL)) (s:bW),fR l s=qz l s
 | [],s=>rfl
 |(t,b)::r,s=>by simp only [fR,qz,C4 r]
theorem Ag {α:Type}: ∀(l:List (Nat×α)) (s:List α),(qz l s).length=ahh s
 | [],s=>rfl
 |(t,b)::r,s=>by simp [qz,Ag r]
theorem vE {α:Type}: ∀(l:List (Nat×α)) (s:List α) (t:Nat),t∉l.map (·.1)->(qz l s)[t]? =s[t]?
 | [],s,t,_=>rfl
 |(u,b)::r,s,t,h=>by simp only [aaq,List.mem_cons,not_or] at h;simp only [qz];rw [vE r _ t h.2,NE];simp [Ne.symm h.1]
theorem Cn {α:Type}: ∀(l:List (Nat×α)) (s:List α) (j t:Nat) (b:α),(l.map (·.1)).Nodup->l[j]? =ahi (t,b)->t<ahh s->(qz l s)[t]? =ahi b
 | [],s,j,t,b,_,h,_=>by simp at h
 |(u,c)::r,s,0,t,b,hn,h,ht=>by simp at h;obtain ⟨rfl,rfl⟩:=h;simp only [aaq,acm] at hn;simp only [qz];rw [vE r _ u hn.1,NE];simp [ht]
 |(u,c)::r,s,j+1,t,b,hn,h,ht=>by simp only [aaq,acm] at hn;simp only [qz];exact Cn r _ j t b hn.2 (by simpa using h) (by simpa using ht)
theorem Bc: ∀(l:List (Nat×SB)),xL l=l.map (·.1)
 | []=>rfl
 |(t,b)::r=>by simp [xL,Bc r]
theorem G7 (g:Nat->Nat): ∀(tk:List Nat) (s:List SB),ahh s=ahh tk->(zk g tk s).map (·.1)=tk/\ ∀(j t:Nat) (b:SB),tk[j]? =ahi t->s[j]? =ahi b->(zk g tk s)[j]? =ahi (t,RC g b)
 | [],s,h=>⟨by simp [zk],fun j t b hj=>by simp at hj⟩
 |t::tk,[],h=>by simp at h
 |t::tk,b::s,h=>by
  obtain ⟨h1,h2⟩:=G7 g tk s (by simpa using h);refine ⟨by simp [zk,h1],fun j u c hj hc=>?_⟩;cases j with
  |zero=>simp at hj hc;subst hj hc;rfl
  |succ j=>simp only [zk,aaF];exact h2 j u c (by simpa using hj) (by simpa using hc)
theorem E9 (g:Nat->Nat): ∀(tk:List Nat) (s:bW),ahh tk<=ahh s->(oB g tk s).map (·.1)=tk/\ ∀(j t:Nat) (b:jL),tk[j]? =ahi t->s[j]? =ahi b->(oB g tk s)[j]? =ahi (t,za g b)
 | [],s,h=>⟨by simp [oB],fun j t b hj=>by simp at hj⟩
 |t::tk,[],h=>by simp at h
 |t::tk,b::s,h=>by
  obtain ⟨h1,h2⟩:=E9 g tk s (by simpa using h);refine ⟨by simp [oB,h1],fun j u c hj hc=>?_⟩;cases j with
  |zero=>simp at hj hc;subst hj hc;rfl
  |succ j=>simp only [oB,aaF];exact h2 j u c (by simpa using hj) (by simpa using hc)
theorem G8: ∀{l:List (Nat×jL)},(l.map (·.1)).Nodup->uZ l=ahk
 | [],_=>rfl
 |p::r,h=>by
  simp only [aaq,acm] at h;simp only [uZ,ww,aaA,aaj];refine ⟨fun q hq=>?_,G8 h.2⟩;cases hb:UV q.1 p.1 with
  |false=>rfl
  |true=>exact absurd (agS.2 ⟨q,hq,v6 hb⟩) h.1
theorem Ij: ∀(s:List SB),BK [] s=s
 | []=>rfl
 |b::r=>by simp only [BK,Ij r];cases b<;>simp [UE,sV]
theorem J5 (s:List SB) (r:fJ):r.na s=BK (xL r.wr) (qx r.wr s)++r.news:=by
 unfold fJ.na;split
 · rename_i h;rw [h];simp only [xL,qx,Ij,mc]
 simp only [mc]
def ace (g:Nat->Nat) (s s2:List SB):Prop:= ∀(u:Nat) (x:SB),s[u]? =ahi x->match x with
 | .arr r l=>s2[g u]? =ahi (.arr r l)
 | .dead=>s2[g u]? =ahi .dead
 | .box _=> ∃cs,s2[g u]? =ahi (.box cs)
 |_=>True
mutual
theorem NQ {g:Nat->Nat} {s s2:List SB} (hb:ace g s s2): ∀{v:SV} {p:PV},R s v p->R s2 (JR g v) (BO g p)
 | .gP,_,_=>trivial
 | .undef,p,h| .jl,p,h| .dz,p,h| .int _ _,p,h| .bool _,p,h| .str _,p,h| .sl _ _,p,h| .nil _ _,p,h| .bp _ _ _,p,h| .mp _,p,h=>by rw [show p=_ from h];rfl
 | .agg cs,p,h=>by obtain ⟨q,rfl,h⟩:=h;exact ⟨_,rfl,vF hb h⟩
 | .bS cs,p,h=>by obtain ⟨q,rfl,h⟩:=h;exact ⟨_,rfl,vF hb h⟩
 | .bu cs o,p,h=>by obtain ⟨q,rfl,h⟩:=h;exact ⟨_,rfl,vF hb h⟩
 | .eh f a b,p,h=>by obtain ⟨pa,pb,rfl,h1,h2⟩:=h;exact ⟨_,_,rfl,vF hb h1,vF hb h2⟩
 | .own t ex,p,h=>by
  obtain ⟨e,n,rfl,cJ⟩:=h;refine ⟨e,n,rfl,?_⟩;rcases cJ with ⟨r,l,h1,h2,h3⟩|h1
  · exact .inl ⟨r,l,hb t _ h1,h2,h3⟩
  exact .inr (hb t _ h1)
 | .pre t a b c,p,h=>by
  obtain ⟨e,rfl,cJ⟩:=h;refine ⟨e,rfl,?_⟩;rcases cJ with ⟨r,l,h1,h2⟩|h1|⟨cs,h1,h2⟩
  · exact .inl ⟨r,l,hb t _ h1,h2⟩
  · exact .inr (.inl (hb t _ h1))
  obtain ⟨c2,h3⟩:=hb t _ h1
  exact .inr (.inr ⟨c2,h3,h2⟩)
 | .part t o a b c,p,h=>by
  obtain ⟨e,rfl,cJ⟩:=h;refine ⟨e,rfl,?_⟩;rcases cJ with ⟨r,l,h1,h2⟩|h1|⟨cs,h1,h2⟩
  · exact .inl ⟨r,l,hb t _ h1,h2⟩
  · exact .inr (.inl (hb t _ h1))
  obtain ⟨c2,h3⟩:=hb t _ h1
  exact .inr (.inr ⟨c2,h3,h2⟩)
 | .pa t r i a o,p,h=>by
  obtain ⟨rfl,cJ⟩:=h;refine ⟨_,rfl,?_⟩;rcases cJ with ⟨l,h1,h2⟩|h1
  · exact .inl ⟨r,l,hb t _ h1,by rw [h2];rfl⟩
  exact .inr (hb t _ h1)
 | .pb t i o,p,h=>by
  obtain ⟨e,rfl,cJ⟩:=h;refine ⟨e,rfl,?_⟩;rcases cJ with ⟨r,l,h1,h2⟩|h1
  · exact .inl ⟨r,l,hb t _ h1,h2⟩
  exact .inr (hb t _ h1)
theorem vF {g:Nat->Nat} {s s2:List SB} (hb:ace g s s2): ∀{v:List SV} {p:List PV},RL s v p->RL s2 (C0 g v) (wG g p)
 | [],p,h=>by rw [show p=_ from h];rfl
 |x::xs,p,h=>by obtain ⟨a,as,rfl,h1,h2⟩:=h.cons_inv;exact RL.cons (NQ hb h1) (vF hb h2)
end
theorem Fa: ∀{a b:bW},(∀(t:Nat) (x:jL),a[t]? =ahi x-> ∃y,b[t]? =ahi y/\x.bA=y.bA)->uY a b=ahk
 | [],b,_=>by cases b<;>rfl
 |x::a,[],h=>by obtain ⟨y,hy,_⟩:=h 0 x rfl;simp at hy
 |x::a,y::b,h=>by obtain ⟨y',h1,h2⟩:=h 0 x rfl;simp at h1;subst h1;have:=Fa (a:=a) (b:=b) (fun t x hx=>by simpa using h (t+1) x (by simpa using hx));simp only [uY,this,abr,h2];cases y.bA<;>rfl
section
variable {F : kH} {R' ρ : Type} {w : R' -> ρ} {y : ρ} {s : List SB} {ps : bW} {z : List Nat}
theorem NR {f:FuncId} {tk:List Nat} {Mc vs:List SV} {s0:List SB} {k:XRS->fZ R'} (hS:cj s ps) {TY:List PV} (hv:RL s Mc TY) (Ay:tk=oy (cW (cK ps deep) TY)) (hz:(tk.all fun t=>!has z t)=ahk)
 (h1:sU tk Mc=ahi vs) (h2:Gs s tk tk=ahi s0):
 ∀{l:List ff},(∀c∈l,qU F f c)->fpS f (ahh s) tk vs s0 k l ρ w=ahi y-> ∃sr pr,(∃n,tu (run F n) f TY ps z=ahi pr)/\Good s ps sr pr/\k (.loc sr) ρ w=ahi y
 | [],_,h=>by cases h
 |c::l,hl,h=>by
  have next:fpS f (ahh s) tk vs s0 k l ρ w=ahi y-> ∃sr pr,(∃n,tu (run F n) f TY ps z=ahi pr)/\Good s ps sr pr/\k (.loc sr) ρ w=ahi y:=
   fun h=>NR hS hv Ay hz h1 h2 (fun c hc=>hl c (abt _ hc)) h
  simp only [fpS] at h;cases tF:(xK c.ta vs&&EO c.tb s0) with
  |false=>rw [tF] at h;exact next h
  |true=>
   rw [tF] at h;simp only [lw] at h;cases hpo:lf c.ka (Cf vs++H7 s0) with
   |none=>rw [hpo] at h;exact next h
   |some a=>
    rw [hpo] at h;obtain ⟨b,hb,h3⟩:=cq h;simp only [ww] at tF;have Ek:=oJ hpo;have hva:c.va a=vs:=by unfold ff.va;rw [Ek,nN _ tF.1]
    have hsa:c.sa a=s0:=by unfold ff.sa;rw [Ek,nN _ tF.1];have:=Ba [] tF.2;rw [aam] at this;rw [this]
    have Eo:E5 tk s s0:=by have:=E5.of (l:=[]) h2;rwa [aam] at this
    obtain ⟨pa',a1,a2⟩:=sY Eo hv h1;obtain ⟨p0,b1,b2,b3⟩:=Ci hS Eo h2;have Gn:cj s0 p0:=⟨b2,b3⟩;obtain ⟨U0,aiN⟩:=xO h2;obtain ⟨n,v,sr,r1,r2,r3,r4,r5,r6⟩:=hl c (abg ..) a b pa' p0 hb (by rw [hva,hsa];exact a2) (by rw [hsa];exact Gn);rw [hsa] at r2 r4 r5 r6;have Gf:tk.Nodup:=by rw [Ay];exact sT
    have O7: ∀t∈tk,t<(ahh s):=fun t ht=>by obtain ⟨j,hj,he⟩:=abz ht;obtain ⟨x,c',d1,_,_⟩:=aiN j t (by rw [IR hj,he]);exact (AC.1 d1).1
    have aiO:(c.sb b).length=(ahh tk):=by rw [r5,U0]
    have amq:(ahh tk)<=(ahh sr):=by have:=r4.len;rw [aav,aiO] at this;rw [U0] at this;omega
    have E1: ∀j,j<ahh tk->(sr.take (ahh s0))[j]? =sr[j]?:=fun j hj=>M2 (by rw [U0];exact hj)
    have QW:uY p0 sr=ahk:=Fa (fun t x hx=>by
     have amr:t<(ahh s0):=by have:=(AC.1 hx).1;rw [b2] at this;exact this
     obtain ⟨x0,JJ⟩: ∃x0,s0[t]? =ahi x0:=⟨s0[t],IR amr⟩;obtain ⟨q,q1,q2⟩:=b3 t x0 JJ;rw [hx] at q1;injection q1 with q1;subst q1;obtain ⟨y0,PA⟩: ∃y0,(c.sb b)[t]? =ahi y0:=⟨(c.sb b)[t]'(by omega),IR (by omega)⟩;obtain ⟨q',q3,q4⟩:=r4.at_ t y0 PA;rw [E1 t (by omega)] at q3;refine ⟨q',q3,?_⟩;have Gm:=r6 t x0 y0 JJ PA;cases x0 with
     |arr r l=>cases y0 with
      |arr r' l'=>obtain ⟨rfl,zJ⟩:=Gm;rw [show x=_ from q2,show q'=_ from q4];cases l<;>cases l'<;>simp_all [jL.bA]
      |_=>exact Gm.elim
     |box cs=>cases y0 with
      |box GA=>obtain ⟨_,rfl,_⟩:=q2;obtain ⟨_,rfl,_⟩:=q4;rfl
      |_=>exact Gm.elim
     |set l=>cases y0 with
      |set l'=>rw [show x=_ from q2,show q'=_ from q4];rfl
      |_=>exact Gm.elim
     |bD p l=>cases y0 with
      |bD p' l'=>rw [show x=_ from q2,show q'=_ from q4];rfl
      |_=>exact Gm.elim
     |dead=>cases y0 with
      |dead=>rw [show x=_ from q2,show q'=_ from q4]
      |_=>exact Gm.elim)
    let g:=jV tk (ahh s)
    have hg: ∀j t,tk[j]? =ahi t->g j=t:=fun j t hj=>by show jV tk (ahh s) j=t;unfold jV;rw [hj]
    obtain ⟨w1,w2⟩:=G7 g tk (c.sb b) aiO;obtain ⟨u1,u2⟩:=E9 g tk sr amq
    let s2:=BK tk (qx (zk g tk (c.sb b)) s)
    have wX: ∀(j t:Nat) (x:SB),tk[j]? =ahi t->(c.sb b)[j]? =ahi x->s2[t]? =ahi (UE tk (RC g x)):=fun j t x hj hx=>by show (BK tk _)[t]? =_;rw [qT,vD,Cn _ s j t _ (by rw [w1];exact Gf) (w2 j t x hj hx) (O7 t (ab1 hj))];rfl
    have aiP: ∀(t:Nat),t∉tk->s2[t]? =(s[t]?).map (UE tk):=fun t ht=>by show (BK tk _)[t]? =_;rw [qT,vD,vE _ s t (by rw [w1];exact ht)]
    have y5: ∀t∈tk,∃j,tk[j]? =ahi t:=fun t ht=>by obtain ⟨j,hj,he⟩:=abz ht;exact ⟨j,by rw [IR hj,he]⟩
    have qt:Fr tk s s2:=fun t x hx=>by
     by_cases ht:t∈tk
     · obtain ⟨j,hj⟩:=y5 t ht
       have Lo:j<(ahh tk):=(AC.1 hj).1;obtain ⟨x',c',d1,d2,d3⟩:=aiN j t hj;rw [hx] at d1;injection d1 with d1;subst d1;obtain ⟨y0,PA⟩: ∃y0,(c.sb b)[j]? =ahi y0:=⟨(c.sb b)[j]'(by omega),IR (by omega)⟩;have Gm:=r6 j c' y0 d3 PA;have hs2:=wX j t y0 hj PA;cases x with
       |arr r l=>
        injection d2 with d2;subst d2;cases y0 with
        |arr r' l'=>
         obtain ⟨rfl,zJ⟩:=Gm;refine .inl ⟨l',hs2,zJ,fun hb=>?_⟩;exfalso;have:has tk t=ahk:=by unfold has;rw [ah7];exact ⟨t,ht,by simp⟩
         rw [this] at hb;cases hb
        |_=>exact Gm.elim
       |dead=>
        injection d2 with d2;subst d2;cases y0 with
        |dead=>exact hs2
        |_=>exact Gm.elim
       |box cs=>
        simp only [LX] at d2;split at d2
        · injection d2 with d2;subst d2
          cases y0 with
          |box c2=>exact .inl ⟨_,hs2⟩
          |_=>exact Gm.elim
        cases d2
       |_=>trivial
     have:=aiP t ht
     rw [hx] at this;cases x with
     |arr r l=>exact .inl ⟨l,this,rfl,fun _=>rfl⟩
     |dead=>exact this
     |box c2=>exact .inl ⟨_,this⟩
     |_=>trivial
    have aa3:ace g (c.sb b) s2:=fun u x hx=>by
     have NL:u<(ahh tk):=by have:=(AC.1 hx).1;omega
     have hj:tk[u]? =ahi tk[u]:=IR NL;have:=wX u _ x hj hx;rw [hg u _ hj];cases x with
     |arr r l=>exact this
     |dead=>exact this
     |box cs=>exact ⟨_,this⟩
     |_=>trivial
    have ams:(∃n,tu (run F n) f TY ps z=ahi {v:=BO g v,wr:=oB g tk sr}):=by
     refine ⟨n,?_⟩;unfold tu T0;rw [<- Ay,rc hz,a1,b1];dsimp only;rw [r1];dsimp only;unfold D7;rw [rc QW,hS.len];have:gZ (ahh tk) v sr=ahk:=by rw [<- U0];exact r2
     rw [rc this]
    refine ⟨{v:=JR g (c.vb b),wr:=zk g tk (c.sb b)},_,ams,?_,h3⟩;have bM:fJ.na s {v:=JR g (c.vb b),wr:=zk g tk (c.sb b)}=s2:=by rw [J5,aam,Bc,w1]
    exact {
     rd:=rfl
     fr:=rfl
     wr:=by rw [Bc,w1];exact u1
     nw:=G8 (by rw [u1];exact Gf)
     nl:=rfl
     aA:=by
      rw [bM];show cj s2 (fR (oB g tk sr) ps);rw [C4];refine ⟨by rw [Ag,vv,vD,Ag,hS.len],fun t x hx=>?_⟩
      by_cases ht:t∈tk
      · obtain ⟨j,hj⟩:=y5 t ht
        have Lo:j<(ahh tk):=(AC.1 hj).1;obtain ⟨y0,PA⟩: ∃y0,(c.sb b)[j]? =ahi y0:=⟨(c.sb b)[j]'(by omega),IR (by omega)⟩;have hs2:=wX j t y0 hj PA;rw [hx] at hs2;injection hs2 with hs2;subst hs2;obtain ⟨q',q3,q4⟩:=r4.at_ j y0 PA;rw [E1 j Lo] at q3;refine ⟨za g q',Cn _ ps j t _ (by rw [u1];exact Gf) (u2 j t q' hj q3) (by rw [hS.len];exact O7 t ht),?_⟩;cases y0 with
        |box cs=>obtain ⟨pc,rfl,hpc⟩:=q4;exact ⟨_,rfl,RL.fr (Fr.refl tk s2) (vF aa3 hpc)⟩
        |arr r l=>rw [show q'=_ from q4];rfl
        |set l=>rw [show q'=_ from q4];rfl
        |bD p l=>rw [show q'=_ from q4];rfl
        |dead=>rw [show q'=_ from q4];rfl
      rw [aiP t ht,aat] at hx
      obtain ⟨x0,JJ,rfl⟩:=hx;obtain ⟨q,q1,q2⟩:=hS.at_ t x0 JJ;exact ⟨q,by rw [vE _ ps t (by rw [u1];exact ht)];exact q1,q2.fr qt⟩
     v:=by rw [bM];exact NQ aa3 r3
     fra:=by rw [bM,Bc,w1];exact qt}
end
end Go.Vm
/- What the typed machine makes of a function is what the logical machine runs. -/
namespace Go.Vm
section
variable {F : kH}
theorem WO.acf {o:bE} {r:List bE} {st:St} {tr:List Tr} {Q:St->List Tr->Prop} {f:FuncId} {args:List PV}
 (hw:wanted o.guard st.env=ahi ahk) (eO: ∀n,wH F (run F n) st.env st.aA st.fz o.op=fI (run F n) f args st.aA st.fz)
 (h:zD F f args st.aA st.fz fun v s z=>(PP (ahh st.aA) (ahh s)&&st.fz.all (has z))=ahk/\WO F r {st with env:=iK o.dst v st.env,aA:=s,fz:=z} (RA::tr) Q):
 WO F (o::r) st tr Q:=by
 obtain ⟨n,v,s,z,hr,hc,hk⟩:=h;refine WO.call (.shr v s z) hw ⟨n,?_⟩ rfl hk;rw [eO];simp only [fI,hr];rw [rc hc]
theorem WP.again {live:List (Nat×Option Nat)} {b:ji} {st s1:St} {Q:gS->St->Prop} (h0:norm live st=ahi s1) (h:WP F b s1 (andThen (fun s=>WP F (.loop live b) s Q) Q)):WP F (.loop live b) st Q:=by
 obtain ⟨m,e,s,he,hq⟩:=h;cases e with
 |normal=>
  obtain ⟨k,e',s',BI,Qm⟩:=hq;refine ⟨max m k+1,e',s',?_,Qm⟩;simp only [sE] at BI ⊢;rw [kf];simp only [step,h0];rw [pL (.refl _ _) (pM F (Nat.le_max_left m k)) _ _ _ he];dsimp only;split at BI
  · rename_i e1 s1 O4
    rw [pM F (Nat.le_max_right m k) _ _ O4];exact BI
  cases BI
 |exit i=>exact ⟨m+1,.exit i,s,by simp only [sE];rw [kf];simp only [step,h0,he],hq⟩
 |ret=>exact ⟨m+1,.ret,s,by simp only [sE];rw [kf];simp only [step,h0,he],hq⟩
def J6 (F : kH) (inl : UF) : Prop :=
  ∀ (f : FuncId) (args : List SV) (s : List SB) (z : List Nat) (R' : Type) (k : SV -> List SB -> List Nat -> fZ R') (ρ : Type) (w : R' -> ρ) (y : ρ) (pa : List PV) (ps : bW) (Q : R' -> PV -> bW -> List Nat -> Prop),
    RL s args pa -> cj s ps -> inl f args s z R' k ρ w = ahi y ->
    (∀ v s' z' p xb xa (w' : R' -> xa) y', R s' v p -> cj s' xb -> k v s' z' xa w' = ahi y' -> ∃ r, y' = w' r /\ Q r p xb z') ->
    ∃ r, y = w r /\ zD F f pa ps z (fun p xb z' => Q r p xb z')
def NS:SB->SB->Prop
 | .arr r l,b=>(∃l',b= .arr r l'/\ahh l'=ahh l)\/b= .dead
 | .dead,b=>b= .dead
 | .box _,b=>(∃cs,b= .box cs)\/b= .dead
 |_,_=>True
theorem Bd {R' ρ:Type} {w:R'->ρ} {y:ρ}: ∀{s s':List SB} {k:fZ R'},pg s s' k ρ w=ahi y->k ρ w=ahi y/\ahh s<=ahh s'/\
 ∀(t:Nat) (b:SB),s[t]? =ahi b-> ∃b',s'[t]? =ahi b'/\NS b b'
 | [],s',k,h=>⟨by cases s'<;>exact h,Nat.zero_le _,fun t b ht=>by simp at ht⟩
 |x::xs,[],k,h=>by cases h
 |x::xs,y'::ys,k,h=>by
  have step: ∀(_:pg xs ys k ρ w=ahi y) (_:NS x y'),k ρ w=ahi y/\(x::xs).length<=(y'::ys).length/\ ∀(t:Nat) (b:SB),(x::xs)[t]? =ahi b-> ∃b',(y'::ys)[t]? =ahi b'/\NS b b':=by
   intro h hx;obtain ⟨h1,h2,h3⟩:=Bd h;refine ⟨h1,by simpa using h2,fun t b ht=>?_⟩;cases t with
   |zero=>simp at ht;subst ht;exact ⟨y',rfl,hx⟩
   |succ t=>simpa using h3 t b (by simpa using ht)
  cases x with
  |arr r l=>
   cases y' with
   |arr q m=>obtain ⟨hr,h2⟩:=cu (a:=fQ (ahh m==ahh l) (pg xs ys k) aM) h;obtain ⟨hl,h3⟩:=hM h2;have:=uF hr;subst this;exact step h3 (.inl ⟨m,rfl,by simpa using hl⟩)
   |dead=>exact step h (.inr rfl)
   |_=>cases h
  |dead=>
   cases y' with
   |dead=>exact step h rfl
   |_=>cases h
  |box cs=>
   cases y' with
   |box c2=>exact step h (.inl ⟨c2,rfl⟩)
   |dead=>exact step h (.inr rfl)
   |_=>cases h
  |set l=>exact step h trivial
  |bD p l=>exact step h trivial
theorem R7 {n t:Nat} (h:t<n):has (uq n) t=ahk:=by
 induction n with
 |zero=>omega
 |succ n ih=>
  unfold has at ih ⊢;rw [ah7] at*;simp only [uq,ahc,abj];rcases ab5 t n with h1|h1
  · obtain ⟨x,h2,h3⟩:=ih h1
    exact ⟨x,.inl h2,h3⟩
  have:t=n:=by omega
  subst this;exact ⟨t,.inr rfl,by simp⟩
theorem Md {s s':List SB} (h: ∀(t:Nat) (b:SB),s[t]? =ahi b-> ∃b',s'[t]? =ahi b'/\NS b b'):Fr (uq (ahh s)) s s':=fun t b hb=>by
 obtain ⟨b',h1,h2⟩:=h t b hb;have df:=(AC.1 hb).1;cases b with
 |arr r l=>
  rcases h2 with ⟨l',rfl,h3⟩|rfl
  · exact .inl ⟨l',h1,h3,fun hx=>by rw [R7 df] at hx;cases hx⟩
  exact .inr h1
 |dead=>rw [show b'= .dead from h2] at h1;exact h1
 |box cs=>
  rcases h2 with ⟨c2,rfl⟩|rfl
  · exact .inl ⟨c2,h1⟩
  exact .inr h1
 |_=>trivial
theorem aiQ {s:List SB} {ps:bW} {sr:fJ} {pr:nB} (G:Good s ps sr pr) (hS:cj s ps):(XR.loc pr).tr (ahh ps)=sr.tr (ahh s):=by
 simp only [XR.tr,fJ.tr,G.rd,G.fr,hS.len,<- G.wr,G.nl,ahg];have:pr.news.isEmpty=sr.news.isEmpty:=by have:=G.nl;cases h1:pr.news<;>cases h2:sr.news<;>simp_all
 rw [this];rfl
theorem acg {st:oF} {p:St} (h:yF st p) {sr:fJ} {pr:nB} (G:Good st.aA p.aA sr pr) (d:Option Nat):yF (sr.next d st) ((XR.loc pr).next d p):=by
 have J7: ∀{s:List SB} {e:SE} {pe:Env} {v:SV} {q:PV},dA s e pe->R s v q->dA s (H8 d v e) (iK d q pe):=by
  intro s e pe v q he hv;cases d with
  |none=>exact he
  |some t=>exact ⟨q,pe,rfl,hv,he⟩
 have hs:=J5 st.aA sr;unfold fJ.next
 split
 · rename_i hw
   rw [hw] at hs;simp only [xL,qx,Ij] at hs;have pO:=G.aA;have hv:=G.v;have qt:=G.fra;rw [hs] at pO hv qt;rw [hw] at qt;exact ⟨by simp only [mc];exact J7 (dA.ext qt h.env) hv,by simp only [mc];exact pO,by simp only [XR.next,G.fr,h.fz],h.kn⟩
 have pO:=G.aA
 have hv:=G.v;have qt:=G.fra;rw [hs] at pO hv qt;exact ⟨by simp only [mc];exact J7 (dA.fr qt h.env) hv,by simp only [mc];exact pO,by simp only [XR.next,G.fr,h.fz],h.kn⟩
theorem ok_eq {s:List SB} {ps:bW} {sr:fJ} {pr:nB} (G:Good s ps sr pr) {z:List Nat} (h:sr.ok z=ahk):(XR.loc pr).ok z=ahk:=by simp only [XR.ok,G.nw,abr];unfold fJ.ok at h;rw [<- G.wr,ahg] at h;exact h
section
variable {cx : Ctx} {inl : UF} {R' : Type}
def amu (_F:kH) (k:oF->List Tr->fZ R') (Q:R'->St->List Tr->Prop):Prop:=
 ∀st p tr ρ (w:R'->ρ) y,yF st p->k st tr ρ w=ahi y-> ∃r,y=w r/\Q r p tr
theorem vG {o:bE} {l:List bE} {st:oF} {p:St} {tr:List Tr} {k:oF->List Tr->fZ R'} {ρ:Type} {w:R'->ρ} {y:ρ} {Q:R'->St->List Tr->Prop}
 (hl: ∀st p tr ρ (w:R'->ρ) y,yF st p->k st tr ρ w=ahi y-> ∃r,y=w r/\WO F l p tr (Q r)) (h:yF st p) {sr:fJ} {pr:nB} (hw:wanted o.guard p.env=ahi ahk)
 (hx: ∃n,wH F (run F n) p.env p.aA p.fz o.op=ahi (.loc pr)) (G:Good st.aA p.aA sr pr) (hg:ND o.dst st tr k (.loc sr) ρ w=ahi y): ∃r,y=w r/\WO F (o::l) p tr (Q r):=by
 unfold ND at hg;dsimp only at hg;obtain ⟨zC,hg⟩:=cu hg;rw [H4] at hg;have hR:=acg h G o.dst;obtain ⟨r,hr,U1⟩:=hl _ _ _ _ _ _ hR hg;refine ⟨r,hr,WO.call (.loc pr) hw hx (by rw [h.fz];exact ok_eq G zC) ?_⟩;rw [aiQ G h.aA];exact U1
theorem J8 (Du:mi F cx) (Ik:J6 F inl) {o:bE} {l:List bE} {st:oF} {p:St} {tr:List Tr} {k:oF->List Tr->fZ R'} {ρ:Type} {w:R'->ρ} {y:ρ} {Q:R'->St->List Tr->Prop}
 (hl: ∀st p tr ρ (w:R'->ρ) y,yF st p->k st tr ρ w=ahi y-> ∃r,y=w r/\WO F l p tr (Q r)) (h:yF st p) (hw:wanted o.guard p.env=ahi ahk)
 (hg:GW cx inl st.env st.aA st.fz o.op (ND o.dst st tr k) ρ w=ahi y): ∃r,y=w r/\WO F (o::l) p tr (Q r):=by
 have hS:=h.aA;have hE:=h.env;have shr: ∀(f:FuncId) (Mc:List SV) (TY:List PV),RL st.aA Mc TY->(∀n,wH F (run F n) p.env p.aA p.fz o.op=fI (run F n) f TY p.aA p.fz)->
  inl f Mc st.aA st.fz R' (fun v s' z'=>ND o.dst st tr k (.shr v s' z')) ρ w=ahi y-> ∃r,y=w r/\WO F (o::l) p tr (Q r):=by
  intro f Mc TY hv eO hi;obtain ⟨r,hr,hd⟩:=Ik f Mc st.aA st.fz R' _ ρ w y TY p.aA (fun r v s z=>(PP (ahh p.aA) (ahh s)&&p.fz.all (has z))=ahk/\WO F l {p with env:=iK o.dst v p.env,aA:=s,fz:=z} (RA::tr) (Q r)) hv hS hi
   (fun v s' z' pv xb xa w' y' hR hS' hk=>by
    unfold ND at hk;dsimp only at hk;rw [H4] at hk;obtain ⟨hk,bY,QK⟩:=Bd hk;obtain ⟨hz,hk⟩:=cu hk;have qt:=Md QK;have J7:dA s' (H8 o.dst v (dgE (uq (ahh st.aA)) st.env)) (iK o.dst pv p.env):=by
     cases o.dst with
     |none=>exact dA.fr qt hE
     |some t=>exact ⟨pv,p.env,rfl,hR,dA.fr qt hE⟩
    have hR':yF {env:=H8 o.dst v (dgE (uq (ahh st.aA)) st.env),aA:=s',fz:=z',kn:=st.kn} {p with env:=iK o.dst pv p.env,aA:=xb,fz:=z'}:=⟨J7,hS',rfl,h.kn⟩;obtain ⟨r,hr,U1⟩:=hl _ _ _ _ _ _ hR' hk;refine ⟨r,hr,?_,U1⟩;rw [h.fz,hz,abr,hS.len,hS'.len];simpa using bY)
  refine ⟨r,hr,WO.acf hw eO ?_⟩;rw [h.fz];rw [h.fz] at hd;exact hd
 have loc: ∀{k':fJ->fZ R'},l9 st.env st.aA st.fz o.op k' ρ w=ahi y->B' o.op=ahl->(∀sr,k' sr=ND o.dst st tr k (.loc sr))-> ∃r,y=w r/\WO F (o::l) p tr (Q r):=by intro k' hv hc hk;obtain ⟨sr,pr,h1,G,h2⟩:=UX hE hS (pe:=p.env) hv;rw [hk] at h2;exact vG hl h hw ⟨0,by rw [HZ hc,h.fz,h1];rfl⟩ G h2
 generalize eO:o.op=op at hg;cases op with
 |call m f args=>
  have kN:=yG hE args;simp only [GW] at hg;cases m with
  |TN=>
   dsimp only at hg;cases hx:rN st.aA (kv st.aA deep) (jx st.env args) with
   |none=>rw [hx] at hg;cases hg
   |some vs=>rw [hx] at hg;obtain ⟨q,h1,h2⟩:=tI hS (DP hS deep) kN hx;obtain ⟨sr,pr,⟨n,h3⟩,G,h4⟩:=xP (f:=f) (z:=st.fz) hS h1 h2 (zm hS (E2 hS deep) kN hx) (fun c hc=>Du.con f c hc) hg;exact vG hl h hw ⟨n,by rw [eO,h.fz];simp only [wH,h3];rfl⟩ G h4
  |own=>
   dsimp only at hg;cases hx:rN st.aA (kv st.aA deep) (jx st.env args) with
   |none=>rw [hx] at hg;cases hg
   |some vs=>rw [hx] at hg;obtain ⟨q,h1,h2⟩:=tI hS (DP hS deep) kN hx;obtain ⟨sr,pr,⟨n,h3⟩,G,h4⟩:=xP (f:=f) (z:=st.fz) hS h1 h2 (zm hS (E2 hS deep) kN hx) (fun c hc=>Du.con f c hc) hg;exact vG hl h hw ⟨n,by rw [eO,h.fz];simp only [wH,h3];rfl⟩ G h4
  |shr=>exact shr f _ _ kN (fun n=>by rw [eO];rfl) hg
  |fp=>
   dsimp only at hg;cases hx:LU st.aA (kv st.aA deep) (jx st.env args) with
   |false=>rw [hx] at hg;cases hg
   |true=>
    rw [hx] at hg;dsimp only at hg;obtain ⟨hz,hg⟩:=cu hg;cases h1:sU (oy (qP (wY st.aA deep) (jx st.env args))) (jx st.env args) with
    |none=>rw [h1] at hg;cases hg
    |some vs=>
     cases h2:Gs st.aA (oy (qP (wY st.aA deep) (jx st.env args))) (oy (qP (wY st.aA deep) (jx st.env args))) with
     |none=>rw [h1,h2] at hg;cases hg
     |some s0=>rw [h1,h2] at hg;obtain ⟨sr,pr,⟨n,h3⟩,G,h4⟩:=NR (f:=f) (z:=st.fz) hS kN (by rw [RZ hS (E2 hS deep) kN hx]) hz h1 h2 (fun c hc=>Du.fpc f c hc) hg;exact vG hl h hw ⟨n,by rw [eO,h.fz];simp only [wH,h3];rfl⟩ G h4
 |wF x args=>
  have kN:=yG hE args;simp only [GW] at hg;have hx:=dh hE x;generalize bG st.env x=v at hg hx;cases v with
  |eh f a b=>
   dsimp only at hg;obtain ⟨pa,pb,hx,ha,hb⟩:=hx;have amv: ∀{vs:List SV} {q:List PV},RL st.aA vs q->(zZ vs=ahk->q.any D6=ahk):=by
    intro vs
    induction vs with
    |nil=>intro q _ h;cases h
    |cons v vs ih=>
     intro q hq hp;obtain ⟨a,as,rfl,h1,h2⟩:=hq.cons_inv;simp only [zZ,ahd] at hp;simp only [ahe,ahd];rcases hp with hp|hp
     · left
       cases v with
       |own _ _=>obtain ⟨_,_,rfl,_⟩:=h1;rfl
       |pre _ _ _ _=>obtain ⟨_,rfl,_⟩:=h1;rfl
       |part _ _ _ _ _=>obtain ⟨_,rfl,_⟩:=h1;rfl
       |pa _ _ _ _ _=>obtain ⟨rfl,_⟩:=h1;rfl
       |pb _ _ _=>obtain ⟨_,rfl,_⟩:=h1;rfl
       |bp _ _ _=>rw [show a=_ from h1];rfl
       |mp _=>rw [show a=_ from h1];rfl
       |_=>cases hp
     right;exact ih h2 hp
   cases hp:zZ (jx st.env args++b) with
   |true=>rw [hp] at hg;have:=amv (kN.append hb) hp;exact shr f _ _ ((ha.append kN).append hb) (fun n=>by rw [eO];simp only [wH,hx,this,if_true]) hg
   |false=>
    rw [hp] at hg;simp only [pp] at hg;cases hxx:rN st.aA (kv st.aA deep) (a++jx st.env args++b) with
    |none=>rw [hxx] at hg;cases hg
    |some vs=>
     rw [hxx] at hg;have hno: ∀{vs u:List SV} {q:List PV},RL st.aA vs q->zZ vs=ahl->rN st.aA (kv st.aA deep) vs=ahi u->q.any D6=ahl:=by
      intro vs
      induction vs with
      |nil=>intro u q hq _ _;rw [show q=[] from hq];rfl
      |cons v vs ih=>
       intro u q hq hp hu;obtain ⟨a,as,rfl,h1,h2⟩:=hq.cons_inv;simp only [zZ,Bool.or_eq_false_iff] at hp;simp only [rN] at hu;split at hu
       · rename_i y1 y2 e1 e2
         simp only [ahe,ih h2 hp.2 e2,Bool.or_false];cases v with
         |agg _|bS _|bu _ _=>obtain ⟨_,rfl,_⟩:=h1;rfl
         |eh _ _ _=>obtain ⟨_,_,rfl,_⟩:=h1;rfl
         |int _ _|bool _|str _|dz|sl _ _|nil _ _|undef|jl=>rw [show a=_ from h1];rfl
         |gP=>cases e1
         |own _ _|pre _ _ _ _|part _ _ _ _ _|pa _ _ _ _ _|pb _ _ _|bp _ _ _|mp _=>cases hp.1
       cases hu
     have ach: ∃u2,rN st.aA (kv st.aA deep) (jx st.env args++b)=ahi u2:=by
      have: ∀(l:List SV) {m u:List SV},rN st.aA (kv st.aA deep) (l++m)=ahi u-> ∃u2,rN st.aA (kv st.aA deep) m=ahi u2:=by
       intro l
       induction l with
       |nil=>intro m u h;exact ⟨u,h⟩
       |cons x l ih=>
        intro m u h;simp only [acj,rN] at h;split at h
        · rename_i e1 e2;exact ih e2
        cases h
      rw [aal] at hxx;exact this a hxx
     obtain ⟨u2,hu2⟩:=ach;have amw:=hno (kN.append hb) hp hu2;have nI:=(ha.append kN).append hb;obtain ⟨q,h1,h2⟩:=tI hS (DP hS deep) nI hxx;obtain ⟨sr,pr,⟨n,h3⟩,G,h4⟩:=xP (f:=f) (z:=st.fz) hS h1 h2 (zm hS (E2 hS deep) nI hxx) (fun c hc=>Du.con f c hc) hg;exact vG hl h hw ⟨n,by rw [eO,h.fz];simp only [wH,hx,amw,aa2,if_false,h3];rfl⟩ G h4
  |_=>cases hg
 |_=>exact loc (k':=fun r=>ND o.dst st tr k (.loc r)) (by rw [eO];exact hg) (by rw [eO];rfl) (fun _=>rfl)
theorem vH (Du:mi F cx) (Ik:J6 F inl): ∀(ops:List bE) {st:oF} {p:St} {tr:List Tr} {k:oF->List Tr->fZ R'} {ρ:Type} {w:R'->ρ} {y:ρ} {Q:R'->St->List Tr->Prop},
 amu F k Q->yF st p->oG cx inl ops st tr k ρ w=ahi y-> ∃r,y=w r/\WO F ops p tr (Q r)
 | [],st,p,tr,k,ρ,w,y,Q,hk,h,he=>by obtain ⟨r,hr,hq⟩:=hk st p tr ρ w y h he;exact ⟨r,hr,WO.nil hq⟩
 |o::l,st,p,tr,k,ρ,w,y,Q,hk,h,he=>by
  have hl: ∀st p tr ρ (w:R'->ρ) y,yF st p->oG cx inl l st tr k ρ w=ahi y-> ∃r,y=w r/\WO F l p tr (Q r):=fun st p tr ρ w y h he=>vH Du Ik l hk h he
  have PB: ∀{st:oF} {c:Nat} {v:SV},yF st p->R st.aA v (lk c p.env)->yF {st with env:=zV c v st.env} p:=fun h hv=>⟨h.env.zV hv,h.aA,h.fz,h.kn⟩
  have aci: ∀{st:oF},yF st p->wanted o.guard p.env=ahi ahk->(match o.op with
   | .pick (.t c) a b=>match CY c st.env with
    | .bool x=>fQ x (ND o.dst {st with env:=zV c (.bool ahk) st.env} tr (oG cx inl l · · k) (.loc {v:=bG st.env a}))
     (ND o.dst {st with env:=zV c (.bool ahl) st.env} tr (oG cx inl l · · k) (.loc {v:=bG st.env b}))
    |_=>aM
   |op=>GW cx inl st.env st.aA st.fz op (ND o.dst st tr (oG cx inl l · · k))) ρ w=ahi y-> ∃r,y=w r/\WO F (o::l) p tr (Q r):=by
   intro st h hw he;have plain:GW cx inl st.env st.aA st.fz o.op (ND o.dst st tr (oG cx inl l · · k)) ρ w=ahi y-> ∃r,y=w r/\WO F (o::l) p tr (Q r):=fun he=>J8 Du Ik hl h hw he
   generalize eO:o.op=op at he;cases op with
   |pick c a b=>
    cases c with
    |c v=>exact plain (by rw [eO];exact he)
    |t c=>
     dsimp only at he;generalize hv:CY c st.env=v at he;cases v with
     |bool x=>
      have hx:lk c p.env= .bool x:=by have:=h.env.lk c;rw [hv] at this;exact this
      rcases eJ he with ⟨rfl,he⟩|⟨rfl,he⟩
      · have hR:=PB h (c:=c) (v:= .bool ahk) hx
        exact vG (o:=o) hl hR hw ⟨0,by rw [eO];simp only [wH,bo,fj.ev,hx];rfl⟩ (Good.val hR.aA (dh h.env a)) he
      have hR:=PB h (c:=c) (v:= .bool ahl) hx
      exact vG (o:=o) hl hR hw ⟨0,by rw [eO];simp only [wH,bo,fj.ev,hx];rfl⟩ (Good.val hR.aA (dh h.env b)) he
     |_=>cases he
   |_=>exact plain (by rw [eO];exact he)
  have R8: ∀{st:oF},yF st p->wanted o.guard p.env=ahi ahl->oG cx inl l {st with env:=H8 o.dst .jl st.env} (Tr.idle::tr) k ρ w=ahi y-> ∃r,y=w r/\WO F (o::l) p tr (Q r):=by
   intro st h hw he;have hR:yF {st with env:=H8 o.dst .jl st.env} {p with env:=iK o.dst .jl p.env}:=by
    refine ⟨?_,h.aA,h.fz,h.kn⟩;cases o.dst with
    |none=>exact h.env
    |some t=>exact ⟨.jl,p.env,rfl,rfl,h.env⟩
   obtain ⟨r,hr,U1⟩:=hl _ _ _ _ _ _ hR he;exact ⟨r,hr,WO.skip hw U1⟩
  simp only [oG] at he;cases hgd:o.guard with
  |none=>rw [hgd] at he;exact aci h (by rw [hgd];rfl) he
  |some g=>
   obtain ⟨c,want⟩:=g;rw [hgd] at he;dsimp only at he;generalize hv:CY c st.env=v at he;cases v with
   |bool x=>
    have hx:lk c p.env= .bool x:=by have:=h.env.lk c;rw [hv] at this;exact this
    have hwx: ∀b,x=b->wanted o.guard p.env=ahi (b==want):=fun b hb=>by rw [hgd];simp only [wanted,hx,hb]
    cases want with
    |true=>
     simp only [lw] at he;rcases eJ he with ⟨rfl,he⟩|⟨rfl,he⟩
     · exact aci (PB h (v:= .bool ahk) hx) (hwx ahk rfl) he
     exact R8 (PB h (v:= .bool ahl) hx) (hwx ahl rfl) he
    |false=>
     simp only [pp] at he;rcases eJ he with ⟨rfl,he⟩|⟨rfl,he⟩
     · exact R8 (PB h (v:= .bool ahk) hx) (hwx ahk rfl) he
     exact aci (PB h (v:= .bool ahl) hx) (hwx ahl rfl) he
   |jl=>
    have hx:lk c p.env= .jl:=by have:=h.env.lk c;rw [hv] at this;exact this
    exact R8 h (by rw [hgd];simp only [wanted,hx]) he
   |_=>cases he
theorem Fb {e:SE}: ∀{fH:List Nat} {k:SE->fZ R'} {ρ:Type} {w:R'->ρ} {y:ρ},JS e fH k ρ w=ahi y->k (fH.map fun s=>(s,CY s e)) ρ w=ahi y
 | [],k,ρ,w,y,h=>h
 |s::r,k,ρ,w,y,h=>by simp only [JS] at h;rw [H4] at h;have:=Fb h;exact this
theorem R9 {s:List SB} {e:SE} {pe:Env} (h:dA s e pe): ∀(fH:List Nat),dA s (fH.map fun t=>(t,CY t e)) (fH.map fun t=>(t,lk t pe))
 | []=>rfl
 |t::r=>⟨_,_,rfl,h.lk t,R9 h r⟩
end
mutual
theorem G9: ∀(v:SV) (q:List w9),sH v (Cc v++q)=(v,q)
 | .gP,q| .undef,q| .jl,q| .dz,q| .int _ _,q| .bool _,q| .str _,q| .sl _ _,q| .nil _ _,q| .own _ _,q| .pre _ _ _ _,q| .part _ _ _ _ _,q| .pa _ _ _ _ _,q| .pb _ _ _,q| .bp _ _ _,q| .mp _,q=>rfl
 | .agg cs,q=>by simp only [sH,Cc,rz]
 | .bS cs,q=>by simp only [sH,Cc,rz]
 | .bu cs o,q=>by simp only [sH,Cc,rz]
 | .eh f a b,q=>by simp only [sH,Cc,aal,rz]
theorem rz: ∀(v:List SV) (q:List w9),qR v (Cf v++q)=(v,q)
 | [],q=>rfl
 |x::xs,q=>by simp only [qR,Cf,aal,G9,rz]
end
theorem G': ∀(v:List SB) (q:List w9),zY v (H7 v++q)=(v,q)
 | [],q=>rfl
 |x::xs,q=>by
  have: ∀q,LZ x (Rv x++q)=(x,q):=by intro q;cases x<;>first|rfl|simp only [LZ,Rv,rz]
  simp only [zY,H7,aal,this,G']
theorem Ha: ∀(v:SE) (q:List w9),JQ v (Pn v++q)=(v,q)
 | [],q=>rfl
 |(t,x)::xs,q=>by simp only [JQ,Pn,aal,G9,Ha]
theorem Me (st:oF):uG st (nM st)=st:=by have hs:=G' st.aA [];rw [aam] at hs;simp only [uG,nM,Ha,hs]
theorem aa4 {β:Type 1}: ∀(l:List PT) (c:List PT->β),rK l c=c l
 | [],_=>rfl
 |p::r,c=>by cases p<;>simp only [rK,ptK,aa4 r]
theorem Mf {β:Type 1}: ∀(l:List AK) (c:List AK->β),UC l c=c l
 | [],_=>rfl
 |a::r,c=>by cases a<;>simp only [UC,aa4,Mf r]
theorem aa5 {s:List SB} {o:SE}: ∀{e:SE} {pe:Env},dA s e pe->dA s (jnE o e) pe
 | [],_,h=>h
 |(t,v)::r,_,⟨p,q,h1,h2,h3⟩=>⟨p,q,h1,by cases CY t o<;>first|exact h2|trivial,aa5 h3⟩
theorem PC {cx:Ctx} {inl:UF} (Du:mi F cx) (Ik:J6 F inl): ∀(c:ji) (R':Type) {st:oF} {p:St} {k:gS->oF->fZ R'} {ρ:Type} {w:R'->ρ} {y:ρ} {Q:R'->gS->St->Prop},
 (∀e st p ρ (w:R'->ρ) y,yF st p->k e st ρ w=ahi y-> ∃r,y=w r/\Q r e p)->yF st p->xM cx inl c R' st k ρ w=ahi y-> ∃r,y=w r/\WP F c p (Q r):=by
 intro c
 induction c with
 |skip=>intro R' st p k ρ w y Q hk h he;obtain ⟨r,hr,hq⟩:=hk _ _ _ _ _ _ h he;exact ⟨r,hr,WP.skip hq⟩
 |ret=>intro R' st p k ρ w y Q hk h he;obtain ⟨r,hr,hq⟩:=hk _ _ _ _ _ _ h he;exact ⟨r,hr,WP.ret hq⟩
 |exit id=>intro R' st p k ρ w y Q hk h he;obtain ⟨r,hr,hq⟩:=hk _ _ _ _ _ _ h he;exact ⟨r,hr,WP.exit hq⟩
 |region d ops fH=>
  intro R' st p k ρ w y Q hk h he;simp only [xM] at he;have fin: ∀st p ρ (w:R'->ρ) y,yF st p->JS st.env fH (fun e=>k .normal {st with env:=e}) ρ w=ahi y-> ∃r,y=w r/\Q r .normal (pN fH p):=by intro st p ρ w y h he;have:=Fb he;have hR:yF {st with env:=fH.map fun t=>(t,CY t st.env)} (pN fH p):=⟨R9 h.env fH,h.aA,h.fz,h.kn⟩;exact hk _ _ _ _ _ _ hR this
  cases d with
  |none=>obtain ⟨r,hr,U1⟩:=vH Du Ik ops (Q:=fun r s _=>Q r .normal (pN fH s)) (fun st p tr ρ w y h he=>fin st p ρ w y h he) h he;exact ⟨r,hr,WP.region U1⟩
  |some bf=>
   obtain ⟨r,hr,U1⟩:=vH Du Ik ops (Q:=fun r s t=>qL 0 (t.reverse.zip bf)=ahk/\Q r .normal (pN fH s)) (fun st p tr ρ w y h he=>by
    dsimp only at he;cases ho:qL 0 (tr.reverse.zip bf) with
    |false=>rw [ho] at he;cases he
    |true=>rw [ho] at he;obtain ⟨r,hr,hq⟩:=fin st p ρ w y h he;exact ⟨r,hr,ho,hq⟩) h he
   exact ⟨r,hr,WP.T4 U1⟩
 |seq a b iha T2=>
  intro R' st p k ρ w y Q hk h he;simp only [xM] at he;cases hj:cx.jn&&jnC a with
  |false=>
   rw [hj] at he;obtain ⟨r,hr,Il⟩:=iha R' (Q:=fun r=>andThen (fun s=>WP F b s (Q r)) (Q r)) (fun e st p ρ w y h he=>by
    cases e with
    |normal=>exact T2 R' hk h he
    |exit i=>exact hk _ _ _ _ _ _ h he
    |ret=>exact hk _ _ _ _ _ _ h he) h he
   exact ⟨r,hr,WP.seq Il⟩
  |true=>
   rw [hj] at he;dsimp only at he;rw [Mf] at he;generalize Rw (nM (Po st.env (jnK a) st))=ks at he;generalize Po st.env (jnK a) st=s1 at he;cases hp:lf ks (nM s1) with
   |none=>rw [hp] at he;cases he
   |some y0=>
    rw [hp] at he;dsimp only at he;obtain ⟨n,Fc⟩:=JL he;clear he;have body: ∀zr,xM cx inl a (Step (Bool×gT ks) ρ) st (fun e st2=>match e with
     | .normal=>bif zX s1 {st2 with env:=jnE st.env st2.env} then (match lf ks (nM {st2 with env:=jnE st.env st2.env}) with
      |some y'=>CZ (.next (ahl,y'))
      |none=>aM) else aM
     |e=>fun xa w'=>k e st2 xa fun r=>w' (.done (w r))) (Step (Bool×gT ks) ρ) (fun z=>z)=ahi zr->
     WP F a p (fun e s=>match zr with
      | .next y'=>e= .normal/\y'.1=ahl/\yF (uG s1 (kQ ks y'.2)) s
      | .done x=>e≠ .normal/\ ∃r,x=w r/\Q r e s):=by
     intro zr kr;obtain ⟨zr',Lg,Il⟩:=iha (Step (Bool×gT ks) ρ) (Q:=fun zr e s=>match zr with
      | .next y'=>e= .normal/\y'.1=ahl/\yF (uG s1 (kQ ks y'.2)) s
      | .done x=>e≠ .normal/\ ∃r,x=w r/\Q r e s) (fun e st2 p2 xa w' y2 h2 w8=>by
      cases e with
      |normal=>
       dsimp only at w8;obtain ⟨tF,w8⟩:=cu w8;cases U2:lf ks (nM {st2 with env:=jnE st.env st2.env}) with
       |none=>rw [U2] at w8;cases w8
       |some y3=>rw [U2] at w8;injection w8 with w8;refine ⟨.next (ahl,y3),w8.symm,rfl,rfl,?_⟩;dsimp only;rw [oJ U2,G4 tF];exact ⟨aa5 h2.env,h2.aA,h2.fz,h2.kn⟩
      |exit i=>obtain ⟨r,hr,hq⟩:=hk _ _ _ _ _ _ h2 w8;exact ⟨.done (w r),hr,(by intro e;cases e),r,rfl,hq⟩
      |ret=>obtain ⟨r,hr,hq⟩:=hk _ _ _ _ _ _ h2 w8;exact ⟨.done (w r),hr,(by intro e;cases e),r,rfl,hq⟩) h kr
     subst Lg;exact Il
    cases n with
    |zero=>cases Fc
    |succ n=>
     simp only [nK,fQ] at Fc;split at Fc
     · rename_i y' kr
       obtain ⟨m,e,s,bI,rfl,hy,hR3⟩:=body _ kr;obtain ⟨y1,y2⟩:=y';dsimp only at hy hR3;subst hy;cases n with
       |zero=>cases Fc
       |succ n=>
        simp only [nK] at Fc;split at Fc
        · rename_i y' TW
          obtain ⟨r,hr,_⟩:=T2 R' hk hR3 TW;cases hr
        · rename_i x TW
          obtain ⟨r,hr,Il⟩:=T2 R' hk hR3 TW;injection Fc with Fc;injection hr with hr;exact ⟨r,by rw [<- Fc];exact hr,WP.seq ⟨m,.normal,s,bI,Il⟩⟩
        cases Fc
     · rename_i x kr
       injection Fc with Fc;obtain ⟨m,e,s,bI,dE,r,hr,hq⟩:=body _ kr;refine ⟨r,by rw [<- Fc];exact hr,WP.seq ⟨m,e,s,bI,?_⟩⟩;cases e with
       |normal=>exact absurd rfl dE
       |exit i=>exact hq
       |ret=>exact hq
     cases Fc
 |cond c a b iha T2=>
  intro R' st p k ρ w y Q hk h he;simp only [xM] at he;have hx:=dh h.env c;generalize bG st.env c=v at he hx;cases v with
  |bool x=>
   rcases eJ he with ⟨rfl,he⟩|⟨rfl,he⟩
   · obtain ⟨r,hr,Il⟩:=iha R' hk h he
     exact ⟨r,hr,WP.aan hx Il⟩
   obtain ⟨r,hr,Il⟩:=T2 R' hk h he
   exact ⟨r,hr,WP.aao hx Il⟩
  |_=>cases he
 |block id b ih=>
  intro R' st p k ρ w y Q hk h he;simp only [xM] at he;obtain ⟨r,hr,Il⟩:=ih R' (Q:=fun r=>inBlock id (Q r)) (fun e st p ρ w y h he=>by
   cases e with
   |normal=>exact hk _ _ _ _ _ _ h he
   |ret=>exact hk _ _ _ _ _ _ h he
   |exit j=>
    dsimp only at he;cases hj:UV j id with
    |true=>rw [hj] at he;obtain ⟨r,hr,hq⟩:=hk _ _ _ _ _ _ h he;have Uk:=v6 hj;exact ⟨r,hr,by simpa [inBlock,Uk] using hq⟩
    |false=>
     rw [hj] at he;obtain ⟨r,hr,hq⟩:=hk _ _ _ _ _ _ h he;have:j≠id:=by intro e;subst e;simp at hj
     exact ⟨r,hr,by simpa [inBlock,this] using hq⟩) h he
  exact ⟨r,hr,WP.block Il⟩
 |loop live b ih=>
  intro R' st p k ρ w y Q hk h he;simp only [xM] at he;cases hn:EN cx.rk live st with
  |none=>rw [hn] at he;cases he
  |some st1=>
   rw [hn] at he;dsimp only at he;rw [Mf] at he;generalize Rw (nM st1)=ks at he;cases hp:lf ks (nM st1) with
   |none=>rw [hp] at he;cases he
   |some y0=>
    rw [hp] at he;dsimp only at he;obtain ⟨p1,hp1,hR1⟩:=NO h hn;have aiT: ∀(L1:oF) (y':gT ks),zX st1 L1=ahk->lf ks (nM L1)=ahi y'->uG st1 (kQ ks y')=L1:=fun L1 y' h1 h2=>by rw [oJ h2,G4 h1]
    obtain ⟨n,Fc⟩:=JL he;have h0:yF (uG st1 (kQ ks y0)) p1:=by rw [oJ hp,Me];exact hR1
    clear he hp hn h hR1
    induction n generalizing y0 p p1 with
    |zero=>cases Fc
    |succ n ihn=>
     have body: ∀zr,xM cx inl b (Step (gT ks) ρ) (uG st1 (kQ ks y0)) (fun e st2=>match e with
      | .normal=>match EN cx.rk live st2 with
       |some L1=>bif zX st1 L1 then (match lf ks (nM L1) with
        |some y'=>CZ (.next y')
        |none=>aM) else aM
       |none=>aM
      |e=>fun xa w'=>k e st2 xa fun r=>w' (.done (w r))) (Step (gT ks) ρ) (fun z=>z)=ahi zr->
      WP F b p1 (fun e s=>match zr with
       | .next y'=>e= .normal/\ ∃p3,norm live s=ahi p3/\yF (uG st1 (kQ ks y')) p3
       | .done x=>e≠ .normal/\ ∃r,x=w r/\Q r e s):=by
      intro zr kr;obtain ⟨zr',Lg,Il⟩:=ih (Step (gT ks) ρ) (Q:=fun zr e s=>match zr with
       | .next y'=>e= .normal/\ ∃p3,norm live s=ahi p3/\yF (uG st1 (kQ ks y')) p3
       | .done x=>e≠ .normal/\ ∃r,x=w r/\Q r e s) (fun e st2 p2 xa w' y2 h2 w8=>by
       cases e with
       |normal=>
        dsimp only at w8;cases U3:EN cx.rk live st2 with
        |none=>rw [U3] at w8;cases w8
        |some L1=>
         rw [U3] at w8;obtain ⟨tF,w8⟩:=cu w8;cases U2:lf ks (nM L1) with
         |none=>rw [U2] at w8;cases w8
         |some y3=>rw [U2] at w8;injection w8 with w8;obtain ⟨p3,amx,hR3⟩:=NO h2 U3;exact ⟨.next y3,w8.symm,rfl,p3,amx,by rw [aiT L1 y3 tF U2];exact hR3⟩
       |exit i=>obtain ⟨r,hr,hq⟩:=hk _ _ _ _ _ _ h2 w8;exact ⟨.done (w r),hr,(by intro e;cases e),r,rfl,hq⟩
       |ret=>obtain ⟨r,hr,hq⟩:=hk _ _ _ _ _ _ h2 w8;exact ⟨.done (w r),hr,(by intro e;cases e),r,rfl,hq⟩) h0 kr
      subst Lg;exact Il
     simp only [nK] at Fc;split at Fc
     · rename_i y' kr
       obtain ⟨m,e,s,bI,rfl,p3,U2,hR3⟩:=body _ kr;obtain ⟨r,hr,Il⟩:=ihn y' p3 U2 Fc hR3;exact ⟨r,hr,WP.again hp1 ⟨m,.normal,s,bI,Il⟩⟩
     · rename_i x kr
       injection Fc with Fc;obtain ⟨m,e,s,bI,dE,r,hr,hq⟩:=body _ kr;refine ⟨r,by rw [<- Fc];exact hr,WP.again hp1 ⟨m,e,s,bI,?_⟩⟩;cases e with
       |normal=>exact absurd rfl dE
       |exit i=>exact hq
       |ret=>exact hq
     cases Fc
end
end Go.Vm
/- Contracts from the typed machine. -/
namespace Go.Vm
section
variable {F : kH} {cx : Ctx} {inl : UF}
theorem J9 {s:List SB}: ∀{l:List SV} {q:List PV} (i:Nat),RL s l q->dA s (L3 i l) (uu i q)
 | [],q,i,h=>by rw [show q=[] from h];rfl
 |x::xs,q,i,h=>by obtain ⟨a,as,rfl,h1,h2⟩:=h.cons_inv;exact ⟨a,uu (i+1) as,rfl,h1,J9 (i+1) h2⟩
theorem Sa {st:oF} {p:St} (h:yF st p) {r:RV} {v:SV} (hr:L2 st r=ahi v): ∃q,D8 p r=ahi q/\R st.aA v q:=by
 cases r with
 |tmp t=>injection hr with hr;subst hr;exact ⟨_,rfl,h.env.lk t⟩
 |cell t agg=>
  simp only [L2] at hr;have tF:=h.env.lk t;split at hr
  · rename_i u n off hv
    rw [hv] at tF;rw [bQ] at hr;split at hr
    · rename_i cs bM
      obtain ⟨q,h1,h2⟩:=h.aA.box bM;obtain ⟨x,h3,h4⟩:=sW h2 hr;refine ⟨x,?_,h4⟩;simp only [D8,show lk t p.env=_ from tF,ox,h1,aas,if_true,h3];rfl
    cases hr
  · rename_i cs off hv
    rw [hv] at tF;obtain ⟨q,h1,h2⟩:=tF;obtain ⟨x,h3,h4⟩:=sW h2 hr;refine ⟨x,?_,h4⟩;simp only [D8,h1,ox,h3];rfl
  cases hr
theorem Hb {st:oF} {p:St} (h:yF st p): ∀{l:List RV} {vs:List SV},yE st l=ahi vs-> ∃q,nD p l=ahi q/\RL st.aA vs q
 | [],vs,hr=>by injection hr with hr;subst hr;exact ⟨[],rfl,rfl⟩
 |r::l,vs,hr=>by
  simp only [yE] at hr;split at hr
  · rename_i v Lf h1 h2
    injection hr with hr;subst hr;obtain ⟨q,h3,h4⟩:=Sa h h1;obtain ⟨qs,h5,h6⟩:=Hb h h2;exact ⟨q::qs,by simp only [nD,h3,h5],RL.cons h4 h6⟩
  cases hr
theorem J' {s:List SB} {vs:List SV} {q:List PV} (h:RL s vs q):R s (Cg vs) (results1 q):=by
 match vs,q,h with
 | [],q,h=>rw [show q=[] from h];exact ⟨[],rfl,rfl⟩
 | [v],q,h=>obtain ⟨a,as,rfl,h1,h2⟩:=h.cons_inv;rw [show as=[] from h2];exact h1
 |v::u::r,q,h=>have nI:=h;obtain ⟨a,as,rfl,h1,h2⟩:=h.cons_inv;obtain ⟨b,bs,rfl,h3,h4⟩:=h2.cons_inv;exact ⟨_,rfl,nI⟩
theorem xQ (Du:mi F cx) (Ik:J6 F inl) {f:FuncId} {x:aK} (hf:F f=ahi (.code x)) {R':Type} {args:List SV} {s:List SB} {z:List Nat} {k:SV->List SB->List Nat->fZ R'} {ρ:Type} {w:R'->ρ} {y:ρ} {pa:List PV} {ps:bW}
 {Q:R'->PV->bW->List Nat->Prop} (ha:RL s args pa) (hS:cj s ps) (he:JT cx inl x R' args s z k ρ w=ahi y)
 (hk: ∀v s' z' p xb xa (w':R'->xa) y',R s' v p->cj s' xb->k v s' z' xa w'=ahi y'-> ∃r,y'=w' r/\Q r p xb z'): ∃r,y=w r/\zD F f pa ps z (fun p xb z'=>Q r p xb z'):=by
 unfold JT at he;obtain ⟨hn,he⟩:=cu he;have fin: ∀st p xa (w':R'->xa) y',yF st p->(match yE st x.res with
  |some vs=>k (Cg vs) st.aA st.fz
  |none=>aM) xa w'=ahi y'-> ∃r,y'=w' r/\ ∃vs,nD p x.res=ahi vs/\Q r (results1 vs) p.aA p.fz:=by
  intro st p xa w' y' h he;cases hr:yE st x.res with
  |none=>rw [hr] at he;cases he
  |some vs=>rw [hr] at he;obtain ⟨q,h1,h2⟩:=Hb h hr;obtain ⟨r,h3,h4⟩:=hk _ _ _ _ _ _ _ _ (J' h2) h.aA he;exact ⟨r,h3,q,h1,by rw [h.fz];exact h4⟩
 obtain ⟨r,hr,Il⟩:=PC Du Ik x.code R' (Q:=fun r=>HD x fun p xb z'=>Q r p xb z') (p:={env:=uu 0 pa,aA:=ps,fz:=z,kn:=ahh ps}) (fun e st p xa w' y' h he=>by
  cases e with
  |normal=>exact fin st p xa w' y' h he
  |ret=>exact fin st p xa w' y' h he
  |exit i=>cases he) ⟨J9 0 ha,hS,rfl,hS.len⟩ he
 exact ⟨r,hr,zD.of hf (by rw [ha.mI];exact hn) Il⟩
theorem Io {α:Type} {l m r:List α} {i:Int} (h:H0 l i m=ahi r):0<=i/\i.toNat<=ahh l/\ahh m=1/\ahh l+1<=1048576/\r=l.take i.toNat++m++l.drop i.toNat:=by
 unfold H0 at h;split at h
 · rename_i hc
   injection h with h;exact ⟨hc.1,hc.2.1,hc.2.2.1,hc.2.2.2,h.symm⟩
 cases h
theorem PD {e:Nat} {args:List SV} {s:List SB} {z:List Nat} {a:aiB} (h:UG e args s z=ahi a):
 ∃x u x2 m,args=[.own a.t x,.int .i64 a.i,.own u x2]/\nth s a.t=ahi (.arr a.r a.l)/\nth s u=ahi (.arr a.r m)/\a.m=m/\ahh a.r=e/\UV a.t u=ahl/\has z a.t=ahl:=by
 unfold UG at h;split at h
 case h_2=>cases h
 split at h
 case h_2=>cases h
 split at h
 case h_2=>cases h
 split at h
 case h_2=>cases h
 rename_i m' hm;cases hc:(UV _ e&&_&&_) with
 |false=>rw [hc] at h;cases h
 |true=>rw [hc] at h;injection h with h;subst h;simp only [ww,abI,aaj] at hc;obtain ⟨rfl,rfl⟩:=oH hm;exact ⟨_,_,_,_,rfl,by assumption,by assumption,rfl,hc.1.1,hc.1.2,hc.2⟩
theorem Mg {e:Nat} {f:FuncId} (hf:F f=ahi (.OH (Qw e))) {R':Type} {args:List SV} {s:List SB} {z:List Nat} {k:SV->List SB->List Nat->fZ R'} {ρ:Type} {w:R'->ρ} {y:ρ} {pa:List PV} {ps:bW}
 {Q:R'->PV->bW->List Nat->Prop} (ha:RL s args pa) (hS:cj s ps) (he:ab2 e args s z k ρ w=ahi y)
 (hk: ∀v s' z' p xb xa (w':R'->xa) y',R s' v p->cj s' xb->k v s' z' xa w'=ahi y'-> ∃r,y'=w' r/\Q r p xb z'): ∃r,y=w r/\zD F f pa ps z (fun p xb z'=>Q r p xb z'):=by
 unfold ab2 at he;cases hA:UG e args s z with
 |none=>rw [hA] at he;cases he
 |some a=>
 rw [hA] at he;dsimp only at he;obtain ⟨l',hl,he⟩:=cq he;obtain ⟨x,u,x2,m0,rfl,ht,hu,hm,TP,htu,hz⟩:=PD hA;obtain ⟨t,q,l,i,m⟩:=a;dsimp only at*;subst hm TP;obtain ⟨i0,il,m1,kY,rfl⟩:=Io hl;obtain ⟨p0,pr0,rfl,h0,ha⟩:=ha;obtain ⟨p1,pr1,rfl,h1,ha⟩:=ha;obtain ⟨p2,pr2,rfl,h2,ha⟩:=ha;obtain rfl:pr2=[]:=ha;obtain rfl:p1= .int .i64 i:=h1;have Nq:s[t]? =ahi (.arr q l):=by rw [<- bQ];exact ht
 have BJ:s[u]? =ahi (.arr q m):=by rw [<- bQ];exact hu
 obtain ⟨e0,n0,rfl,o0⟩:=h0;obtain ⟨e2,n2,rfl,o2⟩:=h2;obtain ⟨rfl,rfl⟩:e0=ahh q/\n0=(ahh l):=by
  rcases o0 with ⟨r1,l1,a,b,c⟩|a
  · rw [Nq] at a;injection a with a;injection a with a1 a2;subst a1;subst a2;exact ⟨b,c⟩
  rw [Nq] at a;cases a
 obtain ⟨rfl,rfl⟩:e2=ahh q/\n2=(ahh m):=by
  rcases o2 with ⟨r1,l1,a,b,c⟩|a
  · rw [BJ] at a;injection a with a;injection a with a1 a2;subst a1;subst a2;exact ⟨b,c⟩
  rw [BJ] at a;cases a
 obtain ⟨b1,zM,Ip⟩:=hS.at_ t _ Nq;obtain ⟨b2,TW,ack⟩:=hS.at_ u _ BJ;have Ip:b1= .arr (ahh q) (l.map (RT.pv q)):=Ip;have ack:b2= .arr (ahh q) (m.map (RT.pv q)):=ack;subst Ip ack;have bY:(BK [t] (s.set t .dead)).length=(ahh s):=by rw [vv];simp
 obtain ⟨L,hL⟩: ∃L,L=l.take i.toNat++m++l.drop i.toNat:=⟨_,rfl⟩;rw [<- hL] at he;have G:=Good.put hS (b:= .dead) (q:= .dead) (l:=[.arr q L]) (ql:=[.arr (ahh q) (L.map (RT.pv q))]) (v:= .own (ahh s) ahl)
  (p:= .own (ahh s) (ahh q) 0 (ahh L) (ahh L) ahl) (rd:=[]) Nq (.inr rfl) rfl rfl
  (fun j b hj=>by
   cases j with
   |zero=>simp at hj;subst hj;exact ⟨_,rfl,rfl⟩
   |succ j=>simp at hj)
  ⟨ahh q,ahh L,rfl,.inl ⟨q,L,by rw [<- bY];exact mh,rfl,rfl⟩⟩
 have zJ:(ahh L)=ahh l+1:=by rw [hL];simp only [abK,aav,ah8,m1];omega
 obtain ⟨rr,hr,hq⟩:=hk _ _ _ _ _ _ _ _ G.v G.aA he;refine ⟨rr,hr,1,_,_,_,?_,hq⟩;rw [kf];have k8:PP (ahh l+1) lI=ahk:=by simp [lI];omega
 have Li:PP i.toNat (ahh l)=ahk:=by simpa using il
 have hLm:L.map (RT.pv q)=(l.map (RT.pv q)).take i.toNat++m.map (RT.pv q)++(l.map (RT.pv q)).drop i.toNat:=by rw [hL,aaS,aaS,aaw,abe]
 simp [step,hf,Qw,zM,TW,m1,htu,hz,i0,k8,il,zJ,hS.len,fR,sD,hLm]
theorem PE {α:Type} {l m r:List α} (h:abV l m=ahi r):1<=ahh l+ahh m/\ahh l+ahh m<=1048576/\r=l++m:=by
 unfold abV at h;split at h
 · rename_i hc
   injection h with h;exact ⟨hc.1,hc.2,h.symm⟩
 cases h
theorem PF {args:List SV} {s:List SB} {z:List Nat} {a:aiC} (h:UH args s z=ahi a):
 ∃cap x m,args=[.part a.t 0 2 cap x]/\nth s a.t=ahi (.box [.sl a.r a.l,.sl a.r m])/\a.m=m/\ahh a.r=1/\has z a.t=ahl:=by
 unfold UH at h;split at h
 case h_2=>cases h
 split at h
 case h_2=>cases h
 split at h
 case h_2=>cases h
 rename_i m' hm;cases hc:(UV _ 1&&UV _ 0&&UV _ 2&&_) with
 |false=>rw [hc] at h;cases h
 |true=>rw [hc] at h;injection h with h;subst h;simp only [ww,abI,aaj] at hc;obtain ⟨rfl,rfl⟩:=oH hm;obtain ⟨⟨⟨h1,rfl⟩,rfl⟩,h2⟩:=hc;exact ⟨_,_,_,rfl,by assumption,rfl,h1,h2⟩
theorem Hc {r:List PT} (h:(ahh r)=1) (l:List (RT r)):BP (l.map (RT.pv r))=ahk:=by
 unfold BP;rw [aaA];intro x hx;obtain ⟨a,_,rfl⟩:=agS.1 hx
 match r,h with
 | [p],_=>show (UV [p.pv a].length 1&&[p.pv a].all PV.plain)=ahk;cases p<;>rfl
theorem Mh {f:FuncId} (hf:F f=ahi (.OH abk)) {R':Type} {args:List SV} {s:List SB} {z:List Nat} {k:SV->List SB->List Nat->fZ R'} {ρ:Type} {w:R'->ρ} {y:ρ} {pa:List PV} {ps:bW}
 {Q:R'->PV->bW->List Nat->Prop} (ha:RL s args pa) (hS:cj s ps) (he:ab3 args s z k ρ w=ahi y)
 (hk: ∀v s' z' p xb xa (w':R'->xa) y',R s' v p->cj s' xb->k v s' z' xa w'=ahi y'-> ∃r,y'=w' r/\Q r p xb z'): ∃r,y=w r/\zD F f pa ps z (fun p xb z'=>Q r p xb z'):=by
 unfold ab3 at he;cases hA:UH args s z with
 |none=>rw [hA] at he;cases he
 |some a=>
 rw [hA] at he;dsimp only at he;obtain ⟨l',hl,he⟩:=cq he;obtain ⟨cap,x,m0,rfl,ht,hm,TP,hz⟩:=PF hA;obtain ⟨t,q,l,m⟩:=a;dsimp only at*;subst hm;obtain ⟨hp,kY,rfl⟩:=PE hl;obtain ⟨p0,pr0,rfl,h0,ha⟩:=ha;obtain rfl:pr0=[]:=ha;have Nq:s[t]? =ahi (.box [.sl q l,.sl q m]):=by rw [<- bQ];exact ht
 obtain ⟨e0,rfl,o0⟩:=h0;obtain rfl:e0=1:=by
  rcases o0 with ⟨r1,l1,a,b⟩|a|⟨_,a,b⟩
  · rw [Nq] at a;cases a
  · rw [Nq] at a;cases a
  exact b
 obtain ⟨b1,zM,Ip⟩:=hS.at_ t _ Nq;obtain ⟨ps1,rfl,p1,q1,rfl,hp1,p2,q2,rfl,hp2,rfl⟩:=Ip;have hp1:p1= .sl (ahh q) ahl (l.map (RT.pv q)):=hp1;have hp2:p2= .sl (ahh q) ahl (m.map (RT.pv q)):=hp2;subst hp1 hp2;have bY:(BK [t] (s.set t .dead)).length=(ahh s):=by rw [vv];simp
 obtain ⟨L,hL⟩: ∃L,L=l++m:=⟨_,rfl⟩;rw [<- hL] at he;have G:=Good.put hS (b:= .dead) (q:= .dead) (l:=[.arr q L]) (ql:=[.arr (ahh q) (L.map (RT.pv q))]) (v:= .own (ahh s) ahl)
  (p:= .own (ahh s) (ahh q) 0 (ahh L) (ahh L) ahl) (rd:=[]) Nq (.inr rfl) rfl rfl
  (fun j b hj=>by
   cases j with
   |zero=>simp at hj;subst hj;exact ⟨_,rfl,rfl⟩
   |succ j=>simp at hj)
  ⟨ahh q,ahh L,rfl,.inl ⟨q,L,by rw [<- bY];exact mh,rfl,rfl⟩⟩
 have zJ:(ahh L)=ahh l+(ahh m):=by rw [hL];simp
 obtain ⟨rr,hr,hq⟩:=hk _ _ _ _ _ _ _ _ G.v G.aA he;refine ⟨rr,hr,1,_,_,_,?_,hq⟩;rw [kf];have k8:PP (ahh l+ahh m) lI=ahk:=by simp [lI];omega
 have zI:PP 1 (ahh l+ahh m)=ahk:=by simpa using hp
 have hLm:L.map (RT.pv q)=l.map (RT.pv q)++m.map (RT.pv q):=by rw [hL,aaS]
 have hc:(UV 1 1&&UV 0 0&&UV 2 2&&!has z t&&BP (l.map (RT.pv q))&&BP (m.map (RT.pv q))&&PP 1 ((l.map (RT.pv q)).length+(m.map (RT.pv q)).length)&&PP ((l.map (RT.pv q)).length+(m.map (RT.pv q)).length) lI&&(UV (ahh q) 1||(l.map (RT.pv q)).isEmpty)&&(UV (ahh q) 1||(m.map (RT.pv q)).isEmpty))=ahk:=by rw [Hc TP,Hc TP,hz,aap,aap,zI,k8,TP];rfl
 simp only [step,hf];unfold abk
 dsimp only;rw [zM];dsimp only;rw [hc];simp [hS.len,fR,sD,hLm,zJ,TP]
theorem Ka: ∀(p:PT) (a:p.T),AZ p (p.pv a)=ahi a
 | .i k,a=>by have:eZ k k=ahk:=eH.2 rfl;simp [AZ,PT.pv,this]
 | .b,a=>rfl
theorem NT: ∀(r:List PT) (a:RT r),Gt r (RT.pv r a)=ahi a
 | [],a=>rfl
 | [p],a=>Ka p a
 |p::q::r,a=>by
  show (match AZ p (p.pv a.1),Gt (q::r) (RT.pv (q::r) a.2) with
   |some a,ahi b=>ahi (a,b)
   |_,_=>ahj)=_
  rw [Ka,NT (q::r)]
theorem Fe (r:List PT): ∀l:List (RT r),A0 r (l.map (RT.pv r))=ahi l
 | []=>rfl
 |a::l=>by
  show (match Gt r (RT.pv r a),A0 r (l.map (RT.pv r)) with
   |some a,ahi l=>ahi (a::l)
   |_,_=>ahj)=_
  rw [NT,Fe r l]
theorem U4 {s:List SB} {g:Option FuncId} {a:List SV} {p:List PV} (h:C1 g a=ahk) (hr:RL s a p):UD g p=ahk:=by
 unfold C1 at h;split at h
 · obtain rfl:p=[]:=hr
   rfl
 · obtain ⟨p0,pr,rfl,h0,hr⟩:=hr
   obtain rfl:pr=[]:=hr;obtain ⟨x,y,rfl,hx,hy⟩:=h0;obtain rfl:x=[]:=hx;obtain rfl:y=[]:=hy;exact h
 cases h
theorem PG {r:List PT} {g:Option FuncId} {args:List SV} {s:List SB} {z:List Nat} {t:Nat} {o:Option Nat} {l:List (RT r)} (h:UI r g args s z=ahi (t,o,l)):
 ∃x a,args=x::a/\nth s t=ahi (.arr r l)/\has z t=ahl/\C1 g a=ahk/\((o=ahj/\ ∃ex,x= .own t ex)\/ ∃len cap ex,o=ahi len/\x= .pre t len cap ex):=by
 unfold UI at h;split at h
 · split at h
   · split at h
     · rename_i hm
       cases hc:(!has z _&&C1 g _) with
       |false=>rw [hc] at h;cases h
       |true=>rw [hc] at h;simp only [lw,If,aai] at h;obtain ⟨rfl,rfl,rfl⟩:=h;simp only [ww,aaj] at hc;obtain ⟨rfl,rfl⟩:=oH hm;exact ⟨_,_,rfl,by assumption,hc.1,hc.2,.inl ⟨rfl,_,rfl⟩⟩
     cases h
   cases h
 · split at h
   · split at h
     · rename_i hm
       cases hc:(!has z _&&C1 g _) with
       |false=>rw [hc] at h;cases h
       |true=>rw [hc] at h;simp only [lw,If,aai] at h;obtain ⟨rfl,rfl,rfl⟩:=h;simp only [ww,aaj] at hc;obtain ⟨rfl,rfl⟩:=oH hm;exact ⟨_,_,rfl,by assumption,hc.1,hc.2,.inr ⟨_,_,_,rfl,rfl⟩⟩
     cases h
   cases h
 cases h
theorem Mi {α:Type} {f:List α->Option (List α)} {l m:List α} (h:EF f l=ahi m):(ahh l)<=1048576/\f l=ahi m/\ahh m=(ahh l):=by
 unfold EF at h;split at h
 · rename_i hl
   split at h
   · rename_i m' hm
     split at h
     · rename_i he
       injection h with h;subst h;exact ⟨hl,hm,he⟩
     cases h
   cases h
 cases h
theorem Iq {α:Type} {f:List α->Option (List α)} {n:Nat} {l m:List α} (h:H3 f n l=ahi m):n<=ahh l/\ ∃m',EF f (l.take n)=ahi m'/\m=m'++l.drop n:=by
 unfold H3 at h;split at h
 · rename_i hn
   cases hm:EF f (l.take n) with
   |none=>rw [hm] at h;cases h
   |some m'=>rw [hm] at h;injection h with h;exact ⟨hn,m',rfl,h.symm⟩
 cases h
theorem Mj {q:Srt} {f:FuncId} (hf:F f=ahi (.OH (Rx q))) {R':Type} {args:List SV} {s:List SB} {z:List Nat} {k:SV->List SB->List Nat->fZ R'} {ρ:Type} {w:R'->ρ} {y:ρ} {pa:List PV} {ps:bW}
 {Q:R'->PV->bW->List Nat->Prop} (ha:RL s args pa) (hS:cj s ps) (he:ab4 q args s z k ρ w=ahi y)
 (hk: ∀v s' z' p xb xa (w':R'->xa) y',R s' v p->cj s' xb->k v s' z' xa w'=ahi y'-> ∃r,y'=w' r/\Q r p xb z'): ∃r,y=w r/\zD F f pa ps z (fun p xb z'=>Q r p xb z'):=by
 have key: ∀(t len:Nat) (l m':List (RT q.r)) (ex:Bool) (cap:Nat) (pr:List PV) (a:List SV),s[t]? =ahi (.arr q.r l)->has z t=ahl->C1 q.g a=ahk->RL s a pr->pa= .own t (ahh q.r) 0 len cap ex::pr->len<=ahh l->EF q.fn (l.take len)=ahi m'->
  k (.bS []) (fJ.na s {v:= .bS [],wr:=[(t,.arr q.r (m'++l.drop len))]}) z ρ w=ahi y-> ∃r,y=w r/\zD F f pa ps z (fun p xb z'=>Q r p xb z'):=by
  intro t len l m' ex cap pr a ht hz hg har Lv bY Dp he;subst Lv;obtain ⟨s1,s2,s3⟩:=Mi Dp;obtain ⟨b1,zM,Ip⟩:=hS.at_ t _ ht;have Ip:b1= .arr (ahh q.r) (l.map (RT.pv q.r)):=Ip;subst Ip;have zJ:(l.take len).length=len:=by rw [aav];omega
  have y6:(m'++l.drop len).length=(ahh l):=by rw [abK,ah8,s3,zJ];omega
  have G:=Good.put hS (b:= .arr q.r (m'++l.drop len)) (q:= .arr (ahh q.r) ((m'++l.drop len).map (RT.pv q.r))) (l:=[]) (ql:=[]) (v:= .bS []) (p:= .bS []) (rd:=[]) ht (.inl ⟨_,rfl,y6⟩) rfl rfl
   (fun j b hj=>by simp at hj) ⟨[],rfl,rfl⟩
  obtain ⟨rr,hr,hq⟩:=hk _ _ _ _ _ _ _ _ G.v G.aA he;refine ⟨rr,hr,1,_,_,_,?_,hq⟩;rw [kf];have hg':=U4 hg har;have hrt:A0 q.r ((l.map (RT.pv q.r)).take len)=ahi (l.take len):=by rw [<- aaw];exact Fe q.r _
  have Li:PP len (ahh l)=ahk:=by simpa using bY
  have hmo:PP len lI=ahk:=by simp [lI];omega
  have hbe:UV (ahh m') (l.take len).length=ahk:=by rw [s3];exact aas _
  simp only [step,hf,Rx,zM,aap,aas,Li,hmo,hz,hg',hrt,s2,hbe,ab0,abr,if_true,Option.map_some,fR,sD,aaS,abe]
 unfold ab4 at he;cases hA:UI q.r q.g args s z with
 |none=>rw [hA] at he;cases he
 |some u=>
  obtain ⟨t,o,l⟩:=u;rw [hA] at he;obtain ⟨x,a,rfl,ht,hz,hg,h⟩:=PG hA;obtain ⟨p0,pr,rfl,h0,ha⟩:=ha;rw [bQ] at ht;rcases h with ⟨rfl,ex,rfl⟩|⟨len,cap,ex,rfl,rfl⟩
  · obtain ⟨m,hm,he⟩:=cq he
    obtain ⟨e0,n0,rfl,o0⟩:=h0;obtain ⟨rfl,rfl⟩:e0=ahh q.r/\n0=(ahh l):=by
     rcases o0 with ⟨r1,l1,a,b,c⟩|a
     · rw [ht] at a;injection a with a;injection a with a1 a2;subst a1;cases a2;exact ⟨b,c⟩
     rw [ht] at a;cases a
    refine key t (ahh l) l m ex (ahh l) pr a ht hz hg ha rfl (acr _) (by rw [List.take_length];exact hm) ?_;rw [List.drop_length,aam];exact he
  obtain ⟨m,hm,he⟩:=cq he
  obtain ⟨e0,rfl,o0⟩:=h0;obtain rfl:e0=(ahh q.r):=by
   rcases o0 with ⟨r1,l1,a,b⟩|a|⟨_,a,_⟩
   · rw [ht] at a;injection a with a;injection a with a1 a2;subst a1;exact b
   · rw [ht] at a;cases a
   rw [ht] at a;cases a
  obtain ⟨hn,m',Dp,rfl⟩:=Iq hm;exact key t len l m' ex cap pr a ht hz hg ha rfl hn Dp he
theorem Ir (Du:mi F cx): ∀n,J6 F (RD cx n)
 |0=>fun f args s z R' k ρ w y pa ps Q _ _ h _=>by cases h
 |n+1=>fun f args s z R' k ρ w y pa ps Q ha hS h hk=>by
  simp only [RD] at h;cases hx:cx.code f with
  |none=>rw [hx] at h;cases h
  |some x=>
   rw [hx] at h;cases x with
   |code x=>exact xQ Du (Ir Du n) (Du.code f _ hx) ha hS h hk
   |ins e=>exact Mg (Du.code f _ hx) ha hS h hk
   |srt q=>exact Mj (Du.code f _ hx) ha hS h hk
   |cat=>exact Mh (Du.code f _ hx) ha hS h hk
def U5:Kd->Bool->Bool
 | .own,b=>b
 |_,b=>!b
def Sb (kd:Kd) {β:Type} (res:Arg β) (b:β) (p:PV) (ps:bW) (z:List Nat):Prop:=
 match kd with
 | .pure=>p.jt=ahk/\qS (res.enc b)=ahi p
 | .uj=>p.jt=ahl/\ ∃q,w5 ps p=ahi q/\qS (res.enc b)=ahi q
 | .own=> ∀nx,∃p0 p' q seen,yY ps z nx [] p=ahi (p',q,seen)/\qS (res.enc b)=ahi p0/\Dt nx p0=ahi (p',q)
mutual
theorem Kb {s:List SB}: ∀{v:SV} {p:PV},R s v p->zW v=ahk->qS v=ahi p
 | .int _ _,p,h,_| .bool _,p,h,_| .str _,p,h,_=>by rw [show p=_ from h];rfl
 | .agg cs,p,h,hn=>by obtain ⟨q,rfl,h⟩:=h;simp only [qS,Ff h hn]
 | .bS cs,p,h,hn=>by obtain ⟨q,rfl,h⟩:=h;simp only [qS,Ff h hn]
 | .gP,_,_,h| .undef,_,_,h| .jl,_,_,h| .dz,_,_,h| .sl _ _,_,_,h| .nil _ _,_,_,h| .own _ _,_,_,h| .pre _ _ _ _,_,_,h| .part _ _ _ _ _,_,_,h| .pa _ _ _ _ _,_,_,h| .pb _ _ _,_,_,h| .bp _ _ _,_,_,h| .bu _ _,_,_,h| .eh _ _ _,_,_,h| .mp _,_,_,h=>by cases h
theorem Ff {s:List SB}: ∀{v:List SV} {p:List PV},RL s v p->qQ v=ahk->oA v=ahi p
 | [],p,h,_=>by rw [show p=_ from h];rfl
 |x::xs,p,h,hn=>by obtain ⟨a,as,rfl,h1,h2⟩:=h.cons_inv;simp only [qQ,ww] at hn;exact dV.2 ⟨_,_,rfl,Kb h1 hn.1,Ff h2 hn.2⟩
end
theorem Mk {kd:Kd} {β:Type} {res:Arg β} {v:SV} {s:List SB} {z:List Nat} {p:PV} {ps:bW} {ρ:Type} {w:β->ρ} {y:ρ} (hv:R s v p) (hS:cj s ps) (h:RE kd res v s z ρ w=ahi y):
 ∃b,y=w b/\Sb kd res b p ps z:=by
 unfold RE at h;cases kd with
 |pure=>dsimp only at h;obtain ⟨h1,h2⟩:=cu h;obtain ⟨b,h3,h4⟩:=bB h2;injection h4 with h4;exact ⟨b,h4.symm,J4 hv h1,res.law h3 (Kb hv h1)⟩
 |uj=>dsimp only at h;obtain ⟨h1,h2⟩:=ry h;obtain ⟨u,h3,h4⟩:=bB h2;obtain ⟨b,h5,h6⟩:=bB h4;injection h6 with h6;obtain ⟨q,h7,h8⟩:=aa0 hS hv h3;exact ⟨b,h6.symm,G5 hv h1 h3,q,h7,res.law h5 h8⟩
 |own=>dsimp only at h;obtain ⟨u,h3,h4⟩:=bB h;obtain ⟨b,h5,h6⟩:=bB h4;injection h6 with h6;refine ⟨b,h6.symm,fun nx=>?_⟩;obtain ⟨p0,p',q,h7,h8,h9⟩:=R4 hS (v':=u.1) (seen':=u.2) nx hv h3;exact ⟨p0,p',q,u.2,h9,res.law h5 h7,h8⟩
theorem cj.nil:cj [] []:=⟨rfl,fun t b h=>by simp at h⟩
theorem cQ.of {f:FuncId} {x:aK} {α β:Type} {args:au α} {res:Arg β} {kd:Kd} {fn:α->Option β} {ow:Bool} (hf:F f=ahi (.code x)) (ho:U5 kd ow=ahk) (Du:mi F cx)
 (h: ∀a,aaU cx x args res kd a=fn a):cQ F f ⟨args,res,fn,kd,ow⟩:=by
 intro a b as pa aA fz hb Lv hex;have hb:fn a=ahi b:=hb;rw [<- h a] at hb;obtain ⟨r,hr,n,v,s,z,bI,hl⟩:=xQ Du (Ir Du 8) hf (Q:=fun r p ps z=>Sb kd res r p ps z) (E8 Lv) cj.nil hb (fun v s' z' p xb xa w' y' hv hS hk=>Mk hv hS hk);have hr':b=r:=hr;subst hr';cases kd with
 |pure=>
  obtain ⟨h1,h2⟩:=hl;have how:ow=ahl:=by simpa [U5] using ho
  subst how;refine ⟨n,{v:=v,rd:=cW (cK aA deep) as},?_,v,h2,rfl⟩;simp only [cC,hex,hf,bI,aa2,if_false,h1,if_true]
 |uj=>
  obtain ⟨h1,q,h2,h3⟩:=hl;have how:ow=ahl:=by simpa [U5] using ho
  subst how;refine ⟨n,{v:=q,rd:=cW (cK aA deep) as,fr:=cW (cK aA deep) as},?_,q,h3,rfl⟩;simp only [cC,hex,hf,bI,aa2,if_false,h1,h2]
 |own=>have how:ow=ahk:=ho;subst how;obtain ⟨p0,p',q,seen,h1,h2,h3⟩:=hl (ahh aA);refine ⟨n,{v:=p',news:=q,rd:=cW (cK aA deep) as},?_,p0,p',q,h2,h3,rfl⟩;simp only [cC,hex,hf,bI,if_true,h1]
theorem Kc: ∀(s:List SB) (q:List w9),(zY s q).1.length=ahh s
 | [],q=>rfl
 |b::r,q=>by simp only [zY,aak,Kc r]
mutual
theorem R.take {s:List SB} {k:Nat}: ∀{v:SV} {p:PV},R s v p->(∀t∈LV sC v,t<k)->R (s.take k) v p
 | .gP,_,_,_=>trivial
 | .undef,_,h,_| .jl,_,h,_| .dz,_,h,_| .int _ _,_,h,_| .bool _,_,h,_| .str _,_,h,_| .sl _ _,_,h,_| .nil _ _,_,h,_| .bp _ _ _,_,h,_| .mp _,_,h,_=>h
 | .agg cs,_,h,ht=>by obtain ⟨q,rfl,h⟩:=h;exact ⟨q,rfl,RL.Fg h ht⟩
 | .bS cs,_,h,ht=>by obtain ⟨q,rfl,h⟩:=h;exact ⟨q,rfl,RL.Fg h ht⟩
 | .bu cs o,_,h,ht=>by obtain ⟨q,rfl,h⟩:=h;exact ⟨q,rfl,RL.Fg h ht⟩
 | .eh f a b,_,h,ht=>by obtain ⟨pa,pb,rfl,h1,h2⟩:=h;exact ⟨pa,pb,rfl,RL.Fg h1 (fun t h=>ht t (abx _ h)),RL.Fg h2 (fun t h=>ht t (abq _ h))⟩
 | .own t ex,_,h,ht=>by
  obtain ⟨e,n,rfl,cJ⟩:=h;have hk:=ht t (abj.2 rfl);refine ⟨e,n,rfl,?_⟩;rcases cJ with ⟨r,l,h1,h2,h3⟩|h1
  · exact .inl ⟨r,l,by rw [M2 hk];exact h1,h2,h3⟩
  exact .inr (by rw [M2 hk];exact h1)
 | .pre t a b c,_,h,ht=>by
  obtain ⟨e,rfl,cJ⟩:=h;have hk:=ht t (abj.2 rfl);refine ⟨e,rfl,?_⟩;rcases cJ with ⟨r,l,h1,h2⟩|h1
  · exact .inl ⟨r,l,by rw [M2 hk];exact h1,h2⟩
  exact .inr (by rw [M2 hk];exact h1)
 | .part t o a b c,_,h,ht=>by
  obtain ⟨e,rfl,cJ⟩:=h;have hk:=ht t (abj.2 rfl);refine ⟨e,rfl,?_⟩;rcases cJ with ⟨r,l,h1,h2⟩|h1
  · exact .inl ⟨r,l,by rw [M2 hk];exact h1,h2⟩
  exact .inr (by rw [M2 hk];exact h1)
 | .pa t r i a o,_,h,ht=>by
  obtain ⟨rfl,cJ⟩:=h;have hk:=ht t (abg ..);refine ⟨rfl,?_⟩;rcases cJ with ⟨l,h1,h2⟩|h1
  · exact .inl ⟨l,by rw [M2 hk];exact h1,h2⟩
  exact .inr (by rw [M2 hk];exact h1)
 | .pb t i o,_,h,ht=>by
  obtain ⟨e,rfl,cJ⟩:=h;have hk:=ht t (abg ..);refine ⟨e,rfl,?_⟩;rcases cJ with ⟨r,l,h1,h2⟩|h1
  · exact .inl ⟨r,l,by rw [M2 hk];exact h1,h2⟩
  exact .inr (by rw [M2 hk];exact h1)
theorem RL.Fg {s:List SB} {k:Nat}: ∀{v:List SV} {p:List PV},RL s v p->(∀t∈qP sC v,t<k)->RL (s.take k) v p
 | [],_,h,_=>h
 |x::xs,_,h,ht=>by obtain ⟨a,as,rfl,h1,h2⟩:=h.cons_inv;exact RL.cons (R.take h1 (fun t h=>ht t (abx _ h))) (RL.Fg h2 (fun t h=>ht t (abq _ h)))
end
theorem Fh {R' ρ:Type} {w:R'->ρ} {y:ρ}: ∀{s s':List SB} {k:fZ R'},A1 s s' k ρ w=ahi y->k ρ w=ahi y/\ahh s'=ahh s/\ ∀(t:Nat) (x z:SB),s[t]? =ahi x->s'[t]? =ahi z->R6 x z
 | [],[],k,h=>⟨h,rfl,fun t x z h=>by simp at h⟩
 | [],_::_,k,h=>by cases h
 |_::_,[],k,h=>by cases h
 |x::xs,y'::ys,k,h=>by
  have step: ∀(_:A1 xs ys k ρ w=ahi y) (_:R6 x y'),k ρ w=ahi y/\(y'::ys).length=(x::xs).length/\ ∀(t:Nat) (a b:SB),(x::xs)[t]? =ahi a->(y'::ys)[t]? =ahi b->R6 a b:=by
   intro h hx;obtain ⟨h1,h2,h3⟩:=Fh h;refine ⟨h1,by simpa using h2,fun t a b ha hb=>?_⟩;cases t with
   |zero=>simp at ha hb;subst ha hb;exact hx
   |succ t=>exact h3 t a b (by simpa using ha) (by simpa using hb)
  cases x with
  |arr r l=>
   cases y' with
   |arr q m=>obtain ⟨hr,h2⟩:=cu (a:=fQ (ahh m==ahh l) (A1 xs ys k) aM) h;obtain ⟨hl,h3⟩:=hM h2;exact step h3 ⟨uF hr,by simpa using hl⟩
   |_=>cases h
  |dead=>cases y' with
   |dead=>exact step h trivial
   |_=>cases h
  |box cs=>cases y' with
   |box _=>exact step h trivial
   |_=>cases h
  |set l=>cases y' with
   |set _=>exact step h trivial
   |_=>cases h
  |bD p l=>cases y' with
   |bD _ _=>exact step h trivial
   |_=>cases h
theorem Fi: ∀{s:List SB},EP s=ahk-> ∀(t:Nat) (b:SB),s[t]? =ahi b->yD b=ahk
 | [],_,t,b,h=>by simp at h
 |x::xs,hs,0,b,h=>by simp only [EP,ww] at hs;simp at h;subst h;exact hs.1
 |x::xs,hs,t+1,b,h=>by simp only [EP,ww] at hs;exact Fi hs.2 t b (by simpa using h)
theorem qU.of {f:FuncId} {x:aK} {wd:Bool} {ka ko:List AK} {ta:List SV} {tb to:List SB} {tv:SV} {fn:gT ka->Option (gT ko)} (hf:F f=ahi (.code x)) (Du:mi F cx)
 (h: ∀a,amh wd cx x ka ta tb ko tv to a=fn a):qU F f ⟨ka,ta,tb,ko,tv,to,fn⟩:=by
 intro a b pa ps hb ha hS;rw [show (⟨ka,ta,tb,ko,tv,to,fn⟩:ff).fn a=fn a from rfl,<- h a] at hb;have bY:(ff.sa ⟨ka,ta,tb,ko,tv,to,fn⟩ a).length=(ahh tb):=Kc _ _;obtain ⟨r,hr,n,v,s,z,bI,hz,hq⟩:=xQ Du (Ir Du 8) hf (Q:=fun (r:gT ko) p xb z'=>z'=[]/\gZ (ahh tb) p xb=ahk/\
  R (ff.sb ⟨ka,ta,tb,ko,tv,to,fn⟩ r) (ff.vb ⟨ka,ta,tb,ko,tv,to,fn⟩ r) p/\cj (ff.sb ⟨ka,ta,tb,ko,tv,to,fn⟩ r) (xb.take (ahh tb))/\
  (ff.sb ⟨ka,ta,tb,ko,tv,to,fn⟩ r).length=(ff.sa ⟨ka,ta,tb,ko,tv,to,fn⟩ a).length/\
  ∀(t:Nat) (x y:SB),(ff.sa ⟨ka,ta,tb,ko,tv,to,fn⟩ a)[t]? =ahi x->(ff.sb ⟨ka,ta,tb,ko,tv,to,fn⟩ r)[t]? =ahi y->R6 x y) ha hS hb (fun v s' z' p xb xa w' y' hv hS' hk=>by
  cases z' with
  |cons _ _=>cases hk
  |nil=>
   dsimp only at hk;obtain ⟨hc,hk⟩:=cu hk;simp only [ww] at hc;obtain ⟨⟨⟨⟨c1,c2⟩,c3⟩,c4⟩,c5⟩:=hc;obtain ⟨hk,f1,f2⟩:=Fh hk;obtain ⟨r,hr,hk⟩:=bB hk;injection hk with hk;have hu:R s' (bif wd then GV s' v else v) p:=by
    cases wd with
    |true=>exact NM hv
    |false=>exact hv
   generalize (bif wd then GV s' v else v)=u at c1 c3 c4 hr hu;have Ek:=oJ hr;have hvb:ff.vb ⟨ka,ta,tb,ko,tv,to,fn⟩ r=u:=by show (sH tv (kQ ko r)).1=u;rw [Ek,DQ _ c1]
   have hsb:ff.sb ⟨ka,ta,tb,ko,tv,to,fn⟩ r=s'.take (ahh tb):=by show (zY to (sH tv (kQ ko r)).2).1=_;rw [Ek,DQ _ c1];have:=Ba [] c2;rw [aam] at this;rw [this]
   have kY:(ahh tb)<=(ahh s'):=by
    have:=f1;rw [aav] at this;have h2:(ff.sa ⟨ka,ta,tb,ko,tv,to,fn⟩ a).length=(ahh tb):=bY;have h3:min (ahh tb) (ahh s')=(ahh tb):=by rw [this];exact h2
    omega
   unfold aaT at c3;rw [aaA] at c3;have hkv: ∀t∈LV sC u,t<(ahh tb):=fun t ht=>by simpa using c3 t (abx _ ht)
   have hkb: ∀b∈s'.take (ahh tb),∀t∈EI b,t<(ahh tb):=fun b hb t ht=>by simpa using c3 t (abq _ (ah9.2 ⟨b,hb,ht⟩))
   have pO:cj (s'.take (ahh tb)) (xb.take (ahh tb)):=⟨by simp [hS'.len],fun t x hx=>by
    have df:t<(ahh tb):=by have:=(AC.1 hx).1;rw [aav] at this;omega
    have hx':=hx;rw [M2 df] at hx';obtain ⟨q,q1,q2⟩:=hS'.at_ t x hx';refine ⟨q,by rw [M2 df];exact q1,?_⟩;cases x with
    |box cs=>obtain ⟨pc,rfl,hpc⟩:=q2;exact ⟨pc,rfl,RL.Fg hpc (hkb _ (ab1 hx))⟩
    |_=>exact q2⟩
   refine ⟨r,hk.symm,rfl,?_,by rw [hvb,hsb];exact R.take hu hkv,by rw [hsb];exact pO,by rw [hsb];exact f1,by rw [hsb];exact f2⟩;unfold gZ;rw [aaA];intro t ht;rw [ahc] at ht;rcases ht with ht|ht
   · rw [<- RY (bx:=sC) (fun _=>rfl) hu c4] at ht
     simpa using hkv t ht
   rw [ah9] at ht
   obtain ⟨q,hq,ht⟩:=ht;obtain ⟨j,hj,he⟩:=abz hq;have Lo:j<(s'.take (ahh tb)).length:=by rw [<- pO.len];exact hj
   obtain ⟨x,hx⟩: ∃x,(s'.take (ahh tb))[j]? =ahi x:=⟨_,IR Lo⟩;obtain ⟨q',q1,q2⟩:=pO.at_ j x hx;rw [IR hj,he] at q1;injection q1 with q1;subst q1;rw [<- Ie q2 (Fi c5 j x hx)] at ht;simpa using hkb x (ab1 hx) t ht)
 have hr':b=r:=hr;subst hr';subst hz;refine ⟨n,v,s,bI,?_⟩;rw [bY];obtain ⟨h1,h2,h3,h4,h5⟩:=hq;exact ⟨h1,h2,h3,by rw [h4,bY],h5⟩
theorem Ml {f:FuncId} {r:List PT} (hf:F f=ahi (.iZ ahl (fk (ahh r)))) (l:List (RT r)) (hl:(ahh l)<=1048576) {as:List PV} {aA:bW} {fz:List Nat} (hex:BH aA (wU aA deep) as=ahi [.sl (ahh r) ahl (l.map (RT.pv r))]):
 ∃n x,cC F (run F n) ahl f as aA fz=ahi x/\aa1 .own (ahh aA) (cW (cK aA deep) as) (.sl r l) x:=by
 refine ⟨0,{v:= .own (ahh aA) (ahh r) 0 (ahh l) (ahh l) ahl,news:=[.arr (ahh r) (l.map (RT.pv r))],rd:=cW (cK aA deep) as},?_,.sl (ahh r) ahl (l.map (RT.pv r)),.own (ahh aA) (ahh r) 0 (ahh l) (ahh l) ahl,[.arr (ahh r) (l.map (RT.pv r))],rfl,by simp only [Dt,aap],rfl⟩;simp only [cC,hex,hf];cases l with
 |nil=>rfl
 |cons a l=>
  have h2:PP ((l.map (RT.pv r)).length+1) lI=ahk:=by simp [lI] at hl ⊢;omega
  simp only [aaq,fk,aas,h2,aar,if_true,yY];simp [has]
theorem cQ.clone {f:FuncId} {n:Nat} {r:List PT} (hf:F f=ahi (.iZ ahl (fk n))) (hn:n=ahh r):cQ F f (ru.clone r):=by
 intro (a:List (RT r)) (b:List (RT r)) as pa aA fz hb Lv hex;subst hn;have hb:bP a=ahi b:=hb;obtain ⟨rfl,hl⟩:=Aa hb;have Sc:pa=[.sl (ahh r) ahl (b.map (RT.pv r))]:=by have:ahi [PV.sl (ahh r) ahl (b.map (RT.pv r))]=ahi pa:=Lv;exact (aaV this).symm
 subst Sc;exact Ml hf b hl hex
theorem cQ.NG {f:FuncId} (hf:F f=ahi (.iZ ahl zB)):cQ F f ru.NG:=by
 intro a b as pa aA fz hb Lv hex;obtain ⟨x,y,c⟩:=a;have Av:oI x y c=ahi b:=hb;unfold oI at Av;cases hc:(ahm (0<=x)&&ahm (0<=y)&&ahm (0<=c)&&ahm (c<=1)) with
 |false=>rw [hc] at Av;cases Av
 |true=>
  rw [hc] at Av;injection Av with Av;subst Av;simp only [ww,decide_eq_true_eq] at hc;obtain ⟨⟨⟨h1,h2⟩,h3⟩,h4⟩:=hc;obtain ⟨x,rfl⟩:=aa9 h1;obtain ⟨y,rfl⟩:=aa9 h2;obtain ⟨c,rfl⟩:=aa9 h3;have Sc:pa=[.int .u64 (.ofNat x),.int .u64 (.ofNat y),.int .u64 (.ofNat c)]:=by have:ahi [PV.int .u64 (x:Int),.int .u64 (y:Int),.int .u64 (c:Int)]=ahi pa:=Lv;exact (aaV this).symm
  subst Sc;have hcb:PP c 1=ahk:=by simp;omega
  refine ⟨0,{v:= .bS [.int .u64 (.ofNat ((x+y+c)%18446744073709551616)),.int .u64 (.ofNat ((x+y+c) / 18446744073709551616))],rd:=cW (cK aA deep) as},?_,_,rfl,rfl⟩;show cC F (run F 0) ahl f as aA fz=_;simp only [cC,hex,hf,zB,hcb,if_true];rfl
theorem qU.zero {f:FuncId} {c:ff} (h: ∀a,c.fn a=ahj):qU F f c:=fun a b pa ps hb=>by rw [h a] at hb;cases hb
theorem cQ.zero {f:FuncId} {c:ru} (h: ∀a,c.fn a=ahj):cQ F f c:=fun a b as pa aA fz hb=>by rw [h a] at hb;cases hb
theorem cQ.at0 {f:FuncId} {fn:Unit->Option Bool} (h:cQ F f ⟨au.nil,Arg.bool,fn,.pure,ahl⟩) (hb:fn ()=ahi ahk):cQ F f ⟨au.nil,Arg.bool,fun _=>ahi ahk,.pure,ahl⟩:=by intro a b as args aA fz hr hp hx;obtain rfl:ahk=b:=aaV hr;exact h () ahk as args aA fz hb hp hx
end
end Go.Vm
/- What comes in to a law, as typed values; a law from a contract. -/
namespace Go.Vm
open Go.ChangeShapes Go.WideShapes Go.ChangeAt Go.RowKit
def PT.wf:(p:PT)->p.T->Prop
 | .i k,n=>(Lit.int k n).wf=ahk
 | .b,_=>True
def RT.wf:(r:List PT)->RT r->Prop
 | [],_=>True
 | [p],a=>p.wf a
 |p::q::r,a=>p.wf a.1/\RT.wf (q::r) a.2
def fK (r:List PT) (vs:List SV):Prop:= ∃a:RT r,vs=RT.sv r a/\RT.wf r a
def Ke (r:List PT) (vs:List SV):Prop:= ∃l:List (RT r),vs=[.sl r l]/\ ∀a∈l,RT.wf r a
def U6:List (List SV->Prop)->List SV->Prop
 | [],vs=>vs=[]
 |K::Ks,vs=> ∃a b,vs=a++b/\K a/\U6 Ks b
theorem fK.cons {p:PT}: ∀{r:List PT} {a b:List SV},fK [p] a->fK r b->fK (p::r) (a++b)
 | [],a,b,⟨x,hx,wx⟩,⟨y,hy,_⟩=>⟨x,by rw [hx,hy];rfl,wx⟩
 |q::r,a,b,⟨x,hx,wx⟩,⟨y,hy,wy⟩=>⟨(x,y),by rw [hx,hy];rfl,wx,wy⟩
theorem fK.split {p q:PT} {r:List PT} {vs:List SV}:fK (p::q::r) vs-> ∃a b,vs=a++b/\fK [p] a/\fK (q::r) b
 |⟨x,hx,wx⟩=>⟨[p.sv x.1],RT.sv (q::r) x.2,hx,⟨x.1,rfl,wx.1⟩,⟨x.2,rfl,wx.2⟩⟩
theorem fK.app: ∀{r s:List PT} {a b:List SV},fK r a->fK s b->fK (r++s) (a++b)
 | [],s,a,b,⟨x,hx,_⟩,h=>by have:a=[]:=hx;subst this;exact h
 | [p],s,a,b,h,k=>fK.cons h k
 |p::q::r,s,a,b,h,k=>by
  obtain ⟨a1,a2,rfl,h1,h2⟩:=fK.split h
  rw [aal];exact fK.cons h1 (fK.app h2 k)
theorem lL: ∀{rs:List (List PT)} {vs:List SV},U6 (rs.map fK) vs->fK rs.flatten vs
 | [],vs,h=>by have:vs=[]:=h;subst this;exact ⟨(),rfl,trivial⟩
 |r::rs,vs,⟨a,b,h1,h2,h3⟩=>by subst h1;rw [List.flatten_cons];exact fK.app h2 (lL h3)
def bN (P : Program) (t : TypeId) (K : List SV -> Prop) : Prop :=
  ∀ (H : Type) (enc : TypeId × Value -> H) (w : World) (zS : Nat) (cs : List Value) (x : DataW H × List MemPlace), DataW.trod enc P w 0 (fun _ => ahk) ahk zS t cs = ahi x ->
    ∃ vs q, K vs /\ oA vs = ahi q /\ eG (Gr w) fE q cs
section
variable {P : Program}
theorem bN.mono {t:TypeId} {K K':List SV->Prop} (h:bN P t K) (hk: ∀vs,K vs->K' vs):bN P t K':=fun H enc w zS cs x hx=>by obtain ⟨vs,q,h1,h2,h3⟩:=h H enc w zS cs x hx;exact ⟨vs,q,hk vs h1,h2,h3⟩
theorem bN.int {t:TypeId} {k:IntKind} (ht:P.underlying t=ahi (.int k)):bN P t (fK [.i k]):=fun H enc w zS cs x h=>by obtain ⟨n,rfl,_,hw⟩:=DataW.trod_int ht h;exact ⟨[.int k n],[.int k n],⟨n,rfl,hw⟩,rfl,.cons _ _ _ _ (.int k n) .nil⟩
theorem bN.bool {t:TypeId} (ht:P.underlying t=ahi .bool):bN P t (fK [.b]):=fun H enc w zS cs x h=>by obtain ⟨b,rfl,_⟩:=DataW.trod_bool ht h;exact ⟨[.bool b],[.bool b],⟨b,rfl,trivial⟩,rfl,.cons _ _ _ _ (.bool b) .nil⟩
def aY (P:Program):List Field->List (List SV->Prop)->Nat->Prop
 | [],[],_=>True
 |f::fs,K::Ks,off=>f.offset=off/\bN P f.type K/\aY P fs Ks (off+P.cellsOf f.type)
 |_,_,_=>False
theorem aY.nil {off:Nat}:aY P [] [] off:=trivial
theorem aY.cons {f:Field} {fs:List Field} {K:List SV->Prop} {Ks:List (List SV->Prop)} {off:Nat} (h1:f.offset=off) (h2:bN P f.type K) (h3:aY P fs Ks (off+P.cellsOf f.type)):aY P (f::fs) (K::Ks) off:=⟨h1,h2,h3⟩
def xR (P:Program):List Field->Nat
 | []=>0
 |f::fs=>P.cellsOf f.type+xR P fs
theorem Fj {im:Im} {loc:Loc}: ∀{p:List PV} {vs:List Value} {q:List PV} {us:List Value},eG im loc p vs->eG im loc q us->eG im loc (p++q) (vs++us)
 | [],[],_,_,.nil,h=>h
 |_::_,_::_,_,_,.cons x v xs ws h hs,k=> .cons x v _ _ h (Fj hs k)
theorem Fk {H:Type} {enc:TypeId×Value->H} {w:World} {n:Nat} {cs:List Value}: ∀{fs:List Field} {Ks:List (List SV->Prop)} {off:Nat},aY P fs Ks off->ahh cs=off+xR P fs->
 (∀f∈fs,∃x,DataW.trod enc P w 0 (fun _=>ahk) ahk n f.type ((cs.drop f.offset).take (P.cellsOf f.type))=ahi x)-> ∃vs q,U6 Ks vs/\oA vs=ahi q/\eG (Gr w) fE q (cs.drop off)
 | [],[],off,_,hl,_=>⟨[],[],rfl,rfl,by rw [List.drop_eq_nil_of_le (by simp [xR] at hl;omega)];exact .nil⟩
 |f::fs,K::Ks,off,⟨h1,h2,h3⟩,hl,hx=>by
  obtain ⟨x,Qs⟩:=hx f (by simp);obtain ⟨vs,q,k1,k2,k3⟩:=h2 H enc w n _ x Qs;obtain ⟨Lf,q',k1',k2',k3'⟩:=Fk (n:=n) h3 (by simp only [xR] at hl;omega) (fun g hg=>hx g (by simp [hg]));refine ⟨vs++Lf,q++q',⟨vs,Lf,rfl,k1,k1'⟩,z6 k2 k2',?_⟩;rw [h1] at k3;have:cs.drop off=(cs.drop off).take (P.cellsOf f.type)++cs.drop (off+P.cellsOf f.type):=by rw [<- List.drop_drop,List.take_append_drop]
  rw [this];exact Fj k3 k3'
 | [],_::_,_,h,_,_=>h.elim
 |_::_,[],_,h,_,_=>h.elim
theorem bN.struct {t:TypeId} {fs:Array Field} {Ks:List (List SV->Prop)} (ht:P.underlying t=ahi (.struct fs)) (hF:aY P fs.toList Ks 0) (hc:P.cellsOf t=xR P fs.toList):bN P t (U6 Ks):=fun H enc w zS cs x h=>by
 obtain ⟨xs,n,rfl,_,hl,hxl,nI⟩:=DataW.trod_struct ht h;have:=Fk (P:=P) (enc:=enc) (w:=w) (n:=n) (cs:=cs) hF (by omega) (fun f hf=>by
  obtain ⟨i,hi,he⟩:=List.mem_iff_getElem.1 hf;have qk:i<fs.size:=by simpa using hi
  have hg:fs[i]? =ahi f:=by rw [Array.getElem?_eq_getElem qk];simpa using he
  have:=nI i f hg;rw [IR (by omega)] at this;exact ⟨_,this⟩)
 rwa [aaE] at this
theorem RT.vrl {r:List PT} {a:RT r} {q:List PV} (h:oA (RT.sv r a)=ahi q):q=RT.pv r a:=by rw [RT.GX] at h;exact (aaV h).symm
theorem eG.nth {im:Im} {loc:Loc}: ∀{p:List PV} {vs:List Value},eG im loc p vs-> ∀(k:Nat) (c:PV),p[k]? =ahi c-> ∃v,vs[k]? =ahi v/\VR im loc c v
 |_::_,_::_,.cons x v xs ws h hs,0,c,hc=>by simp at hc;subst hc;exact ⟨v,by simp,h⟩
 |_::_,_::_,.cons x v xs ws h hs,k+1,c,hc=>by obtain ⟨u,h1,h2⟩:=eG.nth hs k c (by simpa using hc);exact ⟨u,by simpa using h1,h2⟩
theorem bN.slice {t e:TypeId} {r:List PT} (ht:P.underlying t=ahi (.slice e)) (he:bN P e (fK r)) (hc:P.cellsOf e=ahh r) (hr:0<ahh r):bN P t (Ke r):=fun H enc w zS cs x h=>by
 rcases Go.Deep.open_slice ht h with ⟨rfl,_⟩|⟨a,len,cap,m,n,D,Pl,rfl,_,hl,hm,hmm,_,hx⟩
 · exact ⟨[.sl r []],[.sl (ahh r) ahl []],⟨[],rfl,by simp⟩,rfl,.cons _ _ _ _ (.sl (ahh r) ahl [] ahj 0 (acr _) (fun h=>by cases h) (fun h=>absurd rfl h)) .nil⟩
 have zR:len<=m:=by rw [hmm];split<;>omega
 have each: ∀i,i<len-> ∃A:RT r,RT.wf r A/\ ∃GA,w.cells? 0 (a.add (i*ahh r)) (ahh r)=ahi GA/\eG (Gr w) fE (RT.pv r A) GA:=by intro i hi;obtain ⟨GA,h1,h2⟩:=hx i (by omega);obtain ⟨vs,q,⟨A,hA,wA⟩,k2,k3⟩:=he H enc w n GA _ h2;subst hA;rw [RT.vrl k2] at k3;rw [hc] at h1;exact ⟨A,wA,GA,h1,k3⟩
 have ch: ∃A:Nat->RT r,∀i,i<len->RT.wf r (A i)/\ ∃GA,w.cells? 0 (a.add (i*ahh r)) (ahh r)=ahi GA/\eG (Gr w) fE (RT.pv r (A i)) GA:=by
  classical
  refine ⟨fun i=>if h:i<len then (each i h).choose else RT.zero r,fun i hi=>?_⟩;simp only [dif_pos hi];exact (each i hi).choose_spec
 obtain ⟨A,hA⟩:=ch;refine ⟨[.sl r ((agq len).map A)],[.sl (ahh r) ahl (((agq len).map A).map (RT.pv r))],⟨_,rfl,fun x hx=>?_⟩,rfl,.cons _ _ _ _ ?_ .nil⟩
 · obtain ⟨i,hi,rfl⟩:=agS.1 hx
   exact (hA i (List.mem_range.1 hi)).1
 have bY:(((agq len).map A).map (RT.pv r)).length=len:=by simp
 have:=VR.sl (im:=Gr w) (loc:=fE) (ahh r) ahl (((agq len).map A).map (RT.pv r)) (ahi a) cap (by rw [bY];exact hl) (fun h=>by cases h) (fun dE=>by
  have zI:0<len:=by
   rcases agm len with h|h
   · subst h;exact absurd rfl dE
   exact h
  obtain ⟨_,cs0,h0,_⟩:=hA 0 zI;obtain ⟨_,IZ,Gg⟩:=ah5 h0;obtain ⟨b,off,spot⟩:=a;have aiV:spot=ahj:=by have h1:=Gg 0 hr;rw [IR (by omega)] at h1;simpa [Addr.add] using World.cell?_spot h1
  subst aiV;refine ⟨b,off,rfl,fun i row mg=>?_⟩;simp only [List.map_map,List.getElem?_map,aat] at mg;obtain ⟨j,hj,rfl⟩:=mg;have Lo:=cm hj;have:j=i:=by rw [List.getElem?_range (by simpa using Lo)] at hj;exact (aaV hj).symm
  subst this;have aiW:j<len:=by simpa using Lo
  obtain ⟨_,GA,h1,h2⟩:=hA j aiW;obtain ⟨_,M9,Aw⟩:=ah5 h1;refine ⟨RT.vt r (A j),fun k c hk=>?_⟩;obtain ⟨v,hv,ot⟩:=eG.nth h2 k c hk;have hkr:k<(ahh r):=by
   have:=cm hk
   rwa [Function.comp,RT.vt] at this
  have cc:=Aw k hkr;rw [hv] at cc;rw [Go.WideShapes.add_plain,Go.WideShapes.add_plain] at cc;have Ld:c.plain=ahk:=aaA.1 (RT.plain r (A j)) c (ab1 hk);exact ⟨v,ot.plain Ld,Ph cc⟩)
 rw [bY] at this;exact this
theorem bN.acn {t:TypeId} {fs:Array Field} {K:List SV->Prop} (h:bN P t K) (ht:P.underlying t=ahi (.struct fs)) {H:Type} {enc:TypeId×Value->H} {w:World} {ou:Nat} {v:Value} {d:DataW H} {p:List MemPlace}
 (hv:Value.okWide P w .any ou t v) (hd:DataW.Trod enc P w 0 (fun _=>ahk) ahk t v d p): ∃vs q,K vs/\oA vs=ahi q/\VR (Gr w) fE (.agg q) v:=by
 obtain ⟨cs,rfl,_⟩:=okWide_struct ht hv;obtain ⟨zS,hf⟩:=hd;obtain ⟨vs,q,k1,k2,k3⟩:=h H enc w zS _ _ hf;exact ⟨vs,q,k1,k2,.agg q _ k3⟩
theorem wf_i64 {n:Int} (h:(Lit.int .i64 n).wf=ahk): -9223372036854775808<=n/\n<9223372036854775808:=by
 simp only [Lit.wf,ww,decide_eq_true_eq] at h;have e1:IntKind.i64.min= -9223372036854775808:=by decide
 have e2:IntKind.i64.max=9223372036854775807:=by decide
 rw [e1,e2] at h;omega
end
theorem cQ.amz {F:kH} {f:FuncId} {x:aK} {α:Type} {A:au α} {fn:α->Option Bool} (h:cQ F f ⟨A,Arg.bool,fn,.pure,ahl⟩) (hf:F f=ahi (.code x)) {a:α} (hb:fn a=ahi ahk) {ps:List PV} (hp:oA (A.enc a)=ahi ps) (hx:BH [] (wU [] deep) ps=ahi ps):
 ∃n s z,run F n (.func f ps [] [])=ahi (.func (.bool ahk) s z):=by
 obtain ⟨n,r,h1,p,h2,rfl⟩:=h a ahk ps ps [] [] hb hp hx;have hp':p= .bool ahk:=(aaV h2).symm;subst hp';refine ⟨n,?_⟩;simp only [cC,hx,hf] at h1;split at h1
 · rename_i v s z hr
   simp only [aa2,if_false] at h1;split at h1
   · injection h1 with h1
     injection h1 with h1;subst h1;exact ⟨s,z,hr⟩
   rename_i hn
   split at h1
   · rename_i v' hv
     injection h1 with h1;injection h1 with h1;subst h1;exfalso;cases v with
     |bool b=>exact hn rfl
     |int _ _|str _|sl _ _ _=>injection hv with hv;cases hv
     |agg cs=>simp only [w5,aat] at hv;obtain ⟨_,_,hv⟩:=hv;cases hv
     |bS cs=>simp only [w5,aat] at hv;obtain ⟨_,_,hv⟩:=hv;cases hv
     |own t e off len cap ex=>simp only [w5] at hv;split at hv<;>first|(injection hv with hv;cases hv)|cases hv
     |_=>cases hv
   cases h1
 cases h1
end Go.Vm
